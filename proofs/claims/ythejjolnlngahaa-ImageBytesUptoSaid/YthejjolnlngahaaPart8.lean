/-
  WireBack: pieces of one's own are joined. Wire: two pieces of one's own are joined.
-/
import Derived.Test.YthejjolnlngahaaPart7
namespace Go.Am
open Go.Proofs
set_option maxRecDepth 100000
theorem jr0 (G:Nat→List AV) (la lb lc ld s:List AV) (na nb nc nd l:Nat) (Q:Ex→List AV→Hp→Prop) (R:AV→Hp→Prop):vT G Q R (E8 (Dc Try.prog [] [] [] 5) 200 20 5 (A5 Try.f55 0) 18 [3,7,8,9] [.slice false (.rw 5) (.lit 0) (.var 5 l),.slice false (.rw 0) (.lit 0) (.lit 4),.int .i64 (.lit 4),.int .i64 (.lit 0)] [some ⟨1,.of [.slice false (.rw 1) (.lit 0) (.var 1 na),.slice false (.rw 2) (.lit 0) (.var 2 nb),.slice false (.rw 3) (.lit 0) (.var 3 nc),.slice false (.rw 4) (.lit 0) (.var 4 nd)]⟩,some ⟨1,.var 11 la⟩,some ⟨1,.var 12 lb⟩,some ⟨1,.var 13 lc⟩,some ⟨1,.var 14 ld⟩,some ⟨1,.var 15 s⟩])=(
  leB (na) (List.length la)=true∧cellsB (A7 la (0) (na))=true∧leB (l+na) (140737488355328)=true∧Nat.beq (List.length s) (l)=true∧Q .normal [.slice false (.rw 6) (0) (l+na),.slice false (.rw 0) (0) (4),.int .i64 (4),.int .i64 (1)] [some ⟨1,([.slice false (.rw 1) (0) (na),.slice false (.rw 2) (0) (nb),.slice false (.rw 3) (0) (nc),.slice false (.rw 4) (0) (nd)]:List AV)⟩,some ⟨1,la⟩,some ⟨1,lb⟩,some ⟨1,lc⟩,some ⟨1,ld⟩,none,some ⟨1,(s++(A7 la (0) (na)))⟩]):=by kernel_rfl
theorem jr1 (G:Nat→List AV) (la lb lc ld s:List AV) (na nb nc nd l:Nat) (Q:Ex→List AV→Hp→Prop) (R:AV→Hp→Prop):vT G Q R (E8 (Dc Try.prog [] [] [] 5) 200 20 5 (A5 Try.f55 0) 18 [3,7,8,9] [.slice false (.rw 5) (.lit 0) (.var 5 l),.slice false (.rw 0) (.lit 0) (.lit 4),.int .i64 (.lit 4),.int .i64 (.lit 1)] [some ⟨1,.of [.slice false (.rw 1) (.lit 0) (.var 1 na),.slice false (.rw 2) (.lit 0) (.var 2 nb),.slice false (.rw 3) (.lit 0) (.var 3 nc),.slice false (.rw 4) (.lit 0) (.var 4 nd)]⟩,some ⟨1,.var 11 la⟩,some ⟨1,.var 12 lb⟩,some ⟨1,.var 13 lc⟩,some ⟨1,.var 14 ld⟩,some ⟨1,.var 15 s⟩])=(
  leB (nb) (List.length lb)=true∧cellsB (A7 lb (0) (nb))=true∧leB (l+nb) (140737488355328)=true∧Nat.beq (List.length s) (l)=true∧Q .normal [.slice false (.rw 6) (0) (l+nb),.slice false (.rw 0) (0) (4),.int .i64 (4),.int .i64 (2)] [some ⟨1,([.slice false (.rw 1) (0) (na),.slice false (.rw 2) (0) (nb),.slice false (.rw 3) (0) (nc),.slice false (.rw 4) (0) (nd)]:List AV)⟩,some ⟨1,la⟩,some ⟨1,lb⟩,some ⟨1,lc⟩,some ⟨1,ld⟩,none,some ⟨1,(s++(A7 lb (0) (nb)))⟩]):=by kernel_rfl
theorem jr2 (G:Nat→List AV) (la lb lc ld s:List AV) (na nb nc nd l:Nat) (Q:Ex→List AV→Hp→Prop) (R:AV→Hp→Prop):vT G Q R (E8 (Dc Try.prog [] [] [] 5) 200 20 5 (A5 Try.f55 0) 18 [3,7,8,9] [.slice false (.rw 5) (.lit 0) (.var 5 l),.slice false (.rw 0) (.lit 0) (.lit 4),.int .i64 (.lit 4),.int .i64 (.lit 2)] [some ⟨1,.of [.slice false (.rw 1) (.lit 0) (.var 1 na),.slice false (.rw 2) (.lit 0) (.var 2 nb),.slice false (.rw 3) (.lit 0) (.var 3 nc),.slice false (.rw 4) (.lit 0) (.var 4 nd)]⟩,some ⟨1,.var 11 la⟩,some ⟨1,.var 12 lb⟩,some ⟨1,.var 13 lc⟩,some ⟨1,.var 14 ld⟩,some ⟨1,.var 15 s⟩])=(
  leB (nc) (List.length lc)=true∧cellsB (A7 lc (0) (nc))=true∧leB (l+nc) (140737488355328)=true∧Nat.beq (List.length s) (l)=true∧Q .normal [.slice false (.rw 6) (0) (l+nc),.slice false (.rw 0) (0) (4),.int .i64 (4),.int .i64 (3)] [some ⟨1,([.slice false (.rw 1) (0) (na),.slice false (.rw 2) (0) (nb),.slice false (.rw 3) (0) (nc),.slice false (.rw 4) (0) (nd)]:List AV)⟩,some ⟨1,la⟩,some ⟨1,lb⟩,some ⟨1,lc⟩,some ⟨1,ld⟩,none,some ⟨1,(s++(A7 lc (0) (nc)))⟩]):=by kernel_rfl
theorem jr3 (G:Nat→List AV) (la lb lc ld s:List AV) (na nb nc nd l:Nat) (Q:Ex→List AV→Hp→Prop) (R:AV→Hp→Prop):vT G Q R (E8 (Dc Try.prog [] [] [] 5) 200 20 5 (A5 Try.f55 0) 18 [3,7,8,9] [.slice false (.rw 5) (.lit 0) (.var 5 l),.slice false (.rw 0) (.lit 0) (.lit 4),.int .i64 (.lit 4),.int .i64 (.lit 3)] [some ⟨1,.of [.slice false (.rw 1) (.lit 0) (.var 1 na),.slice false (.rw 2) (.lit 0) (.var 2 nb),.slice false (.rw 3) (.lit 0) (.var 3 nc),.slice false (.rw 4) (.lit 0) (.var 4 nd)]⟩,some ⟨1,.var 11 la⟩,some ⟨1,.var 12 lb⟩,some ⟨1,.var 13 lc⟩,some ⟨1,.var 14 ld⟩,some ⟨1,.var 15 s⟩])=(
  leB (nd) (List.length ld)=true∧cellsB (A7 ld (0) (nd))=true∧leB (l+nd) (140737488355328)=true∧Nat.beq (List.length s) (l)=true∧Q .normal [.slice false (.rw 6) (0) (l+nd),.slice false (.rw 0) (0) (4),.int .i64 (4),.int .i64 (4)] [some ⟨1,([.slice false (.rw 1) (0) (na),.slice false (.rw 2) (0) (nb),.slice false (.rw 3) (0) (nc),.slice false (.rw 4) (0) (nd)]:List AV)⟩,some ⟨1,la⟩,some ⟨1,lb⟩,some ⟨1,lc⟩,some ⟨1,ld⟩,none,some ⟨1,(s++(A7 ld (0) (nd)))⟩]):=by kernel_rfl
theorem jr4 (G:Nat→List AV) (la lb lc ld s:List AV) (na nb nc nd l:Nat) (Q:Ex→List AV→Hp→Prop) (R:AV→Hp→Prop):vT G Q R (E8 (Dc Try.prog [] [] [] 5) 200 20 5 (A5 Try.f55 0) 18 [3,7,8,9] [.slice false (.rw 5) (.lit 0) (.var 5 l),.slice false (.rw 0) (.lit 0) (.lit 4),.int .i64 (.lit 4),.int .i64 (.lit 4)] [some ⟨1,.of [.slice false (.rw 1) (.lit 0) (.var 1 na),.slice false (.rw 2) (.lit 0) (.var 2 nb),.slice false (.rw 3) (.lit 0) (.var 3 nc),.slice false (.rw 4) (.lit 0) (.var 4 nd)]⟩,some ⟨1,.var 11 la⟩,some ⟨1,.var 12 lb⟩,some ⟨1,.var 13 lc⟩,some ⟨1,.var 14 ld⟩,some ⟨1,.var 15 s⟩])=(
  Q (.exit 0) [.slice false (.rw 5) (0) (l),.slice false (.rw 0) (0) (4),.int .i64 (4),.int .i64 (4)] [some ⟨1,([.slice false (.rw 1) (0) (na),.slice false (.rw 2) (0) (nb),.slice false (.rw 3) (0) (nc),.slice false (.rw 4) (0) (nd)]:List AV)⟩,some ⟨1,la⟩,some ⟨1,lb⟩,some ⟨1,lc⟩,some ⟨1,ld⟩,some ⟨1,s⟩]):=by kernel_rfl
theorem fJ (G:Nat→List AV) (B:Nat):DGood (⟨Try.prog,G,B⟩:A2) (Dc Try.prog [] [] [] 5) []:=D3 (mix G B) (by kernel_rfl) .nil .nil
def S7 (na nb nc nd:Nat):Option Blk:=some ⟨1,[.slice false (.rw 1) 0 na,.slice false (.rw 2) 0 nb,.slice false (.rw 3) 0 nc,.slice false (.rw 4) 0 nd]⟩
theorem jnx {la lb lc ld y:List AV} {m:Nat} {i:Int} (ha:A4 0 la=true) (hb:A4 0 lb=true) (hc:A4 0 lc=true) (hd:A4 0 ld=true) (hy:A4 0 y=true) :
  C2 5 [.slice false (.rw 5) 0 m,.slice false (.rw 0) 0 4,.int .i64 4,.int .i64 i] [S7 la.length lb.length lc.length ld.length,some ⟨1,la⟩,some ⟨1,lb⟩,some ⟨1,lc⟩,some ⟨1,ld⟩,some ⟨1,y⟩] [.slice false (.rw 6) 0 m,.slice false (.rw 0) 0 4,.int .i64 4,.int .i64 i] [S7 la.length lb.length lc.length ld.length,some ⟨1,la⟩,some ⟨1,lb⟩,some ⟨1,lc⟩,some ⟨1,ld⟩,none,some ⟨1,y⟩]:=by
 have f:∀ {l:List AV},A4 0 l=true→A4 6 l=true∧some (some (⟨1,l⟩:Blk))=some (some ⟨1,rens [0,1,2,3,4,6] l⟩):=fun h=>⟨I3 (Nat.zero_le _) _ h,by rw [B5 _ _ h]⟩;refine C2.renM (θ:=[0,1,2,3,4,6]) (by simp) (fun i hi=>?_) (by decide) ⟨⟨by simp [A4,A8],by simp [rens,C1,S7]⟩,f ha,f hb,f hc,f hd,f hy,trivial⟩ (by simp [A4,A8]) (by simp [rens,C1,wk])
 have:i=0∨i=1∨i=2∨i=3∨i=4:=by omega
 rcases this with rfl | rfl | rfl | rfl | rfl<;>rfl
def Bu (la lb lc ld:List AV):Nat→List AV
 | 0=>[]
 | 1=>la
 | 2=>la++lb
 | 3=>(la++lb)++lc
 | _=>((la++lb)++lc)++ld
theorem yK (G:Nat→List AV) (B:Nat) (la lb lc ld:List AV) (ua:u8s la=true) (ub:u8s lb=true) (uc:u8s lc=true) (ud:u8s ld=true) (ht:la.length+lb.length+lc.length+ld.length≤1099511627776) :
  AWp (⟨Try.prog,G,B⟩:A2) 5 (.loop (A5 Try.f55 0)) (fl 18 [3,7,8,9] [.slice false (.rw 5) 0 0,.slice false (.rw 0) 0 4,.int .i64 4,.int .i64 0]) [S7 la.length lb.length lc.length ld.length,some ⟨1,la⟩,some ⟨1,lb⟩,some ⟨1,lc⟩,some ⟨1,ld⟩,some ⟨1,[]⟩]
   (lv 18 [3,7,8,9] fun e vs H=>e=.exit 0∧wk [.slice false (.rw 5) 0 (((la++lb)++lc)++ld).length,.undef,.undef,.undef] vs∧H=[S7 la.length lb.length lc.length ld.length,some ⟨1,la⟩,some ⟨1,lb⟩,some ⟨1,lc⟩,some ⟨1,ld⟩,some ⟨1,((la++lb)++lc)++ld⟩]):=by
 have fa:=B7 (k:=0) ua;have fb:=B7 (k:=0) ub;have fc:=B7 (k:=0) uc;have fd:=B7 (k:=0) ud;have sub:∀ {l:List AV},A7 l 0 l.length=l:=fun {l}=>by simp [A7]
 refine U8 (fun j vs H=>∃ i:Nat,i≤4∧j=4 - i∧vs=[.slice false (.rw 5) 0 (Bu la lb lc ld i).length,.slice false (.rw 0) 0 4,.int .i64 4,.int .i64 (i:Int)]∧H=[S7 la.length lb.length lc.length ld.length,some ⟨1,la⟩,some ⟨1,lb⟩,some ⟨1,lc⟩,some ⟨1,ld⟩,some ⟨1,Bu la lb lc ld i⟩]) 4 ⟨0,by omega,rfl,rfl,rfl⟩ ?_;rintro j vs H ⟨i,hi,rfl,rfl,rfl⟩;have hcase:i=0∨i=1∨i=2∨i=3∨i=4:=by omega
 rcases hcase with rfl | rfl | rfl | rfl | rfl
 ·refine D4 (C:=(⟨Try.prog,G,B⟩:A2)) (fJ G B) (fuel:=200) (n0:=20) (m:=5) (c:=A5 Try.f55 0) (vs:=[.slice false (.rw 5) (.lit 0) (.var 5 (Bu la lb lc ld 0).length),.slice false (.rw 0) (.lit 0) (.lit 4),.int .i64 (.lit 4),.int .i64 (.lit 0)]) (H:=[some ⟨1,.of [.slice false (.rw 1) (.lit 0) (.var 1 la.length),.slice false (.rw 2) (.lit 0) (.var 2 lb.length),.slice false (.rw 3) (.lit 0) (.var 3 lc.length),.slice false (.rw 4) (.lit 0) (.var 4 ld.length)]⟩,some ⟨1,.var 11 la⟩,some ⟨1,.var 12 lb⟩,some ⟨1,.var 13 lc⟩,some ⟨1,.var 14 ld⟩,some ⟨1,.var 15 (Bu la lb lc ld 0)⟩]) (by simp) ?_
  rw [jr0,sub];refine ⟨A6.2 (Nat.le_refl _),G2 ua,A6.2 (by simp [Bu];omega),Nat.beq_refl _,⟨3,by omega,.inr ⟨_,_,⟨1,by omega,rfl,rfl,rfl⟩,?_⟩⟩⟩
  have:=jnx (m:=la.length) (i:=1) fa fb fc fd (y:=la) fa
  simpa [Bu,S7] using this
 ·refine D4 (C:=(⟨Try.prog,G,B⟩:A2)) (fJ G B) (fuel:=200) (n0:=20) (m:=5) (c:=A5 Try.f55 0) (vs:=[.slice false (.rw 5) (.lit 0) (.var 5 (Bu la lb lc ld 1).length),.slice false (.rw 0) (.lit 0) (.lit 4),.int .i64 (.lit 4),.int .i64 (.lit 1)]) (H:=[some ⟨1,.of [.slice false (.rw 1) (.lit 0) (.var 1 la.length),.slice false (.rw 2) (.lit 0) (.var 2 lb.length),.slice false (.rw 3) (.lit 0) (.var 3 lc.length),.slice false (.rw 4) (.lit 0) (.var 4 ld.length)]⟩,some ⟨1,.var 11 la⟩,some ⟨1,.var 12 lb⟩,some ⟨1,.var 13 lc⟩,some ⟨1,.var 14 ld⟩,some ⟨1,.var 15 (Bu la lb lc ld 1)⟩]) (by simp) ?_
  rw [jr1,sub];refine ⟨A6.2 (Nat.le_refl _),G2 ub,A6.2 (by simp [Bu];omega),Nat.beq_refl _,⟨2,by omega,.inr ⟨_,_,⟨2,by omega,rfl,rfl,rfl⟩,?_⟩⟩⟩
  have:=jnx (m:=(la++lb).length) (i:=2) fa fb fc fd (y:=la++lb) (B7 (by simp [C3,ua,ub]))
  simpa [Bu,S7] using this
 ·refine D4 (C:=(⟨Try.prog,G,B⟩:A2)) (fJ G B) (fuel:=200) (n0:=20) (m:=5) (c:=A5 Try.f55 0) (vs:=[.slice false (.rw 5) (.lit 0) (.var 5 (Bu la lb lc ld 2).length),.slice false (.rw 0) (.lit 0) (.lit 4),.int .i64 (.lit 4),.int .i64 (.lit 2)]) (H:=[some ⟨1,.of [.slice false (.rw 1) (.lit 0) (.var 1 la.length),.slice false (.rw 2) (.lit 0) (.var 2 lb.length),.slice false (.rw 3) (.lit 0) (.var 3 lc.length),.slice false (.rw 4) (.lit 0) (.var 4 ld.length)]⟩,some ⟨1,.var 11 la⟩,some ⟨1,.var 12 lb⟩,some ⟨1,.var 13 lc⟩,some ⟨1,.var 14 ld⟩,some ⟨1,.var 15 (Bu la lb lc ld 2)⟩]) (by simp) ?_
  rw [jr2,sub];refine ⟨A6.2 (Nat.le_refl _),G2 uc,A6.2 (by simp [Bu];omega),Nat.beq_refl _,⟨1,by omega,.inr ⟨_,_,⟨3,by omega,rfl,rfl,rfl⟩,?_⟩⟩⟩
  have:=jnx (m:=((la++lb)++lc).length) (i:=3) fa fb fc fd (y:=(la++lb)++lc) (B7 (by simp [C3,ua,ub,uc]))
  simpa [Bu,S7,Nat.add_assoc] using this
 ·refine D4 (C:=(⟨Try.prog,G,B⟩:A2)) (fJ G B) (fuel:=200) (n0:=20) (m:=5) (c:=A5 Try.f55 0) (vs:=[.slice false (.rw 5) (.lit 0) (.var 5 (Bu la lb lc ld 3).length),.slice false (.rw 0) (.lit 0) (.lit 4),.int .i64 (.lit 4),.int .i64 (.lit 3)]) (H:=[some ⟨1,.of [.slice false (.rw 1) (.lit 0) (.var 1 la.length),.slice false (.rw 2) (.lit 0) (.var 2 lb.length),.slice false (.rw 3) (.lit 0) (.var 3 lc.length),.slice false (.rw 4) (.lit 0) (.var 4 ld.length)]⟩,some ⟨1,.var 11 la⟩,some ⟨1,.var 12 lb⟩,some ⟨1,.var 13 lc⟩,some ⟨1,.var 14 ld⟩,some ⟨1,.var 15 (Bu la lb lc ld 3)⟩]) (by simp) ?_
  rw [jr3,sub];refine ⟨A6.2 (Nat.le_refl _),G2 ud,A6.2 (by simp [Bu];omega),Nat.beq_refl _,⟨0,by omega,.inr ⟨_,_,⟨4,by omega,rfl,rfl,rfl⟩,?_⟩⟩⟩
  have:=jnx (m:=(((la++lb)++lc)++ld).length) (i:=4) fa fb fc fd (y:=((la++lb)++lc)++ld) (B7 (by simp [C3,ua,ub,uc,ud]))
  simpa [Bu,S7,Nat.add_assoc] using this
 ·refine D4 (C:=(⟨Try.prog,G,B⟩:A2)) (fJ G B) (fuel:=200) (n0:=20) (m:=5) (c:=A5 Try.f55 0) (vs:=[.slice false (.rw 5) (.lit 0) (.var 5 (Bu la lb lc ld 4).length),.slice false (.rw 0) (.lit 0) (.lit 4),.int .i64 (.lit 4),.int .i64 (.lit 4)]) (H:=[some ⟨1,.of [.slice false (.rw 1) (.lit 0) (.var 1 la.length),.slice false (.rw 2) (.lit 0) (.var 2 lb.length),.slice false (.rw 3) (.lit 0) (.var 3 lc.length),.slice false (.rw 4) (.lit 0) (.var 4 ld.length)]⟩,some ⟨1,.var 11 la⟩,some ⟨1,.var 12 lb⟩,some ⟨1,.var 13 lc⟩,some ⟨1,.var 14 ld⟩,some ⟨1,.var 15 (Bu la lb lc ld 4)⟩]) (by simp) ?_
  rw [jr4];exact ⟨rfl,by simp [wk,Bu],rfl⟩
def jbL:DL:=⟨0,18,[3,7,8,9],fun vs H=>match vs,H with
 | [.slice false (.rw 5) (.lit 0) (.lit 0),.slice false (.rw 0) (.lit 0) (.lit 4),.int .i64 (.lit 4),.int .i64 (.lit 0)],
  [some ⟨1,.of [.slice false (.rw 1) (.lit 0) na,.slice false (.rw 2) (.lit 0) nb,.slice false (.rw 3) (.lit 0) nc,.slice false (.rw 4) (.lit 0) nd]⟩,some ⟨1,la⟩,some ⟨1,lb⟩,some ⟨1,lc⟩,some ⟨1,ld⟩,some ⟨1,.of []⟩]=>
  some (.chk (.eqN (.len la) na)<|.chk (.eqN (.len lb) nb)<|.chk (.eqN (.len lc) nc)<|.chk (.eqN (.len ld) nd)<|.chk (.u8s la)<|.chk (.u8s lb)<|.chk (.u8s lc)<|.chk (.u8s ld)<|.chk (.leN (.add (.add (.add na nb) nc) nd) (.lit 1099511627776)) <|
   .one (.exit 0) [.slice false (.rw 5) (.lit 0) (.len (.app (.app (.app la lb) lc) ld)),.undef,.undef,.undef]
    [some ⟨1,.of [.slice false (.rw 1) (.lit 0) na,.slice false (.rw 2) (.lit 0) nb,.slice false (.rw 3) (.lit 0) nc,.slice false (.rw 4) (.lit 0) nd]⟩,some ⟨1,la⟩,some ⟨1,lb⟩,some ⟨1,lc⟩,some ⟨1,ld⟩,some ⟨1,.app (.app (.app la lb) lc) ld⟩])
 | _,_=>none⟩
theorem jbL_ok (G:Nat→List AV) (B:Nat):H5 (⟨Try.prog,G,B⟩:A2) 5 (A5 Try.f55 0) jbL:=by
 refine .of fun vs H o ho n Q hQ=>?_;simp only [jbL] at ho;split at ho
 ·rename_i na nb nc nd la lb lc ld;simp only [Option.some.injEq] at ho;subst ho;obtain ⟨h1,h2,h3,h4,h5,h6,h7,h8,h9,hh⟩:=hQ;simp only [vB,vN] at h1 h2 h3 h4 h5 h6 h7 h8 h9;have e1:=Nat.eq_of_beq_eq_true h1;have e2:=Nat.eq_of_beq_eq_true h2;have e3:=Nat.eq_of_beq_eq_true h3;have e4:=Nat.eq_of_beq_eq_true h4;refine lone ?_ hh;simp only [jbL,vVs,vV,vR,vN,vI,vL,B8,List.map_cons,List.map_nil,Option.map_some,C8];have h9:=A6.1 h9;have key:=yK G B (vL G la) (vL G lb) (vL G lc) (vL G ld) h5 h6 h7 h8 (by omega);rw [S7,e1,e2,e3,e4] at key;exact key
 ·simp at ho
theorem dgJB (G:Nat→List AV) (B:Nat):DGood (⟨Try.prog,G,B⟩:A2) (Dc Try.prog [] [] [jbL] 5) (loopsOf (B4 Try.f55)):=D3 (mix G B) (by kernel_rfl) .nil (.cast (.cons (i:=0) (by kernel_rfl) rfl (jbL_ok G B) .nil) (by kernel_rfl))
theorem w10b (G:Nat→List AV) (la lb lc ld:List AV) (na nb nc nd:Nat) (Q:Ex→List AV→Hp→Prop) (R:AV→Hp→Prop):vT G Q R (G6 (Dc Try.prog [] [] [jbL] 5) 200 20 Try.f55 [.slice false (.rw 0) (.lit 0) (.lit 4)] [some ⟨1,.of [.slice false (.rw 1) (.lit 0) (.var 1 na),.slice false (.rw 2) (.lit 0) (.var 2 nb),.slice false (.rw 3) (.lit 0) (.var 3 nc),.slice false (.rw 4) (.lit 0) (.var 4 nd)]⟩,some ⟨1,.var 11 la⟩,some ⟨1,.var 12 lb⟩,some ⟨1,.var 13 lc⟩,some ⟨1,.var 14 ld⟩] 6)=(
  Nat.beq (List.length la) (na)=true∧Nat.beq (List.length lb) (nb)=true∧Nat.beq (List.length lc) (nc)=true∧Nat.beq (List.length ld) (nd)=true∧u8s la=true∧u8s lb=true∧u8s lc=true∧u8s ld=true∧leB (na+nb+nc+nd) (1099511627776)=true∧R (.slice false (.rw 5) (0) (List.length (((la++lb)++lc)++ld))) [some ⟨1,([.slice false (.rw 1) (0) (na),.slice false (.rw 2) (0) (nb),.slice false (.rw 3) (0) (nc),.slice false (.rw 4) (0) (nd)]:List AV)⟩,some ⟨1,la⟩,some ⟨1,lb⟩,some ⟨1,lc⟩,some ⟨1,ld⟩,some ⟨1,(((la++lb)++lc)++ld)⟩]):=by kernel_rfl
theorem yJ (G:Nat→List AV) (B:Nat) (la lb lc ld:List AV) (ua:u8s la=true) (ub:u8s lb=true) (uc:u8s lc=true) (ud:u8s ld=true) (ht:la.length+lb.length+lc.length+ld.length≤1099511627776) :
  ACalls (⟨Try.prog,G,B⟩:A2) 55 [.slice false (.rw 0) 0 4] [S7 la.length lb.length lc.length ld.length,some ⟨1,la⟩,some ⟨1,lb⟩,some ⟨1,lc⟩,some ⟨1,ld⟩] fun v' H'=>v'=.slice false (.rw 5) 0 (((la++lb)++lc)++ld).length∧H'=[S7 la.length lb.length lc.length ld.length,some ⟨1,la⟩,some ⟨1,lb⟩,some ⟨1,lc⟩,some ⟨1,ld⟩,some ⟨1,((la++lb)++lc)++ld⟩]:=by
 have f:∀ {l:List AV} {j:Nat},u8s l=true→A4 j l=true:=fun h=>B7 h
 have key:=C7 (C:=(⟨Try.prog,G,B⟩:A2)) (fn:=Try.f55) (f:=55) (R:=fun v' H'=>v'=.slice false (.rw 5) 0 (((la++lb)++lc)++ld).length∧H'=[S7 la.length lb.length lc.length ld.length,some ⟨1,la⟩,some ⟨1,lb⟩,some ⟨1,lc⟩,some ⟨1,ld⟩,some ⟨1,((la++lb)++lc)++ld⟩]) (dgJB G B) (by kernel_rfl) (by kernel_rfl) (by kernel_rfl) (fuel:=200) (n0:=20) (keep:=6) (args:=[.slice false (.rw 0) (.lit 0) (.lit 4)])
  (H:=[some ⟨1,.of [.slice false (.rw 1) (.lit 0) (.var 1 la.length),.slice false (.rw 2) (.lit 0) (.var 2 lb.length),.slice false (.rw 3) (.lit 0) (.var 3 lc.length),.slice false (.rw 4) (.lit 0) (.var 4 ld.length)]⟩,some ⟨1,.var 11 la⟩,some ⟨1,.var 12 lb⟩,some ⟨1,.var 13 lc⟩,some ⟨1,.var 14 ld⟩]) (by
  rw [w10b]
  exact ⟨Nat.beq_refl _,Nat.beq_refl _,Nat.beq_refl _,Nat.beq_refl _,ua,ub,uc,ud,A6.2 ht,rfl,rfl⟩)
 exact ACalls.keep (H:=[S7 la.length lb.length lc.length ld.length,some ⟨1,la⟩,some ⟨1,lb⟩,some ⟨1,lc⟩,some ⟨1,ld⟩]) (H1:=[S7 la.length lb.length lc.length ld.length,some ⟨1,la⟩,some ⟨1,lb⟩,some ⟨1,lc⟩,some ⟨1,ld⟩,some ⟨1,((la++lb)++lc)++ld⟩]) key (by simp) (by simp [J5,S7,A4,A8,f ua,f ub,f uc,f ud,B7,C3,ua,ub,uc,ud]) (by simp [A8]) (by simp)
def ndB:List Nat→Bool
 | []=>true
 | x::l=>!(l.any (Nat.beq x))&&ndB l
theorem dQ:∀ {l:List Nat},ndB l=true→l.Nodup
 | [],_=>by simp
 | x::l,h=>by
  simp only [ndB,Bool.and_eq_true,Bool.not_eq_true'] at h;rw [List.nodup_cons];refine ⟨fun hm=>?_,dQ h.2⟩
  have:=List.any_eq_false.1 h.1 x hm
  simp at this
def joinB:DSum:=fun xs H=>match xs with
 | [.slice false (.rw j) (.lit 0) (.lit 4)]=>match H[j]? with
  | some (some ⟨1,.of [.slice false (.rw a) (.lit 0) na,.slice false (.rw b) (.lit 0) nb,.slice false (.rw c) (.lit 0) nc,.slice false (.rw d) (.lit 0) nd]⟩)=>match H[a]?,H[b]?,H[c]?,H[d]?,ndB [j,a,b,c,d] with
   | some (some ⟨1,la⟩),some (some ⟨1,lb⟩),some (some ⟨1,lc⟩),some (some ⟨1,ld⟩),true=>
    some (.chk (.eqN (.len la) na)<|.chk (.eqN (.len lb) nb)<|.chk (.eqN (.len lc) nc)<|.chk (.eqN (.len ld) nd)<|.chk (.u8s la)<|.chk (.u8s lb)<|.chk (.u8s lc)<|.chk (.u8s ld)<|.chk (.leN (.add (.add (.add na nb) nc) nd) (.lit 1099511627776)) <|
     .one (.slice false (.rw H.length) (.lit 0) (.len (.app (.app (.app la lb) lc) ld))) [.new ⟨1,.app (.app (.app la lb) lc) ld⟩])
   | _,_,_,_,_=>none
  | _=>none
 | _=>none
theorem tG (G:Nat→List AV) (B:Nat):C5 (⟨Try.prog,G,B⟩:A2) 55 joinB:=by
 intro xs H o ho;simp only [joinB] at ho;split at ho
 ·rename_i j;split at ho
  ·rename_i a na b nb c nc d nd hj;split at ho
   ·rename_i la lb lc ld ha hb hc hd hnd;simp only [Option.some.injEq] at ho;subst ho;intro h1 h2 h3 h4 h5 h6 h7 h8 h9;simp only [vB,vN] at h1 h2 h3 h4 h5 h6 h7 h8 h9;have e1:=Nat.eq_of_beq_eq_true h1;have e2:=Nat.eq_of_beq_eq_true h2;have e3:=Nat.eq_of_beq_eq_true h3;have e4:=Nat.eq_of_beq_eq_true h4;have h9:=A6.1 h9;have f:∀ {l:List AV} {j:Nat},u8s l=true→A4 j l=true:=fun h=>B7 h;have key:=yJ G B (vL G la) (vL G lb) (vL G lc) (vL G ld) h5 h6 h7 h8 (by omega)
    have live:∀ {i:Nat} {l:EL},H[i]?=some (some ⟨1,l⟩)→u8s (vL G l)=true→(B8 G H)[i]?=some (some (K2 [j,a,b,c,d] ⟨1,vL G l⟩)):=fun hi hu=>by
     have:=E9 (G:=G) hi
     simpa [K2,C8,B5 _ _ (f (j:=0) hu)] using this
    refine E0.newN (C:=(⟨Try.prog,G,B⟩:A2)) (θ:=[j,a,b,c,d]) (b:=⟨1,.app (.app (.app la lb) lc) ld⟩) (dQ hnd) rfl (fun k x hk=>?_) (by simp [A4,A8]) (by simp [vVs,vV,vR,vN,rens,C1]) key (by simp only [vL];exact f (by simp [C3,h5,h6,h7,h8])) (by simp [A8]) (by simp [vV,vR,vN,vL,C1,R3])
    match k with
    | 0=>
     simp [S7] at hk;subst hk;refine ⟨_,rfl,by simp [A4,A8],?_⟩
     have:=E9 (G:=G) hj
     simpa [K2,C8,vL,vVs,vV,vR,vN,rens,C1,e1,e2,e3,e4] using this
    | 1=>simp at hk;subst hk;exact ⟨_,rfl,f h5,by simpa using live ha h5⟩
    | 2=>simp at hk;subst hk;exact ⟨_,rfl,f h6,by simpa using live hb h6⟩
    | 3=>simp at hk;subst hk;exact ⟨_,rfl,f h7,by simpa using live hc h7⟩
    | 4=>simp at hk;subst hk;exact ⟨_,rfl,f h8,by simpa using live hd h8⟩
    | k+5=>simp at hk
   ·simp at ho
  ·simp at ho
 ·simp at ho
end Go.Am
namespace Go.Am
open Go.Proofs
set_option maxRecDepth 100000
theorem jp0 (G:Nat→List AV) (la lb s:List AV) (na nb l:Nat) (Q:Ex→List AV→Hp→Prop) (R:AV→Hp→Prop):vT G Q R (E8 (Dc Try.prog [] [] [] 3) 200 20 3 (A5 Try.f55 0) 18 [3,7,8,9] [.slice false (.rw 3) (.lit 0) (.var 5 l),.slice false (.rw 0) (.lit 0) (.lit 2),.int .i64 (.lit 2),.int .i64 (.lit 0)] [some ⟨1,.of [.slice false (.rw 1) (.lit 0) (.var 1 na),.slice false (.rw 2) (.lit 0) (.var 2 nb)]⟩,some ⟨1,.var 11 la⟩,some ⟨1,.var 12 lb⟩,some ⟨1,.var 15 s⟩])=(
  leB (na) (List.length la)=true∧cellsB (A7 la (0) (na))=true∧leB (l+na) (140737488355328)=true∧Nat.beq (List.length s) (l)=true∧Q .normal [.slice false (.rw 4) (0) (l+na),.slice false (.rw 0) (0) (2),.int .i64 (2),.int .i64 (1)] [some ⟨1,([.slice false (.rw 1) (0) (na),.slice false (.rw 2) (0) (nb)]:List AV)⟩,some ⟨1,la⟩,some ⟨1,lb⟩,none,some ⟨1,(s++(A7 la (0) (na)))⟩]):=by kernel_rfl
theorem jp1 (G:Nat→List AV) (la lb s:List AV) (na nb l:Nat) (Q:Ex→List AV→Hp→Prop) (R:AV→Hp→Prop):vT G Q R (E8 (Dc Try.prog [] [] [] 3) 200 20 3 (A5 Try.f55 0) 18 [3,7,8,9] [.slice false (.rw 3) (.lit 0) (.var 5 l),.slice false (.rw 0) (.lit 0) (.lit 2),.int .i64 (.lit 2),.int .i64 (.lit 1)] [some ⟨1,.of [.slice false (.rw 1) (.lit 0) (.var 1 na),.slice false (.rw 2) (.lit 0) (.var 2 nb)]⟩,some ⟨1,.var 11 la⟩,some ⟨1,.var 12 lb⟩,some ⟨1,.var 15 s⟩])=(
  leB (nb) (List.length lb)=true∧cellsB (A7 lb (0) (nb))=true∧leB (l+nb) (140737488355328)=true∧Nat.beq (List.length s) (l)=true∧Q .normal [.slice false (.rw 4) (0) (l+nb),.slice false (.rw 0) (0) (2),.int .i64 (2),.int .i64 (2)] [some ⟨1,([.slice false (.rw 1) (0) (na),.slice false (.rw 2) (0) (nb)]:List AV)⟩,some ⟨1,la⟩,some ⟨1,lb⟩,none,some ⟨1,(s++(A7 lb (0) (nb)))⟩]):=by kernel_rfl
theorem jp2 (G:Nat→List AV) (la lb s:List AV) (na nb l:Nat) (Q:Ex→List AV→Hp→Prop) (R:AV→Hp→Prop):vT G Q R (E8 (Dc Try.prog [] [] [] 3) 200 20 3 (A5 Try.f55 0) 18 [3,7,8,9] [.slice false (.rw 3) (.lit 0) (.var 5 l),.slice false (.rw 0) (.lit 0) (.lit 2),.int .i64 (.lit 2),.int .i64 (.lit 2)] [some ⟨1,.of [.slice false (.rw 1) (.lit 0) (.var 1 na),.slice false (.rw 2) (.lit 0) (.var 2 nb)]⟩,some ⟨1,.var 11 la⟩,some ⟨1,.var 12 lb⟩,some ⟨1,.var 15 s⟩])=(
  Q (.exit 0) [.slice false (.rw 3) (0) (l),.slice false (.rw 0) (0) (2),.int .i64 (2),.int .i64 (2)] [some ⟨1,([.slice false (.rw 1) (0) (na),.slice false (.rw 2) (0) (nb)]:List AV)⟩,some ⟨1,la⟩,some ⟨1,lb⟩,some ⟨1,s⟩]):=by kernel_rfl
theorem tT (G:Nat→List AV) (B:Nat):DGood (⟨Try.prog,G,B⟩:A2) (Dc Try.prog [] [] [] 3) []:=D3 (mix G B) (by kernel_rfl) .nil .nil
def V8 (na nb:Nat):Option Blk:=some ⟨1,[.slice false (.rw 1) 0 na,.slice false (.rw 2) 0 nb]⟩
theorem jnp {la lb y:List AV} {m:Nat} {i:Int} (ha:A4 0 la=true) (hb:A4 0 lb=true) (hy:A4 0 y=true) :
  C2 3 [.slice false (.rw 3) 0 m,.slice false (.rw 0) 0 2,.int .i64 2,.int .i64 i] [V8 la.length lb.length,some ⟨1,la⟩,some ⟨1,lb⟩,some ⟨1,y⟩] [.slice false (.rw 4) 0 m,.slice false (.rw 0) 0 2,.int .i64 2,.int .i64 i] [V8 la.length lb.length,some ⟨1,la⟩,some ⟨1,lb⟩,none,some ⟨1,y⟩]:=by
 have f:∀ {l:List AV},A4 0 l=true→A4 4 l=true∧some (some (⟨1,l⟩:Blk))=some (some ⟨1,rens [0,1,2,4] l⟩):=fun h=>⟨I3 (Nat.zero_le _) _ h,by rw [B5 _ _ h]⟩;refine C2.renM (θ:=[0,1,2,4]) (by simp) (fun i hi=>?_) (by decide) ⟨⟨by simp [A4,A8],by simp [rens,C1,V8]⟩,f ha,f hb,f hy,trivial⟩ (by simp [A4,A8]) (by simp [rens,C1,wk])
 have:i=0∨i=1∨i=2:=by omega
 rcases this with rfl | rfl | rfl<;>rfl
def Li (la lb:List AV):Nat→List AV
 | 0=>[]
 | 1=>la
 | _=>la++lb
theorem yH (G:Nat→List AV) (B:Nat) (la lb:List AV) (ua:u8s la=true) (ub:u8s lb=true) (ht:la.length+lb.length≤1099511627776) :
  AWp (⟨Try.prog,G,B⟩:A2) 3 (.loop (A5 Try.f55 0)) (fl 18 [3,7,8,9] [.slice false (.rw 3) 0 0,.slice false (.rw 0) 0 2,.int .i64 2,.int .i64 0]) [V8 la.length lb.length,some ⟨1,la⟩,some ⟨1,lb⟩,some ⟨1,[]⟩]
   (lv 18 [3,7,8,9] fun e vs H=>e=.exit 0∧wk [.slice false (.rw 3) 0 (la++lb).length,.undef,.undef,.undef] vs∧H=[V8 la.length lb.length,some ⟨1,la⟩,some ⟨1,lb⟩,some ⟨1,la++lb⟩]):=by
 have fa:=B7 (k:=0) ua;have fb:=B7 (k:=0) ub;have sub:∀ {l:List AV},A7 l 0 l.length=l:=fun {l}=>by simp [A7]
 refine U8 (fun j vs H=>∃ i:Nat,i≤2∧j=2 - i∧vs=[.slice false (.rw 3) 0 (Li la lb i).length,.slice false (.rw 0) 0 2,.int .i64 2,.int .i64 (i:Int)]∧H=[V8 la.length lb.length,some ⟨1,la⟩,some ⟨1,lb⟩,some ⟨1,Li la lb i⟩]) 2 ⟨0,by omega,rfl,rfl,rfl⟩ ?_;rintro j vs H ⟨i,hi,rfl,rfl,rfl⟩;have hcase:i=0∨i=1∨i=2:=by omega
 rcases hcase with rfl | rfl | rfl
 ·refine D4 (C:=(⟨Try.prog,G,B⟩:A2)) (tT G B) (fuel:=200) (n0:=20) (m:=3) (c:=A5 Try.f55 0) (vs:=[.slice false (.rw 3) (.lit 0) (.var 5 (Li la lb 0).length),.slice false (.rw 0) (.lit 0) (.lit 2),.int .i64 (.lit 2),.int .i64 (.lit 0)]) (H:=[some ⟨1,.of [.slice false (.rw 1) (.lit 0) (.var 1 la.length),.slice false (.rw 2) (.lit 0) (.var 2 lb.length)]⟩,some ⟨1,.var 11 la⟩,some ⟨1,.var 12 lb⟩,some ⟨1,.var 15 (Li la lb 0)⟩]) (by simp) ?_;rw [jp0,sub]
  refine ⟨A6.2 (Nat.le_refl _),G2 ua,A6.2 (by simp [Li];omega),Nat.beq_refl _,⟨1,by omega,.inr ⟨_,_,⟨1,by omega,rfl,rfl,rfl⟩,?_⟩⟩⟩
  have:=jnp (m:=la.length) (i:=1) fa fb (y:=la) fa
  simpa [Li,V8] using this
 ·refine D4 (C:=(⟨Try.prog,G,B⟩:A2)) (tT G B) (fuel:=200) (n0:=20) (m:=3) (c:=A5 Try.f55 0) (vs:=[.slice false (.rw 3) (.lit 0) (.var 5 (Li la lb 1).length),.slice false (.rw 0) (.lit 0) (.lit 2),.int .i64 (.lit 2),.int .i64 (.lit 1)]) (H:=[some ⟨1,.of [.slice false (.rw 1) (.lit 0) (.var 1 la.length),.slice false (.rw 2) (.lit 0) (.var 2 lb.length)]⟩,some ⟨1,.var 11 la⟩,some ⟨1,.var 12 lb⟩,some ⟨1,.var 15 (Li la lb 1)⟩]) (by simp) ?_;rw [jp1,sub]
  refine ⟨A6.2 (Nat.le_refl _),G2 ub,A6.2 (by simp [Li];omega),Nat.beq_refl _,⟨0,by omega,.inr ⟨_,_,⟨2,by omega,rfl,rfl,rfl⟩,?_⟩⟩⟩
  have:=jnp (m:=(la++lb).length) (i:=2) fa fb (y:=la++lb) (B7 (by simp [C3,ua,ub]))
  simpa [Li,V8,Nat.add_assoc] using this
 ·refine D4 (C:=(⟨Try.prog,G,B⟩:A2)) (tT G B) (fuel:=200) (n0:=20) (m:=3) (c:=A5 Try.f55 0) (vs:=[.slice false (.rw 3) (.lit 0) (.var 5 (Li la lb 2).length),.slice false (.rw 0) (.lit 0) (.lit 2),.int .i64 (.lit 2),.int .i64 (.lit 2)]) (H:=[some ⟨1,.of [.slice false (.rw 1) (.lit 0) (.var 1 la.length),.slice false (.rw 2) (.lit 0) (.var 2 lb.length)]⟩,some ⟨1,.var 11 la⟩,some ⟨1,.var 12 lb⟩,some ⟨1,.var 15 (Li la lb 2)⟩]) (by simp) ?_;rw [jp2];exact ⟨rfl,by simp [wk,Li],rfl⟩
def jpL:DL:=⟨0,18,[3,7,8,9],fun vs H=>match vs,H with
 | [.slice false (.rw 3) (.lit 0) (.lit 0),.slice false (.rw 0) (.lit 0) (.lit 2),.int .i64 (.lit 2),.int .i64 (.lit 0)],
  [some ⟨1,.of [.slice false (.rw 1) (.lit 0) na,.slice false (.rw 2) (.lit 0) nb]⟩,some ⟨1,la⟩,some ⟨1,lb⟩,some ⟨1,.of []⟩]=>
  some (.chk (.eqN (.len la) na)<|.chk (.eqN (.len lb) nb)<|.chk (.u8s la)<|.chk (.u8s lb)<|.chk (.leN (.add na nb) (.lit 1099511627776)) <|
   .one (.exit 0) [.slice false (.rw 3) (.lit 0) (.len (.app la lb)),.undef,.undef,.undef]
    [some ⟨1,.of [.slice false (.rw 1) (.lit 0) na,.slice false (.rw 2) (.lit 0) nb]⟩,some ⟨1,la⟩,some ⟨1,lb⟩,some ⟨1,.app la lb⟩])
 | _,_=>none⟩
theorem jpL_ok (G:Nat→List AV) (B:Nat):H5 (⟨Try.prog,G,B⟩:A2) 3 (A5 Try.f55 0) jpL:=by
 refine .of fun vs H o ho n Q hQ=>?_;simp only [jpL] at ho;split at ho
 ·rename_i na nb la lb;simp only [Option.some.injEq] at ho;subst ho;obtain ⟨h1,h2,h5,h6,h9,hh⟩:=hQ;simp only [vB,vN] at h1 h2 h5 h6 h9;have e1:=Nat.eq_of_beq_eq_true h1;have e2:=Nat.eq_of_beq_eq_true h2;refine lone ?_ hh;simp only [jpL,vVs,vV,vR,vN,vI,vL,B8,List.map_cons,List.map_nil,Option.map_some,C8];have h9:=A6.1 h9;have key:=yH G B (vL G la) (vL G lb) h5 h6 (by omega);rw [V8,e1,e2] at key;exact key
 ·simp at ho
theorem dgJP (G:Nat→List AV) (B:Nat):DGood (⟨Try.prog,G,B⟩:A2) (Dc Try.prog [] [] [jpL] 3) (loopsOf (B4 Try.f55)):=D3 (mix G B) (by kernel_rfl) .nil (.cast (.cons (i:=0) (by kernel_rfl) rfl (jpL_ok G B) .nil) (by kernel_rfl))
theorem t55p (G:Nat→List AV) (la lb:List AV) (na nb:Nat) (Q:Ex→List AV→Hp→Prop) (R:AV→Hp→Prop):vT G Q R (G6 (Dc Try.prog [] [] [jpL] 3) 200 20 Try.f55 [.slice false (.rw 0) (.lit 0) (.lit 2)] [some ⟨1,.of [.slice false (.rw 1) (.lit 0) (.var 1 na),.slice false (.rw 2) (.lit 0) (.var 2 nb)]⟩,some ⟨1,.var 11 la⟩,some ⟨1,.var 12 lb⟩] 4)=(
  Nat.beq (List.length la) (na)=true∧Nat.beq (List.length lb) (nb)=true∧u8s la=true∧u8s lb=true∧leB (na+nb) (1099511627776)=true∧R (.slice false (.rw 3) (0) (List.length (la++lb))) [some ⟨1,([.slice false (.rw 1) (0) (na),.slice false (.rw 2) (0) (nb)]:List AV)⟩,some ⟨1,la⟩,some ⟨1,lb⟩,some ⟨1,(la++lb)⟩]):=by kernel_rfl
theorem yI (G:Nat→List AV) (B:Nat) (la lb:List AV) (ua:u8s la=true) (ub:u8s lb=true) (ht:la.length+lb.length≤1099511627776) :
  ACalls (⟨Try.prog,G,B⟩:A2) 55 [.slice false (.rw 0) 0 2] [V8 la.length lb.length,some ⟨1,la⟩,some ⟨1,lb⟩] fun v' H'=>v'=.slice false (.rw 3) 0 (la++lb).length∧H'=[V8 la.length lb.length,some ⟨1,la⟩,some ⟨1,lb⟩,some ⟨1,la++lb⟩]:=by
 have f:∀ {l:List AV} {j:Nat},u8s l=true→A4 j l=true:=fun h=>B7 h
 have key:=C7 (C:=(⟨Try.prog,G,B⟩:A2)) (fn:=Try.f55) (f:=55) (R:=fun v' H'=>v'=.slice false (.rw 3) 0 (la++lb).length∧H'=[V8 la.length lb.length,some ⟨1,la⟩,some ⟨1,lb⟩,some ⟨1,la++lb⟩]) (dgJP G B) (by kernel_rfl) (by kernel_rfl) (by kernel_rfl) (fuel:=200) (n0:=20) (keep:=4) (args:=[.slice false (.rw 0) (.lit 0) (.lit 2)])
  (H:=[some ⟨1,.of [.slice false (.rw 1) (.lit 0) (.var 1 la.length),.slice false (.rw 2) (.lit 0) (.var 2 lb.length)]⟩,some ⟨1,.var 11 la⟩,some ⟨1,.var 12 lb⟩]) (by
  rw [t55p]
  exact ⟨Nat.beq_refl _,Nat.beq_refl _,ua,ub,A6.2 ht,rfl,rfl⟩)
 exact ACalls.keep (H:=[V8 la.length lb.length,some ⟨1,la⟩,some ⟨1,lb⟩]) (H1:=[V8 la.length lb.length,some ⟨1,la⟩,some ⟨1,lb⟩,some ⟨1,la++lb⟩]) key (by simp) (by simp [J5,V8,A4,A8,f ua,f ub,B7,C3,ua,ub]) (by simp [A8]) (by simp)
def joinP:DSum:=fun xs H=>match xs with
 | [.slice false (.rw j) (.lit 0) (.lit 2)]=>match H[j]? with
  | some (some ⟨1,.of [.slice false (.rw a) (.lit 0) na,.slice false (.rw b) (.lit 0) nb]⟩)=>match H[a]?,H[b]?,ndB [j,a,b] with
   | some (some ⟨1,la⟩),some (some ⟨1,lb⟩),true=>
    some (.chk (.eqN (.len la) na)<|.chk (.eqN (.len lb) nb)<|.chk (.u8s la)<|.chk (.u8s lb)<|.chk (.leN (.add na nb) (.lit 1099511627776)) <|
     .one (.slice false (.rw H.length) (.lit 0) (.len (.app la lb))) [.new ⟨1,.app la lb⟩])
   | _,_,_=>none
  | _=>none
 | xs=>joinB xs H
theorem tF (G:Nat→List AV) (B:Nat):C5 (⟨Try.prog,G,B⟩:A2) 55 joinP:=by
 intro xs H o ho;simp only [joinP] at ho;split at ho
 ·rename_i j;split at ho
  ·rename_i a na b nb hj;split at ho
   ·rename_i la lb ha hb hnd;simp only [Option.some.injEq] at ho;subst ho;intro h1 h2 h5 h6 h9;simp only [vB,vN] at h1 h2 h5 h6 h9;have e1:=Nat.eq_of_beq_eq_true h1;have e2:=Nat.eq_of_beq_eq_true h2;have h9:=A6.1 h9;have f:∀ {l:List AV} {j:Nat},u8s l=true→A4 j l=true:=fun h=>B7 h;have key:=yI G B (vL G la) (vL G lb) h5 h6 (by omega)
    have live:∀ {i:Nat} {l:EL},H[i]?=some (some ⟨1,l⟩)→u8s (vL G l)=true→(B8 G H)[i]?=some (some (K2 [j,a,b] ⟨1,vL G l⟩)):=fun hi hu=>by
     have:=E9 (G:=G) hi
     simpa [K2,C8,B5 _ _ (f (j:=0) hu)] using this
    refine E0.newN (C:=(⟨Try.prog,G,B⟩:A2)) (θ:=[j,a,b]) (b:=⟨1,.app la lb⟩) (dQ hnd) rfl (fun k x hk=>?_) (by simp [A4,A8]) (by simp [vVs,vV,vR,vN,rens,C1]) key (by simp only [vL];exact f (by simp [C3,h5,h6])) (by simp [A8]) (by simp [vV,vR,vN,vL,C1,R3])
    match k with
    | 0=>
     simp [V8] at hk;subst hk;refine ⟨_,rfl,by simp [A4,A8],?_⟩
     have:=E9 (G:=G) hj
     simpa [K2,C8,vL,vVs,vV,vR,vN,rens,C1,e1,e2] using this
    | 1=>simp at hk;subst hk;exact ⟨_,rfl,f h5,by simpa using live ha h5⟩
    | 2=>simp at hk;subst hk;exact ⟨_,rfl,f h6,by simpa using live hb h6⟩
    | k+3=>simp at hk
   ·simp at ho
  ·simp at ho
 ·exact tG G B xs H o ho
end Go.Am
