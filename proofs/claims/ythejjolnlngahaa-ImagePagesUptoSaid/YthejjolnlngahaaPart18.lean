/-
  Pages of images: the law: the loops' parts. Pages of images: the law: the turns' part.
-/
import Derived.Test.YthejjolnlngahaaPart17
import Derived.Test.YthejjolnlngahaaBase5
import Derived.Test.YthejjolnlngahaaPart10
namespace Go.Am
open Go.Proofs
set_option maxRecDepth 100000
theorem la_ok (G:Nat→List AV) (B:Nat) (ks kp n m ka na:Nat) (s lw:Int) (may:Bool) (h:C2 (⟨Try.prog,G,B⟩:A1) 0 (.loop (loopN Try.f6 0)) (fl 187 [1,3,5,6,7,8] (Mc ka na may 0)) (h3 s lw ks n kp m) (lv 187 [1,3,5,6,7,8] fun e vs H=>e=.exit 0∧wk (Mc ka na may (min na 200)) vs∧H=h3 s lw ks n kp m)):G4 (⟨Try.prog,G,B⟩:A1) 0 (loopN Try.f6 0) (B5 1979 (B2 (Mc ka na may 0) (h3 s lw ks n kp m)) 0 187 [1,3,5,6,7,8] (.one (.exit 0) [.undef,.ptr (.rw 0) (.lit 0),.ptr (.rw 1) (.lit 0),.ptr (.rw 2) (.lit 0),.bool (.var 20 may),.undef] [some ⟨1,.of [.int .i64 (.var 1 s),.slice true (.ro (.var 24 ks)) (.lit 0) (.var 3 n),.slice true (.ro (.var 25 kp)) (.lit 0) (.var 4 m)]⟩,some ⟨1,.of [.int .i64 (.var 2 lw)]⟩,some ⟨1,.of [.bool (.lit false)]⟩])):=by
 refine L1 rfl (h.lmono fun e vs H q=>?_);obtain ⟨rfl,q1,rfl⟩:=q
 match vs,q1 with
 | [a0,a1,a2,a3,a4,a5],q1=>exact ⟨rfl,.inl ⟨⟨q1.2.1,q1.2.2.1,q1.2.2.2.1,q1.2.2.2.2.1,trivial⟩,rfl⟩⟩
end Go.Am
namespace Go.Am
open Go.Proofs
set_option maxRecDepth 100000
theorem lC (G:Nat→List AV) (B:Nat) (ks kp n m kN kW t:Nat) (s lw:Int) (HT:Hp) (h:C2 (⟨Try.prog,G,B⟩:A1) 0 (.loop (loopN Try.f6 1)) (fl 187 [3,5,6,15,16,17,19] [.ptr (.rw 0) 0,.ptr (.rw 1) 0,.ptr (.rw 2) 0,.func 50 [.ptr (.rw 3) 0],.ptr (.rw 4) 0,.ptr (.rw 5) 0,.ptr (.rw 6) 0]) HT (lv 187 [3,5,6,15,16,17,19] fun e vs H=>e=.exit 2∧wk [.ptr (.rw 0) 0,.ptr (.rw 1) 0,.ptr (.rw 2) 0,.func 50 [.ptr (.rw 3) 0],.ptr (.rw 4) 0,.ptr (.rw 5) 0,.ptr (.rw 6) 0] vs∧H=h7 s lw ((2:Nat):Int) ks n kp m kN kW t)):G4 (⟨Try.prog,G,B⟩:A1) 0 (loopN Try.f6 1) (B5 1980 (B2 [.ptr (.rw 0) 0,.ptr (.rw 1) 0,.ptr (.rw 2) 0,.func 50 [.ptr (.rw 3) 0],.ptr (.rw 4) 0,.ptr (.rw 5) 0,.ptr (.rw 6) 0] HT) 2 187 [3,5,6,15,16,17,19] (.one (.exit 2) [.undef,.undef,.ptr (.rw 2) (.lit 0),.undef,.undef,.undef,.undef] [some ⟨1,.of [.int .i64 (.var 1 s),.slice true (.ro (.var 24 ks)) (.lit 0) (.var 3 n),.slice true (.ro (.var 25 kp)) (.lit 0) (.var 4 m)]⟩,some ⟨1,.of [.int .i64 (.var 2 lw)]⟩,some ⟨1,.of [.bool (.lit false)]⟩])):=by
 refine L1 rfl (h.lmono fun e vs H q=>?_);obtain ⟨rfl,q1,rfl⟩:=q
 match vs,q1 with
 | [a0,a1,a2,a3,a4,a5,a6],q1=>
  obtain ⟨rfl,rfl,rfl,rfl,rfl,rfl,rfl,_⟩:=q1;exact ⟨rfl,.inr (B4.renM (θ:=[0,1,2]) (Nat.zero_le _) (fun i hi=>absurd hi (Nat.not_lt_zero i)) (by decide) ⟨⟨rfl,rfl⟩,⟨rfl,rfl⟩,⟨rfl,rfl⟩,trivial⟩ rfl ⟨rfl,trivial⟩)⟩
end Go.Am
namespace Go.Am
open Go.Proofs
set_option maxRecDepth 100000
def h7n (s lw:Int) (ks n kp m:Nat):Hp:=h3 s lw ks n kp m++[some ⟨1,[.int .i64 s,.slice true (.ro ks) 0 n,.slice true (.ro kp) 0 m]⟩,some ⟨1,[.nils]⟩,some ⟨1,[.nils]⟩,some ⟨1,[.int .i64 0]⟩]
theorem Xb (k:Nat):bW ⟨1,[.nils]⟩ ⟨1,[.slice true (.ro k) 0 0]⟩:=.inr ⟨rfl,rfl,rfl,fun j v hv=>by
 cases j with
 | zero=>simp at hv;subst hv;exact ⟨_,rfl,fun ρ cv h=>Ez _ _ h⟩
 | succ j=>simp at hv⟩
theorem jP (s lw:Int) (ks n kp m kN kW:Nat):Mm (h7n s lw ks n kp m) (h7 s lw ((0:Nat):Int) ks n kp m kN kW 0):=⟨.inl rfl,.inl rfl,.inl rfl,.inl rfl,Xb kN,Xb kW,.inl rfl,trivial⟩
theorem hZ (G:Nat→List AV) (B:Nat) (ks kp n m kN kW:Nat) (s lw:Int) (h:∀ tu:Int,∃ cc bb,gS G B ks kp n m kN kW 0 s lw tu cc bb):C2 (⟨Try.prog,G,B⟩:A1) 0 (.loop (loopN Try.f6 1)) (fl 187 [3,5,6,15,16,17,19] [.ptr (.rw 0) 0,.ptr (.rw 1) 0,.ptr (.rw 2) 0,.func 50 [.ptr (.rw 3) 0],.ptr (.rw 4) 0,.ptr (.rw 5) 0,.ptr (.rw 6) 0]) (h7n s lw ks n kp m) (lv 187 [3,5,6,15,16,17,19] fun e vs H=>e=.exit 2∧wk [.ptr (.rw 0) 0,.ptr (.rw 1) 0,.ptr (.rw 2) 0,.func 50 [.ptr (.rw 3) 0],.ptr (.rw 4) 0,.ptr (.rw 5) 0,.ptr (.rw 6) 0] vs∧H=h7 s lw ((2:Nat):Int) ks n kp m kN kW 0):=
 C2.tellH (jP s lw ks n kp m kN kW) (Zt G B ks kp n m kN kW 0 s lw h)
end Go.Am
namespace Go.Am
open Go.Proofs Go.Proofs.Ythejjolnlngahaa
set_option maxRecDepth 100000
theorem mY (G:Nat→List AV) (B:Nat) (ks kp n m ka na:Nat) (s lw:Int) (hs:K1 (G ks) n=true) (hmu:(Y2 (G ks) n m)=true):ACalls (⟨Try.prog,G,B⟩:A1) 6 [.agg [.int .i64 s,.slice true (.ro ks) 0 n,.slice true (.ro kp) 0 m],.slice true (.ro ka) 0 na,.int .i64 lw] [] fun v _=>v=.bool true:=by
 have c10:C9 (⟨Try.prog,G,B⟩:A1) 10 (D7 1972 (B2 [.agg [.int .i64 s,.slice true (.ro ks) 0 n,.slice true (.ro kp) 0 m]] []) (.one (.bool (.var 21 true)) [])):=sRo_one (v0:=.bool true) rfl ((Ud G B s ks n kp m hs).monoK fun v H h=>by rw [h,hmu]) rfl rfl (by simp) rfl;have c11:C9 (⟨Try.prog,G,B⟩:A1) 11 (D7 1973 (B2 [] []) (.one (.bool (.lit true)) [])):=sRo_one (v0:=.bool true) rfl (Qj G B) rfl rfl (by simp) rfl
 have key:=bI (C:=(⟨Try.prog,G,B⟩:A1)) (K:=(Dc Try.prog [] [(10,D7 1972 (B2 [.agg [.int .i64 s,.slice true (.ro ks) 0 n,.slice true (.ro kp) 0 m]] []) (.one (.bool (.var 21 true)) [])),(11,D7 1973 (B2 [] []) (.one (.bool (.lit true)) [])),(21,D7 1974 (fun _=>false) (.one (.bool (.var 20 false)) [])),(24,Ts 1975 (fun _=>false) (.one (.func 50 [.ptr (.rw 3) (.lit 0)]) [.new ⟨1,.of [.int .i64 (.var 1 s),.slice true (.ro (.var 24 ks)) (.lit 0) (.var 3 n),.slice true (.ro (.var 25 kp)) (.lit 0) (.var 4 m)]⟩])),(25,D7 1976 (fun _=>false) (.one (.tup [.slice true (.ro (.var 32 0)) (.lit 0) (.var 28 0),.slice true (.ro (.var 33 0)) (.lit 0) (.var 28 0)]) [])),(26,D7 1977 (fun _=>false) (.one (.int .i64 (.var 5 0)) [])),(27,D7 1978 (fun _=>false) (.one (.int .i64 (.var 5 0)) []))] [B5 1979 (fun _=>false) 0 187 [1,3,5,6,7,8] (.one (.exit 0) [.undef,.ptr (.rw 0) (.lit 0),.ptr (.rw 1) (.lit 0),.ptr (.rw 2) (.lit 0),.bool (.var 20 false),.undef] [some ⟨1,.of [.int .i64 (.var 1 s),.slice true (.ro (.var 24 ks)) (.lit 0) (.var 3 n),.slice true (.ro (.var 25 kp)) (.lit 0) (.var 4 m)]⟩,some ⟨1,.of [.int .i64 (.var 2 lw)]⟩,some ⟨1,.of [.bool (.lit false)]⟩]),B5 1980 (fun _=>false) 2 187 [3,5,6,15,16,17,19] (.one (.exit 2) [.undef,.undef,.ptr (.rw 2) (.lit 0),.undef,.undef,.undef,.undef] [some ⟨1,.of [.int .i64 (.var 1 s),.slice true (.ro (.var 24 ks)) (.lit 0) (.var 3 n),.slice true (.ro (.var 25 kp)) (.lit 0) (.var 4 m)]⟩,some ⟨1,.of [.int .i64 (.var 2 lw)]⟩,some ⟨1,.of [.bool (.lit false)]⟩])] 0)) (f:=6) (fn:=Try.f6) (R:=fun v _=>v=.bool true) (C8 (D0 G B) (by kernel_rfl) (.cons c10 (.cons c11 (.cons W6 (.cons oL (.cons W6 (.cons W6 (.cons W6 .nil))))))) (by rw [show A3 (E3 Try.f6)=[loopN Try.f6 0,loopN Try.f6 1,loopN Try.f6 2] by kernel_rfl];exact .cons (i:=0) (by kernel_rfl) rfl Bb (.cons (i:=2) (by kernel_rfl) rfl Bb (.skip (by kernel_rfl) .nil)))) (by kernel_rfl) (by kernel_rfl) (by kernel_rfl) (fuel:=400) (n0:=20) (args:=[.agg (.of [.int .i64 (.var 1 s),.slice true (.ro (.var 24 ks)) (.lit 0) (.var 3 n),.slice true (.ro (.var 25 kp)) (.lit 0) (.var 4 m)]),.slice true (.ro (.var 26 ka)) (.lit 0) (.var 27 na),.int .i64 (.var 2 lw)]) (H:=[]) (by
  rw [f6_t]
  exact ⟨B0,fun _=>⟨B0,rfl⟩,fun h=>absurd h (by decide)⟩)
 exact key.monoK fun v H h=>h
theorem jM (G:Nat→List AV) (B:Nat) (ks kp n m ka na g kN kW:Nat) (s lw:Int) (hmu:(Y2 (G ks) n m)=false) (hb:V7 G ks kp n m) (hw:M4 G ks kp n m)
  (hI:∀ i,i<na→isI .u32 (G ka) i=true) (hR:∀ i,i<na→0≤(A0 (G ka) i)∧(A0 (G ka) i)≤4294967295)
  (hN:G kN=G3 (G ks) n) (hW:G kW=F9 g (G ks) n) (hg:J0 s (G ks) n (G kp) m=true→∀ k i,k<n→i<J2 (G ks) k→G (g+(A2 (G ks) k+i))=B9 (I2 G (G ks) k i)) (ht:J0 s (G ks) n (G kp) m=true→A2 (G ks) n≤1000000):ACalls (⟨Try.prog,G,B⟩:A1) 6 [.agg [.int .i64 s,.slice true (.ro ks) 0 n,.slice true (.ro kp) 0 m],.slice true (.ro ka) 0 na,.int .i64 lw] [] fun v _=>v=.bool true:=by
 obtain ⟨hn20,hm1⟩:=Se hmu;have hn:n≤1000000:=by omega
 have hm:m≤1000000:=by omega
 have u1:N8 [.agg (G ks),.int .i64 (n:Int)]=true:=J5.2 ⟨hb.sec,hn⟩;have u2:Hg [.agg (G kp),.int .i64 (m:Int)]=true:=W9.2 ⟨hb.pls,hm⟩;have c10:C9 (⟨Try.prog,G,B⟩:A1) 10 (D7 1972 (B2 [.agg [.int .i64 s,.slice true (.ro ks) 0 n,.slice true (.ro kp) 0 m]] []) (.one (.bool (.var 21 false)) [])):=sRo_one (v0:=.bool false) rfl ((Ud G B s ks n kp m hb.sec).monoK fun v H h=>by rw [h,hmu]) rfl rfl (by simp) rfl;have c11:C9 (⟨Try.prog,G,B⟩:A1) 11 (D7 1973 (B2 [] []) (.one (.bool (.lit true)) [])):=sRo_one (v0:=.bool true) rfl (Qj G B) rfl rfl (by simp) rfl
 have c21:C9 (⟨Try.prog,G,B⟩:A1) 21 (D7 1974 (B2 [.agg [.int .i64 s,.slice true (.ro ks) 0 n,.slice true (.ro kp) 0 m]] []) (.one (.bool (.var 20 (J0 s (G ks) n (G kp) m))) [])):=sRo_one (v0:=.bool (J0 s (G ks) n (G kp) m)) rfl (jE G B ks n kp m s u1 u2) rfl rfl (by simp) rfl;have c24:=rF G B ks kp n m s lw (cL G B ks kp n m s hb hw hn);cases hy:J0 s (G ks) n (G kp) m with
 | true=>
  rw [hy] at c21;have hs:∀ j,j<n→I8 (G ks) j=true:=fun j hj=>(Fl hy j hj).2.2.2;obtain ⟨⟨h8,_⟩,ho,_⟩:=Na hy
  have c25:C9 (⟨Try.prog,G,B⟩:A1) 25 (D7 1976 (B2 [.agg [.int .i64 s,.slice true (.ro ks) 0 n,.slice true (.ro kp) 0 m]] []) (.one (.tup [.slice true (.ro (.var 32 kN)) (.lit 0) (.var 28 (A2 (G ks) n)),.slice true (.ro (.var 33 kW)) (.lit 0) (.var 28 (A2 (G ks) n))]) [])):=
   sRo_one (v0:=.tup [.slice true (.ro kN) 0 (A2 (G ks) n),.slice true (.ro kW) 0 (A2 (G ks) n)]) rfl (Ze G B ks kp n m g kN kW s hb hw ho h8 hm (hg hy) hN hW) rfl rfl (by simp) rfl
  have c26:C9 (⟨Try.prog,G,B⟩:A1) 26 (D7 1977 (B2 [.agg [.int .i64 s,.slice true (.ro ks) 0 n,.slice true (.ro kp) 0 m]] []) (.one (.int .i64 (.var 5 (R9 (G ks) n))) [])):=sRo_one (v0:=.int .i64 (R9 (G ks) n)) rfl (mF G B ks kp n m s hs h8 hb.sec) rfl rfl (by simp) rfl
  have c27:C9 (⟨Try.prog,G,B⟩:A1) 27 (D7 1978 (B2 [.agg [.int .i64 s,.slice true (.ro ks) 0 n,.slice true (.ro kp) 0 m]] []) (.one (.int .i64 (.var 5 (R9 (G ks) n))) [])):=sRo_one (v0:=.int .i64 (R9 (G ks) n)) rfl ((Zw G B ks kp n m s hb hw hn hm).monoK fun v H h=>by rw [h,if_pos hy]) rfl rfl (by simp) rfl;have la:=la_ok G B ks kp n m ka na s lw true (bO G B ks kp n m ka na s lw true hI fun i hi=>?_)
  have lt:=lC G B ks kp n m kN kW (A2 (G ks) n) s lw (h7 s lw ((0:Nat):Int) ks n kp m kN kW (A2 (G ks) n)) (Zt G B ks kp n m kN kW (A2 (G ks) n) s lw fun tu=>⟨lvC (G ks) tu lw n,decide (S8 (G ks) tu lw n<n),?_,fun h=>?_,fun h=>?_⟩)
  ·exact gB G B ks kp n m ka na kN kW (A2 (G ks) n) s lw (R9 (G ks) n) false true _ _ _ c10 c11 c21 c24 c25 c26 c27 la lt (fun _=>⟨rfl,rfl,rfl⟩) (fun h=>absurd h (by decide))
  ·have:=kC G B ks kp n m g kN kW s lw tu hb hw ho h8 hN hW (hg hy) hm hy (ht hy)
   simpa only [decide_eq_true_eq] using this
  ·rcases fU.1 h with e | e
   ·exact .inl (by rw [e])
   ·exact .inr e
  ·rw [fU.2 h]
  ·obtain hx:=hR i hi;have c22:=aM G B ks kp n m s (A0 (G ka) i) hb hw hn hm hx;have c23:=aF G B ks kp n m s (A0 (G ka) i) hb hw hn hm hs hx;rw [if_pos hy] at c22;by_cases hk:aN (G ks) n (A0 (G ka) i)<n
   ·rw [if_pos hk] at c22 c23;exact ⟨_,_,_,c22,fun _=>c23,fun h=>absurd h (by decide)⟩
   ·rw [if_neg hk] at c22 c23;exact ⟨_,_,_,c22,fun _=>c23,fun h=>absurd h (by decide)⟩
 | false=>
  rw [hy] at c21;have c27:C9 (⟨Try.prog,G,B⟩:A1) 27 (D7 1978 (B2 [.agg [.int .i64 s,.slice true (.ro ks) 0 n,.slice true (.ro kp) 0 m]] []) (.one (.int .i64 (.var 5 0)) [])):=sRo_one (v0:=.int .i64 0) rfl ((Zw G B ks kp n m s hb hw hn hm).monoK fun v H h=>by rw [h,if_neg (by rw [hy];decide)]) rfl rfl (by simp) rfl;have la:=la_ok G B ks kp n m ka na s lw false (bO G B ks kp n m ka na s lw false hI fun i hi=>?_)
  have lt:=lC G B ks kp n m kN kW 0 s lw (h7n s lw ks n kp m) (hZ G B ks kp n m kN kW s lw fun tu=>⟨0,false,rE G B ks kp n m kN kW 0 s lw tu hb hn hm hy,fun _=>.inl rfl,fun _=>rfl⟩)
  ·exact gB G B ks kp n m ka na kN kW 0 s lw 0 false false _ _ _ c10 c11 c21 c24 (W6) (W6) c27 la lt (fun h=>absurd h (by decide)) (fun _=>⟨rfl,rfl⟩)
  ·have c22:=aM G B ks kp n m s (A0 (G ka) i) hb hw hn hm (hR i hi);rw [if_neg (by rw [hy];decide)] at c22;exact ⟨_,_,_,c22,fun h=>absurd h (by decide),fun _=>⟨rfl,rfl,rfl⟩⟩
end Go.Am
namespace Go.Am
open Go.Proofs
set_option maxRecDepth 100000
end Go.Am
namespace Go.Am
open Go.Proofs
set_option maxRecDepth 100000
end Go.Am
namespace Go.Am
open Go.Proofs
set_option maxRecDepth 100000
end Go.Am
namespace Go.Am
open Go.ChangeShapes Go.WideShapes Go.ChangeAt Go.RowKit Go.Proofs
set_option maxRecDepth 100000
section
variable {H:Type} {P:Program} {L:List RoE} {n:Nat} {t e:TypeId} {cs:List AV} {d:DataW H} {a:AV}
def Ng (P:Program) (e:TypeId) (i o:Nat) (t:TypeId):Bool:=
 match P.underlying e with
 | some (.struct fs)=>match fs[i]? with
  | some f=>Nat.beq f.offset o&&Nat.beq f.type t
  | none=>false
 | _=>false
theorem D2.fld {i o:Nat} (hf:Ng P e i o t=true) (h:D2 P L (n+1) e cs d):∃ x:DataW H,D2 P L n t ((cs.drop o).take (P.cellsOf t)) x:=by
 unfold Ng at hf;split at hf
 ·rename_i fs hu;split at hf
  ·rename_i f hi;simp only [Bool.and_eq_true] at hf;obtain ⟨g1,ds,g2,g3,g4⟩:=D2.asStruct hu h;have hl:i<ds.length:=by rw [g3];exact (Array.getElem?_eq_some_iff.1 hi).1
   have:=g4 i f ds[i] hi (List.getElem?_eq_getElem hl)
   rw [Nat.eq_of_beq_eq_true hf.1,Nat.eq_of_beq_eq_true hf.2] at this;exact ⟨_,this⟩
  ·simp at hf
 ·simp at hf
theorem D2.flen {i o:Nat} (hf:Ng P e i o t=true) (h:D2 P L (n+1) e cs d):cs.length=P.cellsOf e:=by
 unfold Ng at hf;split at hf
 ·rename_i fs hu;exact (D2.asStruct hu h).1
 ·simp at hf
theorem Wv {l:List AV} {o:Nat} {v:AV} (h:(l.drop o).take 1=[v]):l[o]?=some v:=by
 have:=congrArg (fun l:List AV=>l[0]?) h
 simpa only [List.getElem?_take,List.getElem?_drop,List.getElem?_cons_zero,Nat.add_zero,Nat.lt_one_iff,if_true] using this
theorem D2.fldInt {i o:Nat} {k:IntKind} (hf:Ng P e i o t=true) (ht:P.underlying t=some (.int k)) (hc:P.cellsOf t=1) (h:D2 P L (n+2) e cs d):∃ x,cs[o]?=some (.int k x)∧(Lit.int k x).wf=true:=by
 obtain ⟨_,h1⟩:=D2.fld hf h;rw [hc] at h1;obtain ⟨x,e1,e2,_⟩:=D2.asInt ht h1;exact ⟨x,Wv e1,e2⟩
theorem D2.fldBool {i o:Nat} (hf:Ng P e i o t=true) (ht:P.underlying t=some .bool) (hc:P.cellsOf t=1) (h:D2 P L (n+2) e cs d):∃ x,cs[o]?=some (.bool x):=by
 obtain ⟨_,h1⟩:=D2.fld hf h;rw [hc] at h1;obtain ⟨x,e1,_⟩:=D2.asBool ht h1;exact ⟨x,Wv e1⟩
theorem aQ {l:List AV} {o z j:Nat} (hj:j<z):((l.drop o).take z)[j]?=l[o+j]?:=by
 rw [List.getElem?_take,if_pos hj,List.getElem?_drop]
end
section
variable {H:Type} {L:List RoE} {a:AV} {d:DataW H} {cs:List AV}
theorem qB {n:Nat} (h:D2 Try.prog L (n+3) 23 [a] d):∃ k m,(∀ (ρ:Env) v,VR ρ a v→VR ρ (.slice true (.ro k) 0 m) v)∧(GL L k).length=m*2∧Ef (GL L k) m=true∧(GL L k).all plA=true:=by
 rcases D2.asSlice (e:=40) (by kernel_rfl) h with ⟨h1,_⟩ | ⟨k,ds,sp,en,h1,h2,h3,h4,h5,h6⟩
 ·simp only [List.cons.injEq,and_true] at h1;subst h1;exact ⟨L.length,0,fun ρ v hv=>Ez _ _ hv,by rw [Rk (Nat.le_refl _)];rfl,rfl,by rw [Rk (Nat.le_refl _)];rfl⟩
 ·simp only [List.cons.injEq,and_true] at h1;subst h1;have hz:Try.prog.cellsOf 40=2:=by kernel_rfl
  rw [hz] at h4 h6
  have key:∀ j,j<ds.length→(∃ x,en.cells[j*2]?=some (.int .i64 x)∧(Lit.int .i64 x).wf=true)∧∃ b,en.cells[j*2+1]?=some (.bool b):=fun j hj=>by
   have h7:=h6 j ds[j] (List.getElem?_eq_getElem hj);obtain ⟨x,e1,e2⟩:=D2.fldInt (i:=0) (o:=0) (t:=3) (k:=.i64) (by kernel_rfl) (by kernel_rfl) (by kernel_rfl) h7;obtain ⟨b,e3⟩:=D2.fldBool (i:=1) (o:=1) (t:=4) (by kernel_rfl) (by kernel_rfl) (by kernel_rfl) h7;rw [aQ (by omega)] at e1 e3;exact ⟨⟨x,e1,e2⟩,b,e3⟩
  refine ⟨k,ds.length,fun ρ v hv=>Af hv,by rw [Ha h3,h4],I5.2 fun j hj=>?_,?_⟩
  ·obtain ⟨⟨x,e1,e2⟩,b,e3⟩:=key j hj;have w:=nW e2;unfold iU xP;rw [Ha h3];have g:A0 en.cells (j*2)=x:=by simp [A0,e1]
   rw [g];simp only [E2,Z9,isI,isB,e1,e3,Bool.and_eq_true,decide_eq_true_eq];exact ⟨by simp,w.1,w.2⟩
  ·rw [Ha h3,List.all_eq_true];intro v hv;obtain ⟨j,hj⟩:=List.getElem?_of_mem hv;have hlt:j<ds.length*2:=by rw [←h4];exact (List.getElem?_eq_some_iff.1 hj).1
   obtain ⟨⟨x,e1,_⟩,b,e3⟩:=key (j / 2) (by omega);by_cases hp:j % 2=0
   ·rw [show j / 2*2=j by omega,hj] at e1;simp only [Option.some.injEq] at e1;subst e1;rfl
   ·rw [show j / 2*2+1=j by omega,hj] at e3;simp only [Option.some.injEq] at e3;subst e3;rfl
end
end Go.Am
namespace Go.Am
open Go.ChangeShapes Go.WideShapes Go.ChangeAt Go.RowKit Go.Proofs
set_option maxRecDepth 100000
def dU (L:List RoE) (cs:List AV) (j:Nat):Prop:=cs[j*4+2]?=some .nils∨∃ k b,k<L.length∧cs[j*4+2]?=some (.slice false (.ro k) 0 b.length)∧GL L k=B9 b∧byO b
structure Mh (L:List RoE) (ks c kp q:Nat):Prop where
 sec:∀ j,j<c→(∃ x,(GL L ks)[j*4]?=some (.int .i64 x))∧(∃ x,(GL L ks)[j*4+1]?=some (.int .i64 x))∧dU L (GL L ks) j∧∃ x,(GL L ks)[j*4+3]?=some (.int .i64 x)
 pls:Ef (GL L kp) q=true
 len:(GL L kp).length=q*2
 flat:(GL L kp).all plA=true
section
variable {H:Type} {L:List RoE} {a:AV} {d:DataW H} {cs:List AV}
theorem qC {n:Nat} (h:D2 Try.prog L (n+2) 37 [a] d):a=.nils∨∃ k b,k<L.length∧a=.slice false (.ro k) 0 (List.length b)∧GL L k=B9 b∧byO b:=by
 rcases D2.asSlice (e:=5) (by kernel_rfl) h with ⟨h1,_⟩ | ⟨k,ds,sp,en,h1,h2,h3,h4,h5,h6⟩
 ·simp only [List.cons.injEq,and_true] at h1;exact .inl h1
 ·simp only [List.cons.injEq,and_true] at h1;subst h1;rw [show Try.prog.cellsOf 5=1 by kernel_rfl,Nat.mul_one] at h4
  have key:∀ j,j<en.cells.length→∃ i:Nat,en.cells[j]?=some (.int .u8 (i:Int))∧i<256:=fun j hj=>by
   have h7:=h6 j ds[j] (List.getElem?_eq_getElem (by omega));rw [show Try.prog.cellsOf 5=1 by kernel_rfl,Nat.mul_one] at h7;obtain ⟨i,g1,g2,_⟩:=D2.asInt (k:=.u8) (by kernel_rfl) h7;have w:=wf_u8 g2;refine ⟨i.toNat,?_,by omega⟩;rw [Int.toNat_of_nonneg w.1];exact Wv g1
  refine .inr ⟨k,en.cells.map fun v=>match v with | .int _ x=>x.toNat | _=>0,(List.getElem?_eq_some_iff.1 h3).1,by rw [List.length_map,h4],?_,?_⟩
  ·rw [Ha h3];unfold B9;rw [List.map_map];refine List.ext_getElem? fun j=>?_;rw [List.getElem?_map];by_cases hj:j<en.cells.length
   ·obtain ⟨i,e1,_⟩:=key j hj;rw [e1];show _=some (AV.int .u8 (((i:Int).toNat:Nat):Int));rw [Int.toNat_natCast]
   ·rw [List.getElem?_eq_none (by omega)];rfl
  ·intro x hx;obtain ⟨v,hv,rfl⟩:=List.mem_map.1 hx;obtain ⟨j,hj⟩:=List.getElem?_of_mem hv;obtain ⟨i,e1,e2⟩:=key j (List.getElem?_eq_some_iff.1 hj).1;rw [hj] at e1;obtain rfl:=Option.some.inj e1;show (i:Int).toNat<256;rw [Int.toNat_natCast];exact e2
theorem jO {n:Nat} (h:D2 Try.prog L (n+4) 22 [a] d):∃ k c,(∀ (ρ:Env) v,VR ρ a v→VR ρ (.slice true (.ro k) 0 c) v)∧∀ j,j<c→(∃ x,(GL L k)[j*4]?=some (.int .i64 x))∧(∃ x,(GL L k)[j*4+1]?=some (.int .i64 x))∧dU L (GL L k) j∧∃ x,(GL L k)[j*4+3]?=some (.int .i64 x):=by
 rcases D2.asSlice (e:=45) (by kernel_rfl) h with ⟨h1,_⟩ | ⟨k,ds,sp,en,h1,h2,h3,h4,h5,h6⟩
 ·simp only [List.cons.injEq,and_true] at h1;subst h1;exact ⟨L.length,0,fun ρ v hv=>Ez _ _ hv,fun j hj=>absurd hj (Nat.not_lt_zero j)⟩
 ·simp only [List.cons.injEq,and_true] at h1;subst h1;have hz:Try.prog.cellsOf 45=4:=by kernel_rfl
  rw [hz] at h4 h6;refine ⟨k,ds.length,fun ρ v hv=>Af hv,fun j hj=>?_⟩;have h7:=h6 j ds[j] (List.getElem?_eq_getElem hj);obtain ⟨x,e1,_⟩:=D2.fldInt (i:=0) (o:=0) (t:=3) (k:=.i64) (by kernel_rfl) (by kernel_rfl) (by kernel_rfl) h7;obtain ⟨r,e2,_⟩:=D2.fldInt (i:=1) (o:=1) (t:=3) (k:=.i64) (by kernel_rfl) (by kernel_rfl) (by kernel_rfl) h7;obtain ⟨_,e3⟩:=D2.fld (i:=2) (o:=2) (t:=37) (by kernel_rfl) h7;obtain ⟨z,e4,_⟩:=D2.fldInt (i:=3) (o:=3) (t:=3) (k:=.i64) (by kernel_rfl) (by kernel_rfl) (by kernel_rfl) h7;rw [aQ (by omega)] at e1 e2 e4
  rw [show Try.prog.cellsOf 37=1 by kernel_rfl] at e3;rw [Ha h3];have hlt:j*4+2<en.cells.length:=by rw [h4];omega
  have e5:((((en.cells.drop (j*4)).take 4).drop 2).take 1)=[en.cells[j*4+2]]:=by
   refine List.ext_getElem? fun i=>?_
   match i with
   | 0=>rw [List.getElem?_take,if_pos (by omega),List.getElem?_drop,List.getElem?_take,if_pos (by omega),List.getElem?_drop,List.getElem?_eq_getElem (by omega)];rfl
   | i+1=>rw [List.getElem?_take,if_neg (by omega)];rfl
  rw [e5] at e3;refine ⟨⟨x,e1⟩,⟨r,e2⟩,?_,z,e4⟩;unfold dU;rw [List.getElem?_eq_getElem hlt];rcases qC (n:=n) e3 with g | ⟨k',b,g1,g2,g3,g4⟩
  ·exact .inl (by rw [g])
  ·exact .inr ⟨k',b,g1,by rw [g2],g3,g4⟩
theorem im_in {n:Nat} (h:D2 Try.prog L (n+5) 25 cs d):∃ s k c kp q,(∀ (ρ:Env) vs,VRs ρ cs vs→VRs ρ [.int .i64 s,.slice true (.ro k) 0 c,.slice true (.ro kp) 0 q] vs)∧Mh L k c kp q:=by
 obtain ⟨s,e1,_⟩:=D2.fldInt (i:=0) (o:=0) (t:=3) (k:=.i64) (by kernel_rfl) (by kernel_rfl) (by kernel_rfl) h;obtain ⟨_,e2⟩:=D2.fld (i:=1) (o:=1) (t:=22) (by kernel_rfl) h;obtain ⟨_,e3⟩:=D2.fld (i:=2) (o:=2) (t:=23) (by kernel_rfl) h
 have hl:cs.length=3:=by
  have:=D2.flen (i:=0) (o:=0) (t:=3) (by kernel_rfl) h
  rwa [show Try.prog.cellsOf 25=3 by kernel_rfl] at this
 rw [show Try.prog.cellsOf 22=1 by kernel_rfl] at e2;rw [show Try.prog.cellsOf 23=1 by kernel_rfl] at e3
 match cs,hl with
 | [x,y,z],_=>
  simp at e1;subst e1;obtain ⟨kp,q,v2,o3,o4,o5⟩:=qB (n:=n+1) (by simpa using e3);obtain ⟨k,c,v1,o1⟩:=jO (n:=n) (by simpa using e2);refine ⟨s,k,c,kp,q,fun ρ vs hv=>?_,⟨o1,o4,o3,o5⟩⟩;simp only [VRs] at hv ⊢;obtain ⟨w1,t1,r1,q1,w2,t2,r2,q2,w3,t3,r3,q3,q4⟩:=hv;exact ⟨w1,t1,r1,q1,w2,t2,r2,v1 ρ w2 q2,w3,t3,r3,v2 ρ w3 q3,q4⟩
end
end Go.Am
namespace Go.Am
open Go.RowKit Go.Proofs
set_option maxRecDepth 100000
theorem fQ {cs:List AV}:∀ i,i≤20→(0≤Gl cs i∧Gl cs i≤99999*(i:Int))∧∀ j,j<i→((sN cs j:Int)≤Gl cs i∨99999≤Gl cs i)
 | 0,_=>⟨⟨Int.le_refl _,by show (0:Int)≤_;omega⟩,fun j hj=>absurd hj (Nat.not_lt_zero j)⟩
 | i+1,h=>by
  obtain ⟨⟨h1,h2⟩,h3⟩:=fQ (cs:=cs) i (by omega)
  have e:Gl cs (i+1)=Gl cs i+(if 99999<(sN cs i:Int) then 99999 else (sN cs i:Int)):=by
   show IntKind.wrap .i64 (Gl cs i+(if 99999<(sN cs i:Int) then 99999 else (sN cs i:Int)))=_;refine B3 ?_
   split<;>omega
  rw [e];refine ⟨⟨?_,?_⟩,fun j hj=>?_⟩
  ·split<;>omega
  ·split<;>omega
  ·by_cases hji:j<i
   ·have:=h3 j hji
    split<;>omega
   ·have:j=i:=by omega
    subst this
    split<;>omega
theorem jC {cs:List AV} {n m:Nat} (h:Y2 cs n m=false):∀ j,j<n→sN cs j≤60000:=fun j hj=>by
 obtain ⟨h20,_⟩:=Se h;unfold Y2 at h;simp only [Bool.or_eq_false_iff,decide_eq_false_iff_not] at h;have h3:=h.2.2;rw [Nat.min_eq_left h20] at h3
 have:=(fQ (cs:=cs) n h20).2 j hj
 omega
section
variable (L:List RoE) (ks c kp q z:Nat)
def Dn (cs:List AV) (e j:Nat):Nat:=match cs[j*4+2]? with
 | some (.slice _ (.ro k) _ _)=>k
 | _=>e
def I4:List AV:=M2 (GL L ks) c (dK (Dn (GL L ks) L.length) (GL L ks))
end
section
variable {L:List RoE} {ks c kp q z:Nat}
theorem Lv {j b:Nat} (hj:j<c) (hb:b<4):(I4 L ks c)[j*4+b]?=some (cA (GL L ks) (dK (Dn (GL L ks) L.length) (GL L ks)) j b):=Cb (f:=cA (GL L ks) (dK (Dn (GL L ks) L.length) (GL L ks))) hj hb
theorem Re {j:Nat} (hj:j<c):sA (I4 L ks c) j=sA (GL L ks) j∧sR (I4 L ks c) j=sR (GL L ks) j∧sZ (I4 L ks c) j=sZ (GL L ks) j∧A5 (I4 L ks c) (j*4+2)=Dn (GL L ks) L.length j∧A7 (I4 L ks c) (j*4+2)=0∧sN (I4 L ks c) j=sN (GL L ks) j:=by
 have e0:=Lv (L:=L) (ks:=ks) hj (b:=0) (by omega);have e1:=Lv (L:=L) (ks:=ks) hj (b:=1) (by omega);have e2:=Lv (L:=L) (ks:=ks) hj (b:=2) (by omega);have e3:=Lv (L:=L) (ks:=ks) hj (b:=3) (by omega);rw [Nat.add_zero] at e0;refine ⟨?_,?_,?_,?_,?_,?_⟩
 ·show A0 (I4 L ks c) (j*4)=_;unfold A0;rw [e0];rfl
 ·show A0 (I4 L ks c) (j*4+1)=_;unfold A0;rw [e1];rfl
 ·show A0 (I4 L ks c) (j*4+3)=_;unfold A0;rw [e3];rfl
 ·unfold A5;rw [e2];rfl
 ·unfold A7;rw [e2];rfl
 ·show B7 (I4 L ks c) (j*4+2)=_;unfold B7;rw [e2];rfl
theorem Wp {l:List AV} (h:l.all plA=true):T0 l=true∧A6 0 l=true∧∀ v∈l,G8 v=true∧∀ σ,sb σ 0 v=v:=by
 rw [List.all_eq_true] at h;refine ⟨?_,?_,fun v hv=>?_⟩
 ·unfold T0;rw [List.all_eq_true];intro v hv
  have:=h v hv
  unfold plA at this;split at this<;>first | rfl | cases this
 ·rw [J9,List.all_eq_true];intro v hv
  have:=h v hv
  unfold plA at this;split at this<;>first | rfl | cases this
 ·have:=h v hv
  unfold plA at this;split at this<;>first | exact ⟨rfl,fun σ=>by simp [sb]⟩ | cases this
end
end Go.Am
namespace Go.Am
open Go.RowKit Go.Proofs
set_option maxRecDepth 100000
structure Cu (L:List RoE) (ks c kp:Nat) (G:Nat→List AV):Prop where
 lo:∀ k,k<L.length→(GL L k).all Jm=true→G k=GL L k
 lo':∀ k,k<L.length→(GL L k).all Jm=false→G k=[]
 z:G L.length=[]
 s:G (L.length+1)=I4 L ks c
 p:G (L.length+2)=GL L kp
section
variable {L:List RoE} {ks c kp q:Nat} {G:Nat→List AV}
theorem Cu.dat (N:Cu L ks c kp G) (h:Mh L ks c kp q) {j:Nat} (hj:j<c):∃ b,byO b∧b.length=sN (GL L ks) j∧G (Dn (GL L ks) L.length j)=B9 b∧GL L (Dn (GL L ks) L.length j)=B9 b:=by
 obtain ⟨_,_,hd,_⟩:=h.sec j hj;rcases hd with e | ⟨k,b,g1,g2,g3,g4⟩
 ·have e1:Dn (GL L ks) L.length j=L.length:=by unfold Dn;rw [e]
  have e2:sN (GL L ks) j=0:=by
   show B7 (GL L ks) (j*4+2)=0;unfold B7;rw [e]
  refine ⟨[],fun x hx=>by simp at hx,e2.symm,?_,?_⟩
  ·rw [e1,N.z];rfl
  ·rw [e1,Rk (Nat.le_refl _)];rfl
 ·have e1:Dn (GL L ks) L.length j=k:=by unfold Dn;rw [g2]
  have e2:sN (GL L ks) j=b.length:=by
   show B7 (GL L ks) (j*4+2)=_;unfold B7;rw [g2]
  refine ⟨b,g4,e2.symm,?_,by rw [e1,g3]⟩;rw [e1,N.lo k g1 (by rw [g3];exact Yo),g3]
theorem Cu.dl (N:Cu L ks c kp G) (h:Mh L ks c kp q) {j:Nat} (hj:j<c):∃ b,byO b∧b.length=sN (GL L ks) j∧G (A5 (I4 L ks c) (j*4+2))=B9 b∧Fs G (I4 L ks c) j=B9 b∧Fs (GL L) (I4 L ks c) j=B9 b:=by
 obtain ⟨b,h1,h2,h3,h4⟩:=N.dat h hj;obtain ⟨_,_,_,a1,a2,a3⟩:=Re (L:=L) (ks:=ks) hj;have a3:B7 (I4 L ks c) (j*4+2)=sN (GL L ks) j:=a3;have e:F8 (B9 b) 0 (sN (GL L ks) j)=B9 b:=R1 (by rw [Ew,h2]);refine ⟨b,h1,h2,by rw [a1];exact h3,?_,?_⟩
 ·unfold Fs;rw [a1,a2,a3,h3,e]
 ·unfold Fs;rw [a1,a2,a3,h4,e]
theorem Cu.db (N:Cu L ks c kp G) (h:Mh L ks c kp q) {j:Nat} (hj:j<c):dB G (I4 L ks c) j=dB (GL L) (I4 L ks c) j:=by
 obtain ⟨b,_,_,_,e1,e2⟩:=N.dl h hj;rw [dJ e1,dJ e2]
theorem Cu.imIs (N:Cu L ks c kp G) (h:Mh L ks c kp q) (hm:Y2 (I4 L ks c) c q=false):V7 G (L.length+1) (L.length+2) c q∧M4 G (L.length+1) (L.length+2) c q:=by
 obtain ⟨h20,h1000⟩:=Se hm;have hlen:=jC hm;have hsec:K1 (I4 L ks c) c=true:=by unfold I4;rw [eX];exact eY
 have dt:=fun j hj=>N.dl h (j:=j) hj;have flatS:A6 0 (I4 L ks c)=true:=Zz fun j hj=>rfl
 have hcl:T0 (I4 L ks c)=true:=by
  unfold T0;rw [List.all_eq_true];intro v hv;unfold I4 M2 S4 at hv;obtain ⟨j,hj,rfl⟩:=List.mem_map.1 hv;have hb:j % 4<4:=Nat.mod_lt _ (by omega);generalize j % 4=b at hb
  match b,hb with
  | 0,_=>rfl
  | 1,_=>rfl
  | 2,_=>rfl
  | 3,_=>rfl
 have hl:(I4 L ks c).length=c*4:=Mo;obtain ⟨p1,p2,_⟩:=Wp h.flat;refine ⟨⟨by rw [N.s];exact hsec,by rw [N.p];exact h.pls,Im.2 ⟨⟨by rw [N.s];exact hsec,?_⟩,?_,?_⟩,fun j hj=>?_⟩,⟨?_,fun j hj=>?_,fun j hj=>?_,?_⟩⟩
 ·rw [N.s];refine V1.2 ⟨⟨G1.2 (by omega),?_⟩,by omega,?_⟩
  ·rw [R1 hl];exact hcl
  ·rw [R1 hl];exact flatS
 ·rw [N.p];refine V1.2 ⟨⟨G1.2 (by rw [h.len];omega),?_⟩,by omega,?_⟩
  ·rw [R1 h.len];exact p1
  ·rw [R1 h.len];exact p2
 ·intro j hj;rw [N.s];obtain ⟨b,_,b2,b3,b4,_⟩:=dt j hj;obtain ⟨_,_,_,_,a2,a3⟩:=Re (L:=L) (ks:=ks) hj;have hn:=hlen j hj;rw [b3,a2];have e:(B9 b).length=sN (I4 L ks c) j:=by rw [Ew,b2,a3]
  refine V1.2 ⟨⟨G1.2 (by rw [e];omega),?_⟩,by omega,?_⟩
  ·rw [Nat.mul_one,R1 e];unfold T0;rw [List.all_eq_true];intro v hv;obtain ⟨x,_,rfl⟩:=List.mem_map.1 hv;rfl
  ·rw [Nat.mul_one,R1 e];exact Yr
 ·rw [N.s];obtain ⟨b,b1,_,_,b4,_⟩:=dt j hj;exact ⟨b,b1,b4⟩
 ·rw [N.s];refine Ed fun a b ha hb=>?_;obtain ⟨a1,a2,a3,a4,a5,a6⟩:=Re (L:=L) (ks:=ks) ha
  match b,hb with
  | 0,_=>show AV.int .i64 (sA (GL L ks) a)=.int .i64 (sA (I4 L ks c) a);rw [a1]
  | 1,_=>show AV.int .i64 (sR (GL L ks) a)=.int .i64 (sR (I4 L ks c) a);rw [a2]
  | 2,_=>
   show dK (Dn (GL L ks) L.length) (GL L ks) a=dR (I4 L ks c) a;unfold dK dR;rw [a4,a5,a6]
  | 3,_=>show AV.int .i64 (sZ (GL L ks) a)=.int .i64 (sZ (I4 L ks c) a);rw [a3]
 ·rw [N.s];exact (Re (L:=L) (ks:=ks) hj).2.2.2.2.1
 ·rw [N.s];obtain ⟨b,_,_,b3,b4,_⟩:=dt j hj;rw [b3,b4]
 ·rw [N.p]
  have:=fE h.pls (Nat.le_of_eq h.len.symm)
  rwa [R1 h.len] at this
def Hc (L:List RoE) (ks kp ka:Nat) (k:Nat):Option Nat:=if k≤L.length then some k else if k=L.length+1 then some ks else if k=L.length+2 then some kp else if k=L.length+3 then some ka else none
theorem Cu.told {ka:Nat} (N:Cu L ks c kp G) (h:Mh L ks c kp q) (ha:G (L.length+3)=[]∨G (L.length+3)=GL L ka∧∀ v∈GL L ka,G8 v=true∧∀ σ,sb σ 0 v=v):kM (Hc L ks kp ka) (GL L) G:=by
  have σk:∀ k,k≤L.length→σS (Hc L ks kp ka) k=(.ro k,0):=fun k hk=>by unfold σS Hc;rw [if_pos hk]
  intro k k1 hs j v hv;unfold Hc at hs;by_cases h1:k≤L.length
  · rw [if_pos h1] at hs;obtain rfl:=Option.some.inj hs;by_cases h2:k<L.length
    · cases hu:(GL L k).all Jm with
      | true=>
        rw [N.lo k h2 hu] at hv;have hm:=List.mem_of_getElem? hv;rw [List.all_eq_true] at hu
        have:=hu v hm
        unfold Jm at this;split at this
        · exact ⟨_,hv,rfl,fun ρ cv h=>by simpa [sb] using h⟩
        · cases this
      | false=>
        rw [N.lo' k h2 hu] at hv;simp at hv
    · have:k=L.length:=by omega
      subst this;rw [N.z] at hv;simp at hv
  · rw [if_neg h1] at hs;by_cases h2:k=L.length+1
    · rw [if_pos h2] at hs;obtain rfl:=Option.some.inj hs;subst h2;rw [N.s] at hv;have hl:(I4 L ks c).length=c*4:=Mo;have hj:j<c*4:=by rw [←hl];exact (List.getElem?_eq_some_iff.1 hv).1
      obtain ⟨g1,g2,g3⟩:=Ra hj;have e:=Lv (L:=L) (ks:=ks) g1 g2;rw [← g3, hv] at e;obtain rfl:=Option.some.inj e;obtain ⟨⟨x,q0⟩,⟨r,q1⟩,q2,y,q3⟩:=h.sec _ g1;generalize j / 4=a at *;generalize j % 4=b at *;subst g3
      match b,g2 with
      | 0,_=>
        have e:A0 (GL L ks) (a*4)=x:=by unfold A0;rw [q0]
        refine ⟨_,q0,rfl,fun ρ cv h=>?_⟩;show VR ρ (sb _ 0 (.int .i64 (A0 (GL L ks) (a*4)))) cv;rw [e];simpa [sb] using h
      | 1,_=>
        have e:A0 (GL L ks) (a*4+1)=r:=by unfold A0;rw [q1]
        refine ⟨_,q1,rfl,fun ρ cv h=>?_⟩;show VR ρ (sb _ 0 (.int .i64 (A0 (GL L ks) (a*4+1)))) cv;rw [e];simpa [sb] using h
      | 2,_=>
        rcases q2 with e | ⟨k',b,w1,w2,w3,w4⟩
        · refine ⟨_,e,rfl,fun ρ cv h=>?_⟩;show VR ρ (sb _ 0 (dK (Dn (GL L ks) L.length) (GL L ks) a)) cv;have e1:Dn (GL L ks) L.length a=L.length:=by unfold Dn;rw [e]
          have e2:sN (GL L ks) a=0:=by
            show B7 (GL L ks) (a*4+2)=0;unfold B7;rw [e]
          unfold dK;rw [e1,e2];simp only [sb,σk _ (Nat.le_refl _),Nat.zero_add];exact Ez _ _ h
        · refine ⟨_,w2,rfl,fun ρ cv h=>?_⟩;show VR ρ (sb _ 0 (dK (Dn (GL L ks) L.length) (GL L ks) a)) cv;have e1:Dn (GL L ks) L.length a=k':=by unfold Dn;rw [w2]
          have e2:sN (GL L ks) a=b.length:=by
            show B7 (GL L ks) (a*4+2)=_;unfold B7;rw [w2]
          unfold dK;rw [e1,e2];simp only [sb,σk _ (Nat.le_of_lt w1),Nat.zero_add];exact Af h
      | 3,_=>
        have e:A0 (GL L ks) (a*4+3)=y:=by unfold A0;rw [q3]
        refine ⟨_,q3,rfl,fun ρ cv h=>?_⟩;show VR ρ (sb _ 0 (.int .i64 (A0 (GL L ks) (a*4+3)))) cv;rw [e];simpa [sb] using h
    · rw [if_neg h2] at hs;by_cases h3:k=L.length+2
      · rw [if_pos h3] at hs;obtain rfl:=Option.some.inj hs;subst h3;rw [N.p] at hv;obtain ⟨_,_,p3⟩:=Wp h.flat;obtain ⟨n1,n2⟩:=p3 v (List.mem_of_getElem? hv);exact ⟨v,hv,n1,fun ρ cv h=>by rw [n2];exact h⟩
      · rw [if_neg h3] at hs;by_cases h4:k=L.length+3
        · rw [if_pos h4] at hs;obtain rfl:=Option.some.inj hs;subst h4;rcases ha with e | ⟨e,ha⟩
          · rw [e] at hv;simp at hv
          · rw [e] at hv;obtain ⟨n1,n2⟩:=ha v (List.mem_of_getElem? hv);exact ⟨v,hv,n1,fun ρ cv h=>by rw [n2];exact h⟩
        · rw [if_neg h4] at hs;cases hs
end
end Go.Am
namespace Go.Am
open Go.RowKit Go.Proofs
set_option maxRecDepth 100000
def pbS (G:Nat→List AV) (cs:List AV) (k:Nat):Nat→List (List AV)
 | 0=>[]
 | i+1=>pbS G cs k i++[B9 (I2 G cs k i)]
def pbL (G:Nat→List AV) (cs:List AV):Nat→List (List AV)
 | 0=>[]
 | k+1=>pbL G cs k++pbS G cs k (J2 cs k)
theorem Ia {G:Nat→List AV} {cs:List AV} {k:Nat}:∀ i,(pbS G cs k i).length=i
 | 0=>rfl
 | i+1=>by rw [pbS,List.length_append,Ia i];rfl
theorem Ms {G:Nat→List AV} {cs:List AV}:∀ k,(pbL G cs k).length=A2 cs k
 | 0=>rfl
 | k+1=>by rw [pbL,List.length_append,Ms k,Ia,A2]
theorem fF {G:Nat→List AV} {cs:List AV} {k i:Nat}:∀ {c:Nat},i<c→(pbS G cs k c)[i]?=some (B9 (I2 G cs k i))
 | 0,h=>absurd h (Nat.not_lt_zero i)
 | c+1,h=>by
  rw [pbS];by_cases e:i=c
  ·subst e;rw [List.getElem?_append_right (by rw [Ia];exact Nat.le_refl _),Ia,Nat.sub_self];rfl
  ·rw [List.getElem?_append_left (by rw [Ia];omega)];exact fF (by omega)
theorem fG {G:Nat→List AV} {cs:List AV} {k i:Nat}:∀ {n:Nat},k<n→i<J2 cs k→(pbL G cs n)[A2 cs k+i]?=some (B9 (I2 G cs k i))
 | 0,h,_=>absurd h (Nat.not_lt_zero k)
 | n+1,h,hi=>by
  rw [pbL];by_cases e:k=n
  ·subst e;rw [List.getElem?_append_right (by rw [Ms];omega),Ms,Nat.add_sub_cancel_left];exact fF hi
  ·have:=Kw (n:=n) (cs:=cs) (k:=k) (i:=i) (by omega) hi
   rw [List.getElem?_append_left (by rw [Ms];omega)];exact fG (by omega) hi
section
variable (L:List RoE) (ks c kp ka:Nat)
def GP (k:Nat):List AV:=
 if k<L.length then (if (GL L k).all Jm=true then GL L k else [])
 else if k=L.length+1 then I4 L ks c
 else if k=L.length+2 then GL L kp
 else if k=L.length+3 then GL L ka
 else if k=L.length+4 then G3 (I4 L ks c) c
 else if k=L.length+5 then F9 (L.length+6) (I4 L ks c) c
 else if L.length+6≤k then ((pbL (GL L) (I4 L ks c) c)[k - (L.length+6)]?).getD []
 else []
end
section
variable {L:List RoE} {ks c kp ka q:Nat}
theorem Yx:Cu L ks c kp (GP L ks c kp ka) where
 lo k hk hu:=by unfold GP;rw [if_pos hk,if_pos hu]
 lo' k hk hu:=by unfold GP;rw [if_pos hk,if_neg (by rw [hu];decide)]
 z:=by unfold GP;rw [if_neg (by omega),if_neg (by omega),if_neg (by omega),if_neg (by omega),if_neg (by omega),if_neg (by omega),if_neg (by omega)]
 s:=by unfold GP;rw [if_neg (by omega),if_pos rfl]
 p:=by unfold GP;rw [if_neg (by omega),if_neg (by omega),if_pos rfl]
theorem kQ:GP L ks c kp ka (L.length+3)=GL L ka:=by unfold GP;rw [if_neg (by omega),if_neg (by omega),if_neg (by omega),if_pos rfl]
theorem GP_n:GP L ks c kp ka (L.length+4)=G3 (I4 L ks c) c:=by unfold GP;rw [if_neg (by omega),if_neg (by omega),if_neg (by omega),if_neg (by omega),if_pos rfl]
theorem GP_w:GP L ks c kp ka (L.length+5)=F9 (L.length+6) (I4 L ks c) c:=by unfold GP;rw [if_neg (by omega),if_neg (by omega),if_neg (by omega),if_neg (by omega),if_neg (by omega),if_pos rfl]
theorem GP_b (h:Mh L ks c kp q) {k i:Nat} (hk:k<c) (hi:i<J2 (I4 L ks c) k):GP L ks c kp ka (L.length+6+(A2 (I4 L ks c) k+i))=B9 (I2 (GP L ks c kp ka) (I4 L ks c) k i):=by
 have e:I2 (GP L ks c kp ka) (I4 L ks c) k i=I2 (GL L) (I4 L ks c) k i:=by unfold I2;rw [Yx.db h hk]
 rw [e];unfold GP;rw [if_neg (by omega),if_neg (by omega),if_neg (by omega),if_neg (by omega),if_neg (by omega),if_neg (by omega),if_pos (by omega),show L.length+6+(A2 (I4 L ks c) k+i) - (L.length+6)=A2 (I4 L ks c) k+i by omega,fG hk hi];rfl
theorem cV (B:Nat) (s lw:Int) (I:Mh L ks c kp q) {na:Nat} (ha:Mg L .u32 ka na):ACalls ⟨Try.prog,GP L ks c kp ka,B⟩ 6 [.agg [.int .i64 s,.slice true (.ro (L.length+1)) 0 c,.slice true (.ro (L.length+2)) 0 q],.slice true (.ro (L.length+3)) 0 na,.int .i64 lw] [] fun v _=>v=.bool true:=by
 have N:Cu L ks c kp (GP L ks c kp ka):=Yx;have hsec:K1 (I4 L ks c) c=true:=by unfold I4;rw [eX];exact eY
 cases hmu:Y2 (I4 L ks c) c q with
 | true=>exact mY _ B (L.length+1) (L.length+2) c q (L.length+3) na s lw (by rw [N.s];exact hsec) (by rw [N.s];exact hmu)
 | false=>
  obtain ⟨hb,hw⟩:=N.imIs I hmu;refine jM _ B (L.length+1) (L.length+2) c q (L.length+3) na (L.length+6) (L.length+4) (L.length+5) s lw (by rw [N.s];exact hmu) hb hw (fun i hi=>?_) (fun i hi=>?_) (by rw [N.s];exact GP_n) (by rw [N.s];exact GP_w) (fun _ k i hk hi=>?_) (fun hy=>?_)
  ·rw [kQ]
   have:=aS ha.ok hi
   rwa [Nat.zero_add] at this
  ·rw [kQ]
   have:=nV (ha.wf i hi)
   omega
  ·rw [N.s] at hi ⊢;exact GP_b I hk hi
  ·have hs:∀ j,j<c→I8 (GP L ks c kp ka (L.length+1)) j=true:=fun j hj=>(Fl hy j hj).2.2.2;have h8:=(Na hy).1.1
   have:=Wr hs c (Nat.le_refl _)
   omega
end
end Go.Am
