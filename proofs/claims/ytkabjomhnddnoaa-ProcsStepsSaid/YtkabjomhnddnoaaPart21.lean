/-
  Tables of processes in a law's heap: a copy, two compared, a new one. The chapter's rows hold: the machine's own run.
-/
import Derived.Test.YtkabjomhnddnoaaPart20
import Derived.Test.YtkabjomhnddnoaaPart15
import Derived.Test.YtkabjomhnddnoaaBase3
import Derived.Test.YtkabjomhnddnoaaProg
import Derived.Test.YtkabjomhnddnoaaPart17
import Derived.Test.YtkabjomhnddnoaaPart14
import Derived.Test.YtkabjomhnddnoaaBase10
import Derived.Test.YtkabjomhnddnoaaPart19
namespace Go.Am
open Crc
variable {C:A3}
def W9 (b:Int) (x:List AV):List AV:=[.int .i64 b,.agg x,.tup (.agg (I3 tsP [.int .i64 b,.agg x])::(List.range 13).map fun n=>.agg (A7 tsP n [.agg x]))]
def mY (tg:Nat) (t:TS) (L:Nat) (x:EL):List DHop:=.new (Tq tg t (L+1) x)::(Ax tg t x).map .new
theorem jR:∀ (bs:List Blk) (H:Hp),acts H (bs.map .new)=H++bs.map some
 | [],H=>by simp [acts]
 | b::bs,H=>by
  simp only [List.map_cons,acts,Hop.act];rw [jR bs,List.append_assoc];rfl
theorem iW {G:Nat→List AV} {tg:Nat} {t:TS} {x:EL} {s:Ptb} (hx:vL G x=encX s) (hs:U7 s) (H:Hp) (L:Nat):acts H ((mY tg t L x).map (G2 G))=H++P8 t (B3 (L+1) s) s s:=by
 have e:(mY tg t L x).map (G2 G)=((⟨1,t.tb (B3 (L+1) s) s⟩:Blk)::(List.range 13).map fun n=>⟨1,I4 t.enc (s.sg n)⟩).map .new:=by
  unfold mY;rw [←aR (b:=L+1) hx hs,←Tm (tg:=tg) hx hs];simp only [List.map_cons,List.map_map,G2];rfl
 rw [e,jR];simp [P8,L7]
theorem Wm {t:TS} (ht:O7 t) {s:Ptb} {θ:List Nat} {b b':Nat} (h:∀ n,n<13→θ.getD (b+n) 0=b'+n):(P8 t (B3 b s) s s).map (K7 θ)=P8 t (B3 b' s) s s:=by
 unfold P8 L7;rw [List.map_cons,List.map_map];congr 1
 ·simp only [K7,Option.map_some,F9,X4 ht h]
 ·refine List.map_congr_left fun n _=>?_;simp only [Function.comp,K7,Option.map_some,F9,Y8 ht]
theorem N3 {t:TS} (ht:O7 t) {s:Ptb} {b m:Nat} (hm:b+13≤m):D7 m (P8 t (B3 b s) s s)=true:=by
 unfold P8 L7;have h1:A8 m (t.tb (B3 b s) s)=true:=ht.bnd m (B3 b s) s fun n hn=>Bx (by omega)
 have h2:∀ l:List Nat,D7 m (l.map fun n=>some (⟨1,I4 t.enc (s.sg n)⟩:Blk))=true:=fun l=>by
  induction l with
  | nil=>rfl
  | cons a l ih=>simp only [List.map_cons,D7,ih,Bool.and_true];exact Au ht _ _
 simp only [D7];rw [Bool.and_eq_true];exact ⟨h1,h2 _⟩
def uK (tg:Nat) (ok:List AV→Bool) (t:TS):DSum:=fun args H=>match args with
 | [.ptr (.rw i) (.lit 0)]=>match Z0 tg H i with
  | some o=>some (.chk (Hv tg ok o) (.one (.ptr (.rw H.length) (.lit 0)) (mY tg t H.length o.x)))
  | none=>none
 | _=>none
theorem copyQ_ok {tg:Nat} {t:TS} (ht:O7 t) {f:FuncId} (h:∀ s,Wf s→ACalls C f [.ptr (.rw 0) 0] (B0 t s) fun v H'=>v=.ptr (.rw 14) 0∧H'=B0 t s++P8 t (B3 15 s) s s):G0 C f (uK tg (F6 t) t):=by
 intro args H o ho;unfold uK at ho;split at ho
 ·rename_i i;split at ho
  ·rename_i oa hoa;simp only [Option.some.injEq] at ho;subst ho;intro h1;have h1:F6 t [.int .i64 (oa.b:Int),.agg (vL C.G oa.x),.tup (vVs C.G (.agg oa.c0::oa.cs.map EV.agg))]=true:=h1;obtain ⟨s,hw,hx,hc⟩:=Q9.1 h1;rw [Int.toNat_natCast] at hc;have live:=Gq ht hoa hc;have hl28:(B0 t s++P8 t (B3 15 s) s s).length=28:=by rw [List.length_append,A9,Cg]
   refine E1.fr (θ:=B7 i oa.b) (H0:=B0 t s) (H1:=B0 t s++P8 t (B3 15 s) s s) (v0:=.ptr (.rw 14) 0) (args0:=[.ptr (.rw 0) 0]) (Fa (Fp hoa).1) (by rw [B5,A9]) live ?_ rfl (h s hw) (by rw [hl28,A9];omega) (by rw [hl28];rfl) ?_ ?_ ?_
   ·rw [B5];rfl
   ·rw [hl28];have a:=Bi ht s;have b:D7 28 (B0 t s)=true:=N3 ht (s:=s) (b:=1) (by omega);exact hpB_app b (N3 ht (by omega))
   ·rw [hl28,B5];show AV.ptr (.rw H.length) 0=AV.ptr (.rw ((J0 (B7 i oa.b) H.length 14).getD (14+0) 0)) 0;rw [Ia (by omega),Nat.add_zero]
   ·unfold L4;rw [hl28,B5,iW hx hw.thin,List.drop_left' A9];congr 1
    ·symm
     refine Ft _ _ _ _ fun k b hk hb=>?_;rw [B5] at hk;rw [List.getElem?_append_left (by rw [A9];exact hk)] at hb;obtain ⟨b0,rfl,g1,g2⟩:=live k b hb;rw [g2];simp only [K7,Option.map_some,F9,Z8 _ g1]
    ·rw [C0]
     symm
     refine Wm ht fun n hn=>?_;rw [show 15+n=14+(1+n) by omega,Ia (by omega)];omega
  ·cases ho
 ·cases ho
theorem gW {θ θ':List Nat} {i:Nat} (h:i<θ.length):(θ++θ').getD i 0=θ.getD i 0:=by
 simp [List.getD,List.getElem?_append_left h]
mutual
theorem aO1 {θ θ':List Nat}:∀ v,bnd θ.length v=true→ren (θ++θ') v=ren θ v
 | .undef,_=>by simp [ren]
 | .bool _,_=>by simp [ren]
 | .int _ _,_=>by simp [ren]
 | .str _,_=>by simp [ren]
 | .nilp,_=>by simp [ren]
 | .nils,_=>by simp [ren]
 | .nilf,_=>by simp [ren]
 | .ptr (.rw i) off,h=>by simp only [bnd,decide_eq_true_eq] at h;simp only [ren,gW h]
 | .ptr (.ro i) off,_=>by simp [ren]
 | .slice mb (.rw i) off len,h=>by simp only [bnd,decide_eq_true_eq] at h;simp only [ren,gW h]
 | .slice mb (.ro i) off len,_=>by simp [ren]
 | .func f cap,h=>by simp only [bnd] at h;simp only [ren,Mm cap h]
 | .agg cs,h=>by simp only [bnd] at h;simp only [ren,Mm cs h]
 | .tup cs,h=>by simp only [bnd] at h;simp only [ren,Mm cs h]
 | .yld i,h=>by simp only [bnd,decide_eq_true_eq] at h;simp only [ren,gW h]
 | .rcd ..,_=>by simp [ren]
theorem Mm {θ θ':List Nat}:∀ l,A8 θ.length l=true→rens (θ++θ') l=rens θ l
 | [],_=>by simp [rens]
 | v::l,h=>by
  simp only [A8,Bool.and_eq_true] at h;simp only [rens,aO1 v h.1,Mm l h.2]
end
def Jn:List Nat→Bool
 | []=>true
 | a::l=>(l.all fun b=>!Nat.beq a b)&&Jn l
theorem Mo:∀ {l:List Nat},Jn l=true→l.Nodup
 | [],_=>List.nodup_nil
 | a::l,h=>by
  simp only [Jn,Bool.and_eq_true,List.all_eq_true,Bool.not_eq_true'] at h;refine List.nodup_cons.2 ⟨fun hm=>?_,Mo h.2⟩
  have:=h.1 a hm
  rw [Nat.beq_refl] at this;cases this
def cL:List AV→Bool:=fun vs=>match vs with
 | [.agg x,.agg y]=>Ay (P7 x) (P7 y)
 | _=>false
def sU (tg:Nat) (ok:List AV→Bool):DSum:=fun args H=>match args with
 | [.ptr (.rw i) (.lit 0),.ptr (.rw j) (.lit 0)]=>match Z0 tg H i,Z0 tg H j with
  | some o,some q=>match Jn (B7 i o.b++B7 j q.b) with
   | true=>some (.chk (Hv tg ok o) (.chk (Hv tg ok q) (.one (.bool (.uf 2440 cL [.agg o.x,.agg q.x])) [])))
   | false=>none
  | _,_=>none
 | _=>none
theorem sameQ_ok {tg:Nat} {t:TS} (ht:O7 t) {f:FuncId} (h:∀ s s',Wf s→Wf s'→ACalls C f [.ptr (.rw 0) 0,.ptr (.rw 14) 0] (Oy t s s') fun v H'=>v=.bool (Ay s s')∧H'=Oy t s s'):G0 C f (sU tg (F6 t)):=by
 intro args H o ho;unfold sU at ho;split at ho
 ·rename_i i j;split at ho
  ·rename_i oa ob hoa hob;split at ho
   ·rename_i hnd;have hnd:=Mo hnd;simp only [Option.some.injEq] at ho;subst ho;intro h1 h2;have h1:F6 t [.int .i64 (oa.b:Int),.agg (vL C.G oa.x),.tup (vVs C.G (.agg oa.c0::oa.cs.map EV.agg))]=true:=h1;have h2:F6 t [.int .i64 (ob.b:Int),.agg (vL C.G ob.x),.tup (vVs C.G (.agg ob.c0::ob.cs.map EV.agg))]=true:=h2;obtain ⟨s,hw,hx,hc⟩:=Q9.1 h1;obtain ⟨s',hw',hx',hc'⟩:=Q9.1 h2;rw [Int.toNat_natCast] at hc hc';have live:=Gq ht hoa hc;have live':=Gq ht hob hc';have hlθ:(B7 i oa.b++B7 j ob.b).length=28:=by rw [List.length_append,B5,B5]
    have lo:∀ k,k<14→(B7 i oa.b++B7 j ob.b).getD k 0=(B7 i oa.b).getD k 0:=fun k hk=>by
     simp only [List.getD];rw [List.getElem?_append_left (by rw [B5];exact hk)]
    have hi:∀ k,(B7 i oa.b++B7 j ob.b).getD (14+k) 0=(B7 j ob.b).getD k 0:=fun k=>by
     simp only [List.getD];rw [List.getElem?_append_right (by rw [B5];omega),B5,Nat.add_sub_cancel_left]
    have ev:vV C.G (.bool (.uf 2440 cL [.agg oa.x,.agg ob.x]))=.bool (Ay s s'):=by simp only [vV,vB,vVs,hx,hx',cL,C7 hw.thin,C7 hw'.thin]
    have all:∀ (k:Nat) b,(Oy t s s')[k]?=some b→∃ b0,b=some b0∧A8 (B7 i oa.b++B7 j ob.b).length b0.cells=true∧(vHp C.G H)[(B7 i oa.b++B7 j ob.b).getD k 0]?=some (some (F9 (B7 i oa.b++B7 j ob.b) b0)):=fun k b hb=>by
     have hlt:=(List.getElem?_eq_some_iff.1 hb).1;rw [Dx] at hlt;rw [hlθ];unfold Oy at hb;by_cases hk:k<14
     ·rw [List.getElem?_append_left (by rw [A9];exact hk)] at hb;obtain ⟨b0,rfl,g1,g2⟩:=live k b hb;rw [B5] at g1;refine ⟨b0,rfl,C6 (by omega) _ g1,?_⟩;rw [lo k hk,g2]
      have:rens (B7 i oa.b++B7 j ob.b) b0.cells=rens (B7 i oa.b) b0.cells:=Mm _ (by rw [B5];exact g1)
      simp only [F9,this]
     ·obtain ⟨n,rfl⟩:∃ n,k=14+n:=⟨k - 14,by omega⟩;rw [List.getElem?_append_right (by rw [A9];omega),A9,Nat.add_sub_cancel_left] at hb;rw [hi];cases n with
      | zero=>
       rw [jN] at hb;simp only [Option.some.injEq] at hb;subst hb;obtain ⟨b0,e,_,g2⟩:=live' 0 _ rfl;simp only [Option.some.injEq] at e;subst e;refine ⟨_,rfl,ht.bnd 28 (B3 15 s') s' fun n hn=>Bx (by omega),?_⟩;rw [g2];simp only [F9];rw [X4 ht (θ:=B7 j ob.b) (b:=1) (b':=ob.b) fun n hn=>Dy hn,X4 ht (b:=15) (b':=ob.b) fun n hn=>by rw [show 15+n=14+(1+n) by omega,hi,Dy hn]]
      | succ n=>
       rw [Do (by omega)] at hb;simp only [Option.some.injEq] at hb;subst hb;obtain ⟨b0,e,_,g2⟩:=live' (n+1) _ (Do (p:=B3 1 s') (by omega));simp only [Option.some.injEq] at e;subst e;refine ⟨_,rfl,Au ht _ _,?_⟩;rw [g2];simp only [F9,Y8 ht]
    refine E1.fr (θ:=B7 i oa.b++B7 j ob.b) (H0:=Oy t s s') (H1:=Oy t s s') (v0:=.bool (Ay s s')) (args0:=[.ptr (.rw 0) 0,.ptr (.rw 14) 0]) hnd (by rw [hlθ,Dx]) all (by rw [hlθ];rfl) ?_ (h s s' hw hw') (Nat.le_refl _) rfl ?_ (by rw [ev];rfl) ?_
    ·simp only [vVs,vV,vR,vN,rens,ren];rw [lo 0 (by omega),hi 0];rfl
    ·rw [Dx];unfold Oy;exact hpB_app (N3 ht (s:=s) (b:=1) (by omega)) (N3 ht (by omega))
    ·unfold L4;rw [hlθ,Dx,Nat.sub_self,List.drop_of_length_le (by rw [Dx];omega)];show vHp C.G H=lay _ _ _ _++[];rw [List.append_nil,Ft];intro k b hk hb;obtain ⟨b0,rfl,g1,g2⟩:=all k b hb;rw [g2];simp only [K7,Option.map_some,F9,Z8 _ g1]
   ·cases ho
  ·cases ho
 ·cases ho
def L8:List AV→List AV:=fun _=>encX new0
def fX (tg:Nat) (t:TS):DSum:=fun args H=>match args with
 | []=>some (.one (.ptr (.rw H.length) (.lit 0)) (mY tg t H.length (.uf 2451 L8 [])))
 | _=>none
theorem qZ {tg:Nat} {t:TS} (ht:O7 t) {f:FuncId} (h:ACalls C f [] [] fun v H'=>v=.ptr (.rw 0) 0∧H'=B0 t new0):G0 C f (fX tg t):=by
 intro args H o ho;unfold fX at ho;split at ho
 ·simp only [Option.some.injEq] at ho;subst ho;refine E1.fr (θ:=[]) (H0:=[]) (H1:=B0 t new0) (v0:=.ptr (.rw 0) 0) (args0:=[]) List.nodup_nil rfl (fun k b hk=>by simp at hk) rfl rfl h (Nat.zero_le _) (by rw [A9];rfl) (by rw [A9];exact Bi ht new0) ?_ ?_
  ·rw [A9];show AV.ptr (.rw H.length) 0=AV.ptr (.rw ((J0 [] H.length 14).getD 0 0)) 0;rw [Me (by simp) (by simp)];rfl
  ·unfold L4;rw [A9,iW (s:=new0) rfl Oj.thin,C0];show vHp C.G H++_=vHp C.G H++(B0 t new0).map _;congr 1
   symm
   refine Wm ht (s:=new0) (b:=1) fun n hn=>?_;rw [Me (by simp) (by simp;omega)];simp;omega
 ·cases ho
end Go.Am
namespace Go.Proofs.Ytkabjomhnddnoaa
open Go.Am Go.RowKit
set_option maxRecDepth 100000
theorem xO (G:Nat→List AV) (B:Nat):vc (Kc ⟨Try.prog,G,B⟩) 3000 0 (.code (bodyOf Try.f9)) (Aq Try.f9 []) [] (W8 ⟨Try.prog,G,B⟩ Try.f9 fun v _=>chk (isT v) True)=True:=by kernel_rfl
theorem known_call (G:Nat→List AV) (B:Nat):ACalls ⟨Try.prog,G,B⟩ 9 [] [] fun v _=>v=.bool true:=
 closed_run (C:=⟨Try.prog,G,B⟩) (by kernel_rfl) (fn:=Try.f9) (by kernel_rfl) (by kernel_rfl) (by kernel_rfl) 3000 (xO G B)
end Go.Proofs.Ytkabjomhnddnoaa
namespace Go.Am
open Go.Proofs Crc
set_option maxRecDepth 100000
def Ce (b:Nat) (x:EL):DHp:=some (Tq 2101 tsP b x)::(Ax 2101 tsP x).map some
def knownS:DSum:=fun args _=>match args with
 | []=>some (.one (.bool (.lit true)) [])
 | _=>none
end Go.Am
namespace Go.Am
open Crc
end Go.Am
namespace Go.Am
open Go.Proofs Crc
set_option maxRecDepth 100000
set_option maxHeartbeats 1000000
theorem xP (G:Nat→List AV) (B:Nat):G0 (⟨Try.prog,G,B⟩:A3) 9 knownS:=by
 intro args H o ho;unfold knownS at ho;split at ho
 ·simp only [Option.some.injEq] at ho;subst ho;show E1 (⟨Try.prog,G,B⟩:A3) 9 [] H (.bool (.lit true)) [];refine E1.rdN (C:=(⟨Try.prog,G,B⟩:A3)) (σ:=fun _=>(.ro 0,0)) (G':=fun _=>[]) (args0:=[]) (fun k=>.inl rfl) rfl (fun ρ vs h=>h) (fun B'=>Go.Proofs.Ytkabjomhnddnoaa.known_call _ B') ⟨rfl,rfl⟩
 ·simp at ho
theorem Ig {s:Ptb} (hs:U7 s) (b:Nat):D2 b (encX s)=P8 tsP (B3 b s) s s:=by
 unfold D2 Ff P8 L7;simp only [I3,A7,C7 hs,Int.toNat_natCast]
theorem cZ {s:Ptb} (hw:Wf s) (b:Nat):F6 tsP [.int .i64 (b:Int),.agg (encX s),.tup (.agg (I3 tsP [.int .i64 (b:Int),.agg (encX s)])::(List.range 13).map fun n=>.agg (A7 tsP n [.agg (encX s)]))]=true:=by
 refine Q9.2 ⟨s,hw,rfl,?_⟩;simp only [I3,A7,C7 hw.thin]
theorem leafs4 {i:Nat} {n:Nat} {cs:List AV} (hk:Vq .i64 cs 0 (n*4)=true) (h:i<n):Ea cs (i*4) [.int .i64,.int .i64,.int .i64,.int .i64]=true:=by
 have h0:=Oh hk (j:=i*4) (by omega);have h1:=Oh hk (j:=i*4+1) (by omega);have h2:=Oh hk (j:=i*4+2) (by omega);have h3:=Oh hk (j:=i*4+3) (by omega);rw [Nat.zero_add] at h0 h1 h2 h3;simp [Ea,Sp,h0,h1,h2,h3]
end Go.Am
namespace Go.Am
open Go.Proofs Crc
set_option maxRecDepth 100000
theorem u44 (G:Nat→List AV) (tb sl:List AV) (n a:Int) (Q:Ex→List AV→Hp→Prop) (R:AV→Hp→Prop):vT G Q R (D0 (Df Try.prog [(75,1,13)] [67,60] [] [] 0) 300 20 Try.f44 [.ptr (.rw 0) (.lit 0),.int .i64 (.var 3 n),.int .i64 (.var 4 a)] (hp3 [some ⟨1,.var 1 tb⟩] (.var 2 sl) []) 14)=(
  (decide ((n:Int)≥1)=true→(decide ((n:Int)≤12)=true→decide ((0:Int)≤n)=true∧decide ((n:Int)<13)=true∧isI .i64 tb ((Int.toNat (n))*6)=true∧(((A0 tb ((Int.toNat (n))*6):Int)==n)=true→decide ((0:Int)≤n)=true∧decide ((n:Int)<13)=true∧isB tb ((Int.toNat (n))*6+4)=true∧(A5 tb ((Int.toNat (n))*6+4)=true→R (.int .i64 (6)) ([some ⟨1,tb⟩]++A2 sl))∧(A5 tb ((Int.toNat (n))*6+4)=false→(decide ((a:Int)<1)=true→R (.int .i64 (2)) ([some ⟨1,tb⟩]++A2 sl))∧(decide ((a:Int)<1)=false→(decide ((a:Int)>12)=true→R (.int .i64 (2)) ([some ⟨1,tb⟩]++A2 sl))∧(decide ((a:Int)>12)=false→decide ((0:Int)≤n)=true∧decide ((n:Int)<13)=true∧leB ((Int.toNat (n))*6+3) (List.length tb)=true∧R (.int .i64 (0)) ([some ⟨1,(setPart tb ((Int.toNat (n))*6+2) (.int .i64 (a)))⟩]++A2 sl)))))∧(((A0 tb ((Int.toNat (n))*6):Int)==n)=false→R (.int .i64 (6)) ([some ⟨1,tb⟩]++A2 sl)))∧(decide ((n:Int)≤12)=false→R (.int .i64 (6)) ([some ⟨1,tb⟩]++A2 sl)))∧(decide ((n:Int)≥1)=false→R (.int .i64 (6)) ([some ⟨1,tb⟩]++A2 sl))):=by kernel_rfl
theorem u45 (G:Nat→List AV) (tb sl:List AV) (n a:Int) (Q:Ex→List AV→Hp→Prop) (R:AV→Hp→Prop):vT G Q R (D0 (Df Try.prog [(75,1,13)] [67,60] [] [] 0) 300 20 Try.f45 [.ptr (.rw 0) (.lit 0),.int .i64 (.var 3 n),.int .i64 (.var 4 a)] (hp3 [some ⟨1,.var 1 tb⟩] (.var 2 sl) []) 14)=(
  (decide ((n:Int)≥1)=true→(decide ((n:Int)≤12)=true→decide ((0:Int)≤n)=true∧decide ((n:Int)<13)=true∧isI .i64 tb ((Int.toNat (n))*6)=true∧(((A0 tb ((Int.toNat (n))*6):Int)==n)=true→decide ((0:Int)≤n)=true∧decide ((n:Int)<13)=true∧isB tb ((Int.toNat (n))*6+4)=true∧(A5 tb ((Int.toNat (n))*6+4)=true→R (.int .i64 (6)) ([some ⟨1,tb⟩]++A2 sl))∧(A5 tb ((Int.toNat (n))*6+4)=false→(decide ((a:Int)<0)=true→R (.int .i64 (2)) ([some ⟨1,tb⟩]++A2 sl))∧(decide ((a:Int)<0)=false→(decide ((a:Int)>65535)=true→R (.int .i64 (2)) ([some ⟨1,tb⟩]++A2 sl))∧(decide ((a:Int)>65535)=false→decide ((0:Int)≤n)=true∧decide ((n:Int)<13)=true∧isI .i64 tb ((Int.toNat (n))*6+3)=true∧(((A0 tb ((Int.toNat (n))*6+3):Int)==0)=true→decide ((0:Int)≤n)=true∧decide ((n:Int)<13)=true∧leB ((Int.toNat (n))*6+4) (List.length tb)=true∧R (.int .i64 (0)) ([some ⟨1,(setPart tb ((Int.toNat (n))*6+3) (.int .i64 (a)))⟩]++A2 sl))∧(((A0 tb ((Int.toNat (n))*6+3):Int)==0)=false→R (.int .i64 (8)) ([some ⟨1,tb⟩]++A2 sl))))))∧(((A0 tb ((Int.toNat (n))*6):Int)==n)=false→R (.int .i64 (6)) ([some ⟨1,tb⟩]++A2 sl)))∧(decide ((n:Int)≤12)=false→R (.int .i64 (6)) ([some ⟨1,tb⟩]++A2 sl)))∧(decide ((n:Int)≥1)=false→R (.int .i64 (6)) ([some ⟨1,tb⟩]++A2 sl))):=by kernel_rfl
theorem u48 (G:Nat→List AV) (rd:List AV→Bool) (pu:List AV→List AV) (tb sl:List AV) (n a:Int) (Q:Ex→List AV→Hp→Prop) (R:AV→Hp→Prop):vT G Q R (D0 (Df Try.prog [(75,1,13)] [67,60] [(72,oM (Jh (rd) (pu)))] [] 0) 300 20 Try.f48 [.ptr (.rw 0) (.lit 0),.int .i64 (.var 3 n),.int .i64 (.var 4 a)] (hp3 [some ⟨1,.var 1 tb⟩] (.var 2 sl) []) 14)=(
  (decide ((n:Int)≥1)=true→(decide ((n:Int)≤12)=true→decide ((0:Int)≤n)=true∧decide ((n:Int)<13)=true∧isI .i64 tb ((Int.toNat (n))*6)=true∧(((A0 tb ((Int.toNat (n))*6):Int)==n)=true→decide ((0:Int)≤n)=true∧decide ((n:Int)<13)=true∧isB tb ((Int.toNat (n))*6+4)=true∧(A5 tb ((Int.toNat (n))*6+4)=true→R (.tup [.int .i64 (0),.int .i64 (6)]) ([some ⟨1,tb⟩]++A2 sl))∧(A5 tb ((Int.toNat (n))*6+4)=false→decide ((0:Int)≤n)=true∧decide ((n:Int)<13)=true∧(B4 tb (Int.toNat (n)+78)=true→False)∧(B4 tb (Int.toNat (n)+78)=false→J4 1 13 tb (Int.toNat (n)+78)=true∧Nat.beq (K4 tb (Int.toNat (n)+78)) (0)=true∧leB (A4 1 tb (Int.toNat (n)+78)+1) (13)=true∧rowsA sl (rp 13 sl)=true∧leB (A4 1 tb (Int.toNat (n)+78)+1) (List.length sl)=true∧(rd) [.agg (A1 sl (A4 1 tb (Int.toNat (n)+78)))]=true∧R (.tup [.int .i64 (Eo [.agg ((pu) [.agg (A1 sl (A4 1 tb (Int.toNat (n)+78)))])]),.int .i64 (0)]) ([some ⟨1,tb⟩]++A2 (D5 sl (A4 1 tb (Int.toNat (n)+78)) (B1 [.agg (Gs [.agg ((pu) [.agg (A1 sl (A4 1 tb (Int.toNat (n)+78)))]),.int .i64 (a)])]))))))∧(((A0 tb ((Int.toNat (n))*6):Int)==n)=false→R (.tup [.int .i64 (0),.int .i64 (6)]) ([some ⟨1,tb⟩]++A2 sl)))∧(decide ((n:Int)≤12)=false→R (.tup [.int .i64 (0),.int .i64 (6)]) ([some ⟨1,tb⟩]++A2 sl)))∧(decide ((n:Int)≥1)=false→R (.tup [.int .i64 (0),.int .i64 (6)]) ([some ⟨1,tb⟩]++A2 sl))):=by kernel_rfl
theorem u50 (G:Nat→List AV) (rd:List AV→Bool) (pu:List AV→List AV) (tb sl:List AV) (n a q:Int) (Q:Ex→List AV→Hp→Prop) (R:AV→Hp→Prop):vT G Q R (D0 (Df Try.prog [(75,1,13)] [67,60] [(74,bN (Jh (rd) (pu)))] [] 0) 300 20 Try.f50 [.ptr (.rw 0) (.lit 0),.int .i64 (.var 3 n),.int .i64 (.var 4 a),.int .i64 (.var 5 q)] (hp3 [some ⟨1,.var 1 tb⟩] (.var 2 sl) []) 14)=(
  (decide ((n:Int)≥1)=true→(decide ((n:Int)≤12)=true→decide ((0:Int)≤n)=true∧decide ((n:Int)<13)=true∧isI .i64 tb ((Int.toNat (n))*6)=true∧(((A0 tb ((Int.toNat (n))*6):Int)==n)=true→decide ((0:Int)≤n)=true∧decide ((n:Int)<13)=true∧isB tb ((Int.toNat (n))*6+4)=true∧(A5 tb ((Int.toNat (n))*6+4)=true→R (.tup [.int .i64 (0),.int .i64 (6)]) ([some ⟨1,tb⟩]++A2 sl))∧(A5 tb ((Int.toNat (n))*6+4)=false→(decide ((a:Int)<0)=true→R (.tup [.int .i64 (0),.int .i64 (2)]) ([some ⟨1,tb⟩]++A2 sl))∧(decide ((a:Int)<0)=false→(decide ((a:Int)>99)=true→R (.tup [.int .i64 (0),.int .i64 (2)]) ([some ⟨1,tb⟩]++A2 sl))∧(decide ((a:Int)>99)=false→decide ((0:Int)≤n)=true∧decide ((n:Int)<13)=true∧(B4 tb (Int.toNat (n)+78)=true→False)∧(B4 tb (Int.toNat (n)+78)=false→J4 1 13 tb (Int.toNat (n)+78)=true∧Nat.beq (K4 tb (Int.toNat (n)+78)) (0)=true∧leB (A4 1 tb (Int.toNat (n)+78)+1) (13)=true∧rowsA sl (rp 13 sl)=true∧leB (A4 1 tb (Int.toNat (n)+78)+1) (List.length sl)=true∧(rd) [.agg (A1 sl (A4 1 tb (Int.toNat (n)+78)))]=true∧R (.tup [.int .i64 (Fy [.agg ((pu) [.agg (A1 sl (A4 1 tb (Int.toNat (n)+78)))]),.int .i64 (a),.int .i64 (q)]),.int .i64 (Fz [.int .i64 (a),.int .i64 (q)])]) ([some ⟨1,tb⟩]++A2 (D5 sl (A4 1 tb (Int.toNat (n)+78)) (B1 [.agg (Fx [.agg ((pu) [.agg (A1 sl (A4 1 tb (Int.toNat (n)+78)))]),.int .i64 (a),.int .i64 (q)])]))))))))∧(((A0 tb ((Int.toNat (n))*6):Int)==n)=false→R (.tup [.int .i64 (0),.int .i64 (6)]) ([some ⟨1,tb⟩]++A2 sl)))∧(decide ((n:Int)≤12)=false→R (.tup [.int .i64 (0),.int .i64 (6)]) ([some ⟨1,tb⟩]++A2 sl)))∧(decide ((n:Int)≥1)=false→R (.tup [.int .i64 (0),.int .i64 (6)]) ([some ⟨1,tb⟩]++A2 sl))):=by kernel_rfl
theorem u59 (G:Nat→List AV) (tb sl:List AV) (n:Int) (Q:Ex→List AV→Hp→Prop) (R:AV→Hp→Prop):vT G Q R (D0 (Df Try.prog [(75,1,13)] [67,60] [] [] 0) 300 20 Try.f59 [.ptr (.rw 0) (.lit 0),.int .i64 (.var 3 n)] (hp3 [some ⟨1,.var 1 tb⟩] (.var 2 sl) []) 14)=(
  (decide ((n:Int)<1)=true→R (.tup [.agg ([.int .i64 (0),.int .i64 (0),.int .i64 (0),.int .i64 (0),.bool (false),.int .i64 (0)]:List AV),.bool (false)]) ([some ⟨1,tb⟩]++A2 sl))∧(decide ((n:Int)<1)=false→(decide ((n:Int)>12)=true→R (.tup [.agg ([.int .i64 (0),.int .i64 (0),.int .i64 (0),.int .i64 (0),.bool (false),.int .i64 (0)]:List AV),.bool (false)]) ([some ⟨1,tb⟩]++A2 sl))∧(decide ((n:Int)>12)=false→decide ((0:Int)≤n)=true∧decide ((n:Int)<13)=true∧isI .i64 tb ((Int.toNat (n))*6)=true∧(((A0 tb ((Int.toNat (n))*6):Int)==0)=true→R (.tup [.agg ([.int .i64 (0),.int .i64 (0),.int .i64 (0),.int .i64 (0),.bool (false),.int .i64 (0)]:List AV),.bool (false)]) ([some ⟨1,tb⟩]++A2 sl))∧(((A0 tb ((Int.toNat (n))*6):Int)==0)=false→decide ((0:Int)≤n)=true∧decide ((n:Int)<13)=true∧leB ((Int.toNat (n))*6+6) (List.length tb)=true∧cellsB (subL tb ((Int.toNat (n))*6) (6))=true∧Nat.beq (List.length (subL tb ((Int.toNat (n))*6) (6))) (6)=true∧leB (6) (List.length (subL tb ((Int.toNat (n))*6) (6)))=true∧R (.tup [.agg (subL (subL tb ((Int.toNat (n))*6) (6)) (0) (6)),.bool (true)]) ([some ⟨1,tb⟩]++A2 sl))))):=by kernel_rfl
theorem u60 (G:Nat→List AV) (tb sl:List AV) (n:Int) (Q:Ex→List AV→Hp→Prop) (R:AV→Hp→Prop):vT G Q R (D0 (Df Try.prog [(75,1,13)] [67,60] [] [] 0) 300 20 Try.f60 [.ptr (.rw 0) (.lit 0),.int .i64 (.var 3 n)] (hp3 [some ⟨1,.var 1 tb⟩] (.var 2 sl) []) 14)=(
  (decide ((n:Int)≥1)=true→(decide ((n:Int)≤12)=true→decide ((0:Int)≤n)=true∧decide ((n:Int)<13)=true∧isI .i64 tb ((Int.toNat (n))*6)=true∧(((A0 tb ((Int.toNat (n))*6):Int)==n)=true→decide ((0:Int)≤n)=true∧decide ((n:Int)<13)=true∧isB tb ((Int.toNat (n))*6+4)=true∧R (.bool ((!(A5 tb ((Int.toNat (n))*6+4))))) ([some ⟨1,tb⟩]++A2 sl))∧(((A0 tb ((Int.toNat (n))*6):Int)==n)=false→R (.bool (false)) ([some ⟨1,tb⟩]++A2 sl)))∧(decide ((n:Int)≤12)=false→R (.bool (false)) ([some ⟨1,tb⟩]++A2 sl)))∧(decide ((n:Int)≥1)=false→R (.bool (false)) ([some ⟨1,tb⟩]++A2 sl))):=by kernel_rfl
theorem hU (G:Nat→List AV) (s:Ptb):vHp G (hp3 [some ⟨1,.var 1 (B2 1 s)⟩] (.var 2 (setsL encR s)) [])=B0 tsR s:=V3 (t:=tsR) (s:=s)
theorem nS (b:Nat) {s:Ptb} {n:Int} {A B:Prop} (h1:isP s n=true→A) (h2:isP s n=false→B) :
  (decide (n≥1)=true→(decide (n≤12)=true→decide ((0:Int)≤n)=true∧decide ((n:Int)<13)=true∧isI .i64 (B2 b s) (n.toNat*6)=true∧((A0 (B2 b s) (n.toNat*6)==n)=true→A)∧((A0 (B2 b s) (n.toNat*6)==n)=false→B))∧(decide (n≤12)=false→B))∧(decide (n≥1)=false→B):=by
 have ff:¬(1≤n∧n≤12∧(s.at_ n.toNat).num=n)→isP s n=false:=fun h=>by
  cases e:isP s n with
  | false=>rfl
  | true=>exact absurd (I0.1 e) h
 refine ⟨fun a1=>⟨fun a2=>?_,fun a2=>h2 (ff fun h=>?_)⟩,fun a1=>h2 (ff fun h=>?_)⟩
 ·have a1:=of_decide_eq_true a1;have a2:=of_decide_eq_true a2;have t:=Vm (b:=b) (s:=s) (n:=n.toNat) (by omega);refine ⟨decide_eq_true (by omega),decide_eq_true (by omega),t.1,fun h=>h1 (I0.2 ⟨by omega,a2,?_⟩),fun h=>h2 (ff fun h'=>?_)⟩
  ·rw [t.2] at h;exact eq_of_beq h
  ·rw [t.2,h'.2.2,beq_self_eq_true] at h;cases h
 ·have:=of_decide_eq_false a2;omega
 ·have:=of_decide_eq_false a1;omega
theorem Z2 (b:Nat) {s:Ptb} {n:Int} {A B:Prop} (h1:live s n=true→A) (h2:live s n=false→B) :
  (decide (n≥1)=true→(decide (n≤12)=true→decide ((0:Int)≤n)=true∧decide ((n:Int)<13)=true∧isI .i64 (B2 b s) (n.toNat*6)=true∧
   ((A0 (B2 b s) (n.toNat*6)==n)=true→decide ((0:Int)≤n)=true∧decide ((n:Int)<13)=true∧isB (B2 b s) (n.toNat*6+4)=true∧(A5 (B2 b s) (n.toNat*6+4)=true→B)∧(A5 (B2 b s) (n.toNat*6+4)=false→A))∧
   ((A0 (B2 b s) (n.toNat*6)==n)=false→B))∧(decide (n≤12)=false→B))∧(decide (n≥1)=false→B):=by
 refine nS b (fun h=>?_) fun h=>h2 (by unfold live;rw [h];rfl);obtain ⟨a1,a2,a3⟩:=I0.1 h;have t:=pC (b:=b) (s:=s) (n:=n.toNat) (by omega);refine ⟨decide_eq_true (by omega),decide_eq_true (by omega),t.1,fun h'=>h2 ?_,fun h'=>h1 ?_⟩
 ·rw [t.2] at h';unfold live;rw [h,h'];rfl
 ·rw [t.2] at h';unfold live;rw [h,h'];rfl
theorem dgU {G:Nat→List AV} {B:Nat} {fn:Func} {sums:List (Nat×DSum)} (h:loopsOf (bodyOf fn)=[]) (hs:T4 (⟨Try.prog,G,B⟩:A3) sums):I9 (⟨Try.prog,G,B⟩:A3) (Df Try.prog [(75,1,13)] [67,60] sums [] 0) (loopsOf (bodyOf fn)):=by
 rw [h];exact dgoodf (mix G B) (by kernel_rfl) hs .nil
theorem Sa (G : Nat → List AV) (B : Nat) {f : FuncId} {fn : Func} {sums : List (Nat × DSum)} {s s' : Ptb} {rest : List EV} {v : AV} (hl : loopsOf (bodyOf fn) = []) (hs : T4 (⟨Try.prog, G, B⟩ : A3) sums) (hf : Try.prog.funcs[f]? = some fn) (hb : fn.body = some (bodyOf fn)) (hn : (fn.name == "runtime.NumGoroutine") = false) (hv : bnd 0 v = true)
  (h:vT G (fun _ _ _=>False) (fun v' H'=>v'=v∧H7 tsR s' 13 H') (D0 (Df Try.prog [(75,1,13)] [67,60] sums [] 0) 300 20 fn (.ptr (.rw 0) (.lit 0)::rest) (hp3 [some ⟨1,.var 1 (B2 1 s)⟩] (.var 2 (setsL encR s)) []) 14)) :
  ACalls (⟨Try.prog,G,B⟩:A3) f (.ptr (.rw 0) 0::vVs G rest) (B0 tsR s) fun v' H'=>v'=v∧H'=B0 tsR s':=by
 have:=D3 (C:=(⟨Try.prog,G,B⟩:A3)) (f:=f) (R:=fun v' H'=>v'=v∧H7 tsR s' 13 H') (dgU (B:=B) hl hs) hf hb hn h
 rw [hU] at this;exact Og tsR_ok this hv
theorem D4 {s:Ptb}:H7 tsR s 13 (some ⟨1,B2 1 s⟩::(List.range 13).map fun n=>some ⟨1,A1 (setsL encR s) n⟩):=seen_rows (t:=tsR) rfl tsR_ok (Fd (t:=tsR) (s:=s) fun _ _ h=>h)
theorem cK {s:Ptb} {c:Nat} {x:Pc} {l:List AV} (h:l=B2 1 (V7 s c x)):H7 tsR (V7 s c x) 13 (some ⟨1,l⟩::(List.range 13).map fun n=>some ⟨1,A1 (setsL encR s) n⟩):=seen_rows (t:=tsR) h tsR_ok (Fd (t:=tsR) (s:=s) fun _ _ h=>h)
theorem aP0 (G:Nat→List AV) (B:Nat) {s:Ptb} (n a:Int):ACalls (⟨Try.prog,G,B⟩:A3) 44 [.ptr (.rw 0) 0,.int .i64 n,.int .i64 a] (B0 tsR s) fun v H'=>v=.int .i64 (Bt s n a)∧H'=B0 tsR (V5 s n a):=by
 refine Sa G B (fn:=Try.f44) (rest:=[.int .i64 (.var 3 n),.int .i64 (.var 4 a)]) (by kernel_rfl) .nil (by kernel_rfl) (by kernel_rfl) (by kernel_rfl) rfl ?_;rw [u44];refine Z2 1 (fun hl=>?_) fun hl=>?_
 ·have h:=H6.1 hl;refine ⟨fun h1=>?_,fun h1=>⟨fun h2=>?_,fun h2=>⟨decide_eq_true (by omega),decide_eq_true (by omega),A6.2 (by rw [Gc];omega),?_⟩⟩⟩
  ·have h1:=of_decide_eq_true h1;unfold Bt V5;rw [if_pos hl,if_pos hl,if_pos (by omega),if_pos (by omega)];exact ⟨rfl,D4⟩
  ·have h2:=of_decide_eq_true h2;unfold Bt V5;rw [if_pos hl,if_pos hl,if_pos (by omega),if_pos (by omega)];exact ⟨rfl,D4⟩
  ·have h1:=of_decide_eq_false h1;have h2:=of_decide_eq_false h2;unfold Bt V5;rw [if_pos hl,if_pos hl,if_neg (by omega),if_neg (by omega)]
   exact ⟨rfl,cK (U_set (k:=2) (by omega) (by omega) (by intro l h;cases h) (fun j hj=>by
    match j,hj with
    | 0,_ | 1,_ | 2,_ | 3,_ | 4,_ | 5,_=>rfl))⟩
 ·unfold Bt V5;rw [hl];exact ⟨rfl,D4⟩
theorem aO9 (G:Nat→List AV) (B:Nat) {s:Ptb} (n:Int):ACalls (⟨Try.prog,G,B⟩:A3) 60 [.ptr (.rw 0) 0,.int .i64 n] (B0 tsR s) fun v H'=>v=.bool (live s n)∧H'=B0 tsR s:=by
 refine Sa G B (fn:=Try.f60) (rest:=[.int .i64 (.var 3 n)]) (by kernel_rfl) .nil (by kernel_rfl) (by kernel_rfl) (by kernel_rfl) rfl ?_;rw [u60];refine nS 1 (fun hl=>?_) fun hl=>?_
 ·have h:=I0.1 hl;have t:=pC (b:=1) (s:=s) (n:=n.toNat) (by omega);refine ⟨decide_eq_true (by omega),decide_eq_true (by omega),t.1,?_⟩;rw [t.2];unfold live;rw [hl];exact ⟨rfl,D4⟩
 ·unfold live;rw [hl];exact ⟨rfl,D4⟩
theorem r_tell (G:Nat→List AV) (B:Nat) {s:Ptb} (hw:Wf s) (n:Int):ACalls (⟨Try.prog,G,B⟩:A3) 59 [.ptr (.rw 0) 0,.int .i64 n] (B0 tsR s) fun v H'=>v=.tup [.agg (M3 (Ee s n)),.bool (isP s n)]∧H'=B0 tsR s:=by
 refine Sa G B (fn:=Try.f59) (rest:=[.int .i64 (.var 3 n)]) (by kernel_rfl) .nil (by kernel_rfl) (by kernel_rfl) (by kernel_rfl) rfl ?_;rw [u59]
 have no:isP s n=false→(AV.tup [.agg [.int .i64 0,.int .i64 0,.int .i64 0,.int .i64 0,.bool false,.int .i64 0],.bool false]=.tup [.agg (M3 (Ee s n)),.bool (isP s n)]):=fun h=>by
  unfold Ee;rw [h];rfl
 have out:¬(1≤n∧n≤12∧(s.at_ n.toNat).num=n)→isP s n=false:=fun h=>by
  cases e:isP s n with
  | false=>rfl
  | true=>exact absurd (I0.1 e) h
 refine ⟨fun h1=>⟨no (out fun h=>by have:=of_decide_eq_true h1;omega),D4⟩,fun h1=>⟨fun h2=>⟨no (out fun h=>by have:=of_decide_eq_true h2;omega),D4⟩,fun h2=>?_⟩⟩;have h1:=of_decide_eq_false h1;have h2:=of_decide_eq_false h2;have t:=Vm (b:=1) (s:=s) (n:=n.toNat) (by omega);rw [t.2];have r:=U_row (b:=1) (s:=s) (n:=n.toNat) (by omega);rw [r];refine ⟨decide_eq_true (by omega),decide_eq_true (by omega),t.1,fun h3=>⟨no (out fun h=>?_),D4⟩,fun h3=>⟨decide_eq_true (by omega),decide_eq_true (by omega),A6.2 (by rw [Gc];omega),rfl,rfl,rfl,?_,D4⟩⟩
 ·have:=eq_of_beq h3;omega
 ·have hne:(s.at_ n.toNat).num≠0:=fun e=>by rw [e] at h3;cases h3
  have hi:isP s n=true:=I0.2 ⟨by omega,by omega,by have:=(hw.there hne).1;omega⟩;unfold Ee;rw [if_pos hi,hi];rfl
theorem r_user (G:Nat→List AV) (B:Nat) {s:Ptb} (n a:Int):ACalls (⟨Try.prog,G,B⟩:A3) 45 [.ptr (.rw 0) 0,.int .i64 n,.int .i64 a] (B0 tsR s) fun v H'=>v=.int .i64 (Cz s n a)∧H'=B0 tsR (Y7 s n a):=by
 refine Sa G B (fn:=Try.f45) (rest:=[.int .i64 (.var 3 n),.int .i64 (.var 4 a)]) (by kernel_rfl) .nil (by kernel_rfl) (by kernel_rfl) (by kernel_rfl) rfl ?_;rw [u45];refine Z2 1 (fun hl=>?_) fun hl=>?_
 ·have h:=H6.1 hl;have t:=Zy (b:=1) (s:=s) (n:=n.toNat) (by omega);rw [t.2];refine ⟨fun h1=>?_,fun h1=>⟨fun h2=>?_,fun h2=>⟨decide_eq_true (by omega),decide_eq_true (by omega),t.1,fun h3=>⟨decide_eq_true (by omega),decide_eq_true (by omega),A6.2 (by rw [Gc];omega),?_⟩,fun h3=>?_⟩⟩⟩
  ·have h1:=of_decide_eq_true h1;unfold Cz Y7;rw [if_pos hl,if_pos hl,if_pos (by omega),if_pos (by omega)];exact ⟨rfl,D4⟩
  ·have h2:=of_decide_eq_true h2;unfold Cz Y7;rw [if_pos hl,if_pos hl,if_pos (by omega),if_pos (by omega)];exact ⟨rfl,D4⟩
  ·have h1:=of_decide_eq_false h1;have h2:=of_decide_eq_false h2;have h3:=eq_of_beq h3;unfold Cz Y7;have hr:¬(a<0∨65535<a):=by omega
   rw [if_pos hl,if_pos hl,if_neg hr,if_neg hr,if_pos h3,if_pos h3]
   exact ⟨rfl,cK (U_set (k:=3) (by omega) (by omega) (by intro l h;cases h) (fun j hj=>by
    match j,hj with
    | 0,_ | 1,_ | 2,_ | 3,_ | 4,_ | 5,_=>rfl))⟩
  ·have h1:=of_decide_eq_false h1;have h2:=of_decide_eq_false h2;have h3:¬(s.at_ n.toNat).usr=0:=fun e=>by rw [e] at h3;cases h3
   unfold Cz Y7;have hr:¬(a<0∨65535<a):=by omega
   rw [if_pos hl,if_pos hl,if_neg hr,if_neg hr,if_neg h3,if_neg h3];exact ⟨rfl,D4⟩
 ·unfold Cz Y7;rw [hl];exact ⟨rfl,D4⟩
end Go.Am
namespace Go.Am
open Go.Proofs Crc
set_option maxRecDepth 100000
theorem Gt {s:Ptb} {n:Nat} {p:Sg} (hn:n<13) (hp:s.sg n=some p):B4 (B2 1 s) (n+78)=false∧J4 1 13 (B2 1 s) (n+78)=true∧A4 1 (B2 1 s) (n+78)=n∧K4 (B2 1 s) (n+78)=0∧A1 (setsL encR s) n=encR p:=by
 have h:=U_ptr (b:=1) (s:=s) hn;have e:=Yn hn h (by rw [hp];rfl);exact ⟨by rw [Gk h,hp];rfl,e.1,e.2.1,e.2.2,by rw [K9 hn,hp];rfl⟩
theorem Nn {s:Ptb} {c:Nat} {q p:Sg} {l:List AV} (hp:s.sg c=some p) (hl:l=encR q):H7 tsR (R7 s c (some q)) 13 (some ⟨1,B2 1 s⟩::(List.range 13).map fun n=>some ⟨1,A1 (D5 (setsL encR s) c l) n⟩):=by
 subst hl;refine seen_rows (t:=tsR) ?_ tsR_ok (lY (t:=tsR));show C3 (B3 1 s) s=C3 (B3 1 (R7 s c (some q))) s;rw [Z9 hp]
theorem vM {s:Ptb} {c:Nat} {p:Sg} (hp:s.sg c=some p):R7 s c (some p)=s:=by
 unfold R7
 have:(fun j=>if j=c then some p else s.sg j)=s.sg:=by
  funext j;by_cases e:j=c
  ·subst e;rw [if_pos rfl,hp]
  ·rw [if_neg e]
 rw [this]
theorem aO7 (G:Nat→List AV) (B:Nat) {s:Ptb} (hw:Wf s) (n a:Int):ACalls (⟨Try.prog,G,B⟩:A3) 48 [.ptr (.rw 0) 0,.int .i64 n,.int .i64 a] (B0 tsR s) fun v H'=>v=.tup [.int .i64 (Lu s n),.int .i64 (Rt s n)]∧H'=B0 tsR (Em s n a):=by
 refine Sa G B (fn:=Try.f48) (rest:=[.int .i64 (.var 3 n),.int .i64 (.var 4 a)]) (by kernel_rfl) (.cons (jG (Fc G) (aO8 G B)) .nil) (by kernel_rfl) (by kernel_rfl) (by kernel_rfl) rfl ?_;unfold W2;rw [u48];refine Z2 1 (fun hl=>?_) fun hl=>?_
 ·have h:=H6.1 hl;have hi:isP s n=true:=I0.2 ⟨h.1,h.2.1,h.2.2.1⟩;obtain ⟨p,hp⟩:=hw.live_sg hi;obtain ⟨e1,e2,e3,e4,e5⟩:=Gt (by omega) hp;have ed:C1 s n.toNat=p:=by unfold C1;rw [hp];rfl
  refine ⟨decide_eq_true (by omega),decide_eq_true (by omega),(fun h=>by rw [e1] at h;cases h),fun _=>?_⟩;rw [e3,e4,e5,Ai];refine ⟨e2,rfl,A6.2 (by omega),D6 _ 13,A6.2 (by rw [F8];omega),Cc p,?_⟩;unfold Lu Rt Em;rw [if_pos hl,if_pos hl,if_pos hl,ed,Cy];exact ⟨rfl,Nn hp (by rw [It,E3])⟩
 ·unfold Lu Rt Em;rw [hl];exact ⟨rfl,D4⟩
theorem wO (G:Nat→List AV) (B:Nat) {s:Ptb} (hw:Wf s) (n a q:Int):ACalls (⟨Try.prog,G,B⟩:A3) 50 [.ptr (.rw 0) 0,.int .i64 n,.int .i64 a,.int .i64 q] (B0 tsR s) fun v H'=>v=.tup [.int .i64 (Ep s n a q),.int .i64 (Er s n a q)]∧H'=B0 tsR (Az s n a q):=by
 refine Sa G B (fn:=Try.f50) (rest:=[.int .i64 (.var 3 n),.int .i64 (.var 4 a),.int .i64 (.var 5 q)]) (by kernel_rfl) (.cons (aL (Fc G) (wP G B)) .nil) (by kernel_rfl) (by kernel_rfl) (by kernel_rfl) rfl ?_;unfold W2;rw [u50];refine Z2 1 (fun hl=>?_) fun hl=>?_
 ·have h:=H6.1 hl;have hi:isP s n=true:=I0.2 ⟨h.1,h.2.1,h.2.2.1⟩;obtain ⟨p,hp⟩:=hw.live_sg hi;obtain ⟨e1,e2,e3,e4,e5⟩:=Gt (by omega) hp;have ed:C1 s n.toNat=p:=by unfold C1;rw [hp];rfl
  refine ⟨fun h1=>?_,fun h1=>⟨fun h2=>?_,fun h2=>⟨decide_eq_true (by omega),decide_eq_true (by omega),(fun h=>by rw [e1] at h;cases h),fun _=>?_⟩⟩⟩
  ·have h1:=of_decide_eq_true h1;unfold Ep Er Az;rw [if_pos hl,if_pos hl,if_pos hl,if_pos (by omega),if_pos (by omega),if_pos (by omega)];exact ⟨rfl,D4⟩
  ·have h2:=of_decide_eq_true h2;unfold Ep Er Az;rw [if_pos hl,if_pos hl,if_pos hl,if_pos (by omega),if_pos (by omega),if_pos (by omega)];exact ⟨rfl,D4⟩
  ·have h1:=of_decide_eq_false h1;have h2:=of_decide_eq_false h2;rw [e3,e4,e5,Ai];refine ⟨e2,rfl,A6.2 (by omega),D6 _ 13,A6.2 (by rw [F8];omega),Cc p,?_⟩;unfold Ep Er Az;rw [if_pos hl,if_pos hl,if_pos hl];by_cases hr:15<a
   ·have hE:Ix a q=true:=by
     have:Y4 a 2 15=true:=by unfold Y4;simp;omega
     unfold Ix;rw [this];rfl
    rw [if_pos (.inr hr),if_pos (.inr hr),if_pos (.inr hr)];refine ⟨by simp only [Fy,Fz,E8,Sv,hE];rfl,?_⟩;have hs:=Nn (s:=s) (c:=n.toNat) (q:=p) (p:=p) (l:=B1 [.agg (Fx [.agg (encP p),.int .i64 a,.int .i64 q])]) hp (by simp only [Fx,E8,Oq,hE,if_true,E3]);rw [vM hp] at hs;exact hs
   ·have hr:¬(a<0∨15<a):=by omega
    rw [if_neg hr,if_neg hr,if_neg hr,ed];refine ⟨?_,Nn hp (by simp only [Fx,E8,E3])⟩;simp only [Fy,Fz,E8]
 ·unfold Ep Er Az;rw [hl];exact ⟨rfl,D4⟩
end Go.Am
