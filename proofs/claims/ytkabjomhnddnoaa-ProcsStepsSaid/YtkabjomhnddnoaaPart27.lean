/-
  Processes: the document's All. Processes: the children of one, and the document's All, inside a law.
-/
import Derived.Test.YtkabjomhnddnoaaPart26
import Derived.Test.YtkabjomhnddnoaaPart24
import Derived.Test.YtkabjomhnddnoaaPart25
import Derived.Test.YtkabjomhnddnoaaPart20
import Derived.Test.YtkabjomhnddnoaaBase10
import Derived.Test.YtkabjomhnddnoaaPart19
import Derived.Test.YtkabjomhnddnoaaPart23
import Derived.Test.YtkabjomhnddnoaaPart21
namespace Go.Am
open Go.Proofs Crc
set_option maxRecDepth 100000
theorem hUL6 (G:Nat→List AV) (s:Ptb) (ys:List AV):vHp G (hp3 [some ⟨1,.var 1 (B2 1 s)⟩] (.var 2 (setsL encR s)) [some ⟨6,.var 22 ys⟩])=B0 tsR s++[some ⟨6,ys⟩]:=by
 rw [←V3 (t:=tsR) (s:=s)];rfl
def allN (s:Ptb) (i:Nat):List Nat:=(List.range i).filter fun c=>decide (0<(s.at_ c).num)
theorem Gf (s:Ptb) (i:Nat):allN s (i+1)=allN s i++if 0<(s.at_ i).num then [i] else []:=by
 unfold allN;rw [List.range_succ,List.filter_append];congr 1;by_cases h:0<(s.at_ i).num
 ·rw [if_pos h];simp [h]
 ·rw [if_neg h];simp [h]
theorem bV (s:Ptb) (i:Nat):(allN s i).length≤i:=Nat.le_trans (List.length_filter_le _ _) (by simp)
def rowsU (s:Ptb) (l:List Nat):List AV:=(l.map fun c=>M3 (s.at_ c)).flatten
theorem wI (s:Ptb) (l:List Nat) (c:Nat):rowsU s (l++[c])=rowsU s l++M3 (s.at_ c):=by simp [rowsU]
theorem Qj (s:Ptb):∀ l:List Nat,(rowsU s l).length=l.length*6
 | []=>rfl
 | c::l=>by
  have:=Qj s l
  unfold rowsU at this ⊢;rw [List.map_cons,List.flatten_cons,List.length_append,this,List.length_cons];show 6+_=_;omega
theorem Dg (n:Nat) (s:Ptb):∀ l:List Nat,A8 n (rowsU s l)=true
 | []=>rfl
 | c::l=>by
  have:=Dg n s l
  unfold rowsU at this ⊢;rw [List.map_cons,List.flatten_cons,I1,List.all_append,←I1,←I1,this];rfl
def Jt (s:Ptb) (i:Nat):Hp:=B0 tsR s++[some ⟨6,rowsU s (allN s i)⟩]
theorem aE5 {s:Ptb} {i:Nat}:(Jt s i).length=15:=by simp [Jt,A9]
theorem au_app {s:Ptb} {i:Nat} {m:Int} {ks:List Nat} (b:Option Blk) (hk:allN s i=ks):C8 14 [.ptr (.rw 0) 0,.nils,.slice true (.rw 14) 0 ks.length,.int .i64 m] (Jt s i) [.ptr (.rw 0) 0,.nils,.slice true (.rw 16) 0 ks.length,.int .i64 m] (B0 tsR s++[none,b,some ⟨6,rowsU s ks⟩]):=by
 subst hk;refine C8.fn (N:=15) (fun j=>if j=14 then 16 else j) aE5 (by omega) (fun j hj=>if_neg (by omega)) (fun i j hi hj h=>?_) (fun j hj=>?_) rfl ?_
 ·by_cases a:i=14
  ·by_cases b:j=14
   ·omega
   ·rw [if_pos a,if_neg b] at h;omega
  ·by_cases b:j=14
   ·rw [if_neg a,if_pos b] at h;omega
   ·rw [if_neg a,if_neg b] at h;exact h
 ·have th:∀ j,j<15→((List.range 15).map fun j=>if j=14 then 16 else j).getD j 0=if j=14 then 16 else j:=fun j hj=>Cp hj
  by_cases h14:j=14
  ·subst h14;rw [if_pos rfl];unfold Jt;rw [List.getElem?_append_right (by rw [A9];omega),A9,List.getElem?_append_right (by rw [A9];omega),A9];refine ⟨_,_,rfl,rfl,rfl,Dg _ _ _,.inr ?_⟩;exact (E0 _ _ (Dg 0 _ _)).symm
  ·rw [if_neg h14];unfold Jt;rw [List.getElem?_append_left (by rw [A9];omega),List.getElem?_append_left (by rw [A9];omega)];cases j with
   | zero=>
    refine ⟨_,_,rfl,rfl,rfl,tsR_ok.bnd 15 (B3 1 s) s fun n hn=>Bx (by omega),.inr ?_⟩;exact (X4 tsR_ok (b:=1) (b':=1) fun n hn=>by rw [th _ (by omega),if_neg (by omega)]).symm
   | succ k=>
    have hg:(B0 tsR s)[k+1]?=some (some ⟨1,I4 encR (s.sg k)⟩):=Do (t:=tsR) (p:=B3 1 s) (s:=s) (s':=s) (by omega);exact ⟨_,_,hg,hg,rfl,Au tsR_ok _ _,.inr (Y8 tsR_ok _ _).symm⟩
 ·simp only [rens,ren];rw [show ((List.range 15).map fun j=>if j=14 then 16 else j).getD 0 0=0 from rfl,show ((List.range 15).map fun j=>if j=14 then 16 else j).getD 14 0=16 from rfl];simp [wk]
theorem aU3 (G:Nat→List AV) (B:Nat) {s:Ptb} (hw:Wf s) :
  AWp (⟨Try.prog,G,B⟩:A3) 14 (.loop (loopN Try.f65 0)) (fl 32 [0,2,3,4] [.ptr (.rw 0) 0,.nils,.slice true (.rw 14) 0 (allN s 1).length,.int .i64 ((0+1:Nat):Int)]) (Jt s (0+1)) (lv 32 [0,2,3,4] fun e vs H=>e=.exit 0∧wk [.undef,.undef,.slice true (.rw 14) 0 (allN s 13).length,.undef] vs∧H=Jt s 13):=by
 refine Ko 12 (fun r=>[.ptr (.rw 0) 0,.nils,.slice true (.rw 14) 0 (allN s (r+1)).length,.int .i64 ((r+1:Nat):Int)]) (fun r=>Jt s (r+1)) fun r hr=>?_;have eH:Jt s (r+1)=vHp G (hp3 [some ⟨1,.var 1 (B2 1 s)⟩] (.var 2 (setsL encR s)) [some ⟨6,.var 22 (rowsU s (allN s (r+1)))⟩]):=by rw [hUL6];rfl
 rw [eH]
 refine E2 (C:=(⟨Try.prog,G,B⟩:A3)) (K:=Dc Try.prog [] [] [] 0) (by rw [show loopsOf (loopN Try.f65 0)=[] by kernel_rfl];exact dgood (mix G B) (by kernel_rfl) .nil .nil) (fuel:=300) (n0:=40) (m:=14) (c:=loopN Try.f65 0)
  (vs:=[.ptr (.rw 0) (.lit 0),.nils,.slice true (.rw 14) (.lit 0) (.var 6 (allN s (r+1)).length),.int .i64 (.ofN (.var 8 (r+1)))]) (H:=(hp3 [some ⟨1,.var 1 (B2 1 s)⟩] (.var 2 (setsL encR s)) [some ⟨6,.var 22 (rowsU s (allN s (r+1)))⟩])) (Nat.le_of_ble_eq_true rfl) ?_
 rw [au_b];have hle:=bV s (r+1);have nx:∀ v:Int,r+1≤12→v=IntKind.wrap .i64 (((r+1:Nat):Int)+1)→v=((r+1+1:Nat):Int):=fun v h e=>by rw [e,D9 (by omega)];omega
 refine ⟨fun h1=>?_,fun h1=>?_⟩
 ·have h12:r+1≤12:=by have:=of_decide_eq_true h1;omega
  have t:=Vm (b:=1) (s:=s) (n:=r+1) (by omega);have tr:subL (B2 1 s) ((r+1)*6) 6=M3 (s.at_ (r+1)):=U_row (b:=1) (s:=s) (n:=r+1) (by omega);rw [t.2,tr];refine ⟨decide_eq_true (by omega),decide_eq_true (by omega),t.1,fun h3=>?_,fun h3=>?_⟩
  ·have hp:0<(s.at_ (r+1)).num:=by have:=eq_of_beq h3;omega
   have ek:allN s (r+1+1)=allN s (r+1)++[r+1]:=by rw [Gf,if_pos hp]
   have v:=au_app (s:=s) (i:=r+1+1) (m:=((r+1+1:Nat):Int)) (some ⟨6,M3 (s.at_ (r+1))⟩) ek;refine ⟨decide_eq_true (by omega),decide_eq_true (by omega),A6.2 (by rw [Gc];omega),rfl,rfl,rfl,A6.2 (by omega),by rw [Qj];exact Nat.beq_refl _,?_⟩;refine ⟨by omega,.inr ?_⟩;rw [nx _ h12 rfl];rw [ek];rw [wI,List.length_append] at v;have e0:B0 tsR s=some ⟨1,B2 1 s⟩::A2 (setsL encR s):=(V3 (t:=tsR) (s:=s)).symm;rw [e0] at v;rw [List.length_append];exact v
  ·have hp:¬0<(s.at_ (r+1)).num:=fun h=>by
    have:=(hw.there (n:=r+1) (by omega)).1
    rw [this,beq_self_eq_true] at h3;cases h3
   have ek:allN s (r+1+1)=allN s (r+1):=by rw [Gf,if_neg hp,List.append_nil]
   refine ⟨by omega,.inl ⟨?_,?_⟩⟩
   ·rw [ek,nx _ h12 rfl]
   ·have:Jt s (r+1+1)=Jt s (r+1):=by unfold Jt;rw [ek]
    rw [this,eH];rfl
 ·have hr12:r=12:=by have:=of_decide_eq_false h1;omega
  subst hr12;exact ⟨rfl,by simp [wk,vVs,vV,vR,vN,vI],by rw [eH];rfl⟩
theorem au_c (G:Nat→List AV) (ra:List AV→Bool) (tb sl ys:List AV) (c:Nat) (Q:Ex→List AV→Hp→Prop) (R:AV→Hp→Prop):vT G Q R (D0 (Dc Try.prog [] [] [E5 2502 (ra) 0 32 [0,2,3,4] (.one (.exit 0) [.undef,.undef,.slice true (.rw 14) (.lit 0) (.var 6 c),.undef] (hp3 [some ⟨1,.var 1 tb⟩] (.var 2 sl) [some ⟨6,.var 22 ys⟩]))] 14) 300 40 Try.f65 [.ptr (.rw 0) (.lit 0)] (hp3 [some ⟨1,.var 1 tb⟩] (.var 2 sl) []) 15)=(
  (ra) [.agg ([.ptr (.rw 0) (0),.nils,.nils,.int .i64 (1)]:List AV),.agg ((Ez [.tup [.int .i64 (1),.agg tb]] sl []):List AV)]=true∧R (.slice true (.rw 14) (0) (c)) ([some ⟨1,tb⟩]++(A2 sl++[some ⟨6,ys⟩]))):=by kernel_rfl
theorem all1 {s:Ptb} (hw:Wf s):allN s 1=[]:=by
 have h:(s.at_ 0).num=0:=by rw [(hw.z 0 (.inl rfl)).1];rfl
 rw [Gf,if_neg (by omega)];rfl
theorem aH4 (G:Nat→List AV) (B:Nat) {s:Ptb} (hw:Wf s):AWp (⟨Try.prog,G,B⟩:A3) 14 (.loop (loopN Try.f65 0)) (fl 32 [0,2,3,4] [.ptr (.rw 0) 0,.nils,.nils,.int .i64 1]) (vHp G (hp3 [some ⟨1,.var 1 (B2 1 s)⟩] (.var 2 (setsL encR s)) [])) (lv 32 [0,2,3,4] (LOut.post G 14 (.one (.exit 0) [.undef,.undef,.slice true (.rw 14) (.lit 0) (.var 6 (allN s 13).length),.undef] (hp3 [some ⟨1,.var 1 (B2 1 s)⟩] (.var 2 (setsL encR s)) [some ⟨6,.var 22 (rowsU s (allN s 13))⟩])))):=by
 have h1:=all1 hw;have hl:(vHp G (hp3 [some ⟨1,.var 1 (B2 1 s)⟩] (.var 2 (setsL encR s)) [])).length=14:=by rw [C0];rfl
 refine AWp.nilL [.ptr (.rw 0) 0,.nils,.slice true (.rw 14) 0 0,.int .i64 1] 6 (by rw [hl];omega) (by rw [hl];exact ⟨.inl rfl,.inl rfl,.inr ⟨rfl,rfl⟩,.inl rfl,trivial⟩) ?_;have key:=aU3 G B hw;rw [h1] at key
 have e:Jt s (0+1)=vHp G (hp3 [some ⟨1,.var 1 (B2 1 s)⟩] (.var 2 (setsL encR s)) [])++[some ⟨6,[]⟩]:=by
  unfold Jt;rw [h1,hU];rfl
 rw [e] at key;refine key.lmono ?_;rintro ex vs H ⟨rfl,h2,rfl⟩;exact ⟨rfl,.inl ⟨h2,(hUL6 G s (rowsU s (allN s 13))).symm⟩⟩
theorem r_all (G:Nat→List AV) (B:Nat) {s:Ptb} (hw:Wf s):ACalls (⟨Try.prog,G,B⟩:A3) 65 [.ptr (.rw 0) 0] (B0 tsR s) fun v H'=>v=.slice true (.rw 14) 0 (allN s 13).length∧H'=B0 tsR s++[some ⟨6,rowsU s (allN s 13)⟩]:=by
 have h:=D3 (C:=(⟨Try.prog,G,B⟩:A3)) (K:=Dc Try.prog [] [] [E5 2502 (G5 [.ptr (.rw 0) 0,.nils,.nils,.int .i64 1] (vHp G (hp3 [some ⟨1,.var 1 (B2 1 s)⟩] (.var 2 (setsL encR s)) []))) 0 32 [0,2,3,4] (.one (.exit 0) [.undef,.undef,.slice true (.rw 14) (.lit 0) (.var 6 (allN s 13).length),.undef] (hp3 [some ⟨1,.var 1 (B2 1 s)⟩] (.var 2 (setsL encR s)) [some ⟨6,.var 22 (rowsU s (allN s 13))⟩]))] 14) (fuel:=300) (n0:=40) (f:=65) (fn:=Try.f65) (args:=[.ptr (.rw 0) (.lit 0)]) (H:=(hp3 [some ⟨1,.var 1 (B2 1 s)⟩] (.var 2 (setsL encR s)) [])) (keep:=15)
  (R:=fun v H=>v=.slice true (.rw 14) 0 (allN s 13).length∧H=vHp G (hp3 [some ⟨1,.var 1 (B2 1 s)⟩] (.var 2 (setsL encR s)) [some ⟨6,.var 22 (rowsU s (allN s 13))⟩])) (dgood (mix G B) (by kernel_rfl) .nil (.cast (.cons (i:=0) (by kernel_rfl) rfl (N5 rfl (aH4 G B hw)) .nil) (by kernel_rfl))) (by kernel_rfl) (by kernel_rfl) (by kernel_rfl) (by
  have:=au_c G (G5 [.ptr (.rw 0) 0,.nils,.nils,.int .i64 1] (vHp G (hp3 [some ⟨1,.var 1 (B2 1 s)⟩] (.var 2 (setsL encR s)) []))) (B2 1 s) (setsL encR s) (rowsU s (allN s 13)) (allN s 13).length (fun _ _ _=>False) (fun v H=>v=.slice true (.rw 14) 0 (allN s 13).length∧H=vHp G (hp3 [some ⟨1,.var 1 (B2 1 s)⟩] (.var 2 (setsL encR s)) [some ⟨6,.var 22 (rowsU s (allN s 13))⟩]))
  exact Eq.mpr this ⟨F5,rfl,rfl⟩)
 rw [hU,hUL6] at h;have hl:(B0 tsR s++[some (⟨6,rowsU s (allN s 13)⟩:Blk)]).length=15:=by simp [A9]
 refine ACalls.keep (k:=15) h ?_ ?_ ?_ (by simp)
 ·rw [hl,A9];omega
 ·rw [hl];exact hpB_app (N3 tsR_ok (s:=s) (b:=1) (by omega)) (by simp only [D7,Dg,Bool.and_self])
 ·rw [hl];rfl
end Go.Am
namespace Go.Am
open Go.Proofs Crc
set_option maxRecDepth 100000
variable {C:A3}
theorem nF {tg:Nat} {t:TS} (ht:O7 t) {f:FuncId} {s:Ptb} {i:Nat} {H:DHp} {oa:OA} (hoa:Z0 tg H i=some oa) (hc:vVs C.G (.agg oa.c0::oa.cs.map EV.agg)=.agg (t.tb (B3 oa.b s) s)::(List.range 13).map fun n=>.agg (I4 t.enc (s.sg n)))
  {rest:List EV} (hr:A8 0 (vVs C.G rest)=true) {e N:Nat} {L:List AV} {n:EN} {l:EL} (hL:A8 0 L=true) (eN:vN C.G n=N) (eL:vL C.G l=L)
  (hcall:ACalls C f (.ptr (.rw 0) 0::vVs C.G rest) (B0 t s) fun v H'=>v=.slice true (.rw 14) 0 N∧H'=B0 t s++[some ⟨e,L⟩]):E1 C f (.ptr (.rw i) (.lit 0)::rest) H (.slice true (.rw H.length) (.lit 0) n) [.new ⟨e,l⟩]:=by
 have live:=Gq ht hoa hc;have nd:=Fa (Fp hoa).1
 have same:∀ k,lay (J0 (B7 i oa.b) (vHp C.G H).length k) (B7 i oa.b) (B0 t s) (vHp C.G H)=vHp C.G H:=fun k=>by
  refine Ft _ _ _ _ fun q b hk hb=>?_;obtain ⟨b0,rfl,g1,g2⟩:=live q b hb;rw [g2];simp only [K7,Option.map_some,F9,Z8 _ g1]
 have l15:(B0 t s++[some (⟨e,L⟩:Blk)]).length=15:=by simp [A9]
 refine E1.fr (θ:=B7 i oa.b) (H0:=B0 t s) (H1:=B0 t s++[some ⟨e,L⟩]) (v0:=.slice true (.rw 14) 0 N) (args0:=.ptr (.rw 0) 0::vVs C.G rest) nd (by rw [B5,A9]) live ?_ ?_ hcall (by rw [l15,A9];omega) (by rw [l15];rfl) ?_ ?_ ?_
 ·rw [B5];simp only [A8,C6 (Nat.zero_le _) _ hr,Bool.and_true];rfl
 ·simp only [vVs,rens,E0 _ _ hr,vV,vR,vN,ren];rfl
 ·rw [l15];exact hpB_app (N3 ht (s:=s) (b:=1) (by omega)) (by simp only [D7,C6 (Nat.zero_le _) _ hL,Bool.and_self])
 ·rw [l15,B5];show AV.slice true (.rw H.length) 0 (vN C.G n)=AV.slice true (.rw ((J0 (B7 i oa.b) H.length 1).getD (14+0) 0)) 0 N;rw [Ia (by omega),Nat.add_zero,eN]
 ·unfold L4;rw [l15,B5,List.drop_left' A9,Ih.lay_more _ _ _ _ _ (by rw [B5,A9]),same];show vHp C.G H++[some (⟨e,vL C.G l⟩:Blk)]=_;rw [eL];simp only [List.map_cons,List.map_nil,K7,Option.map_some,F9,E0 _ _ hL]
def kQ (tg:Nat) (ok:List AV→Bool):DSum:=fun args H=>match args with
 | [.ptr (.rw i) (.lit 0),.int .i64 n]=>match Z0 tg H i with
  | some o=>some (.chk (Hv tg ok o) (.one (.slice true (.rw H.length) (.lit 0) (.uf 2381 O5 [.agg o.x,.int .i64 n])) [.new ⟨1,.uf 2382 H4 [.agg o.x,.int .i64 n]⟩]))
  | none=>none
 | _=>none
theorem kidsO_ok {tg:Nat} {t:TS} (ht:O7 t) {f:FuncId} (h:∀ s,Wf s→∀ n,ACalls C f [.ptr (.rw 0) 0,.int .i64 n] (B0 t s) fun v H'=>v=.slice true (.rw 14) 0 (kidT s n 13).length∧H'=B0 t s++[some ⟨1,nl (kidT s n 13)⟩]):G0 C f (kQ tg (F6 t)):=by
 intro args H o ho;unfold kQ at ho;split at ho
 ·rename_i i n;split at ho
  ·rename_i oa hoa;simp only [Option.some.injEq] at ho;subst ho;intro h1;have h1:F6 t [.int .i64 (oa.b:Int),.agg (vL C.G oa.x),.tup (vVs C.G (.agg oa.c0::oa.cs.map EV.agg))]=true:=h1;obtain ⟨s,hw,hx,hc⟩:=Q9.1 h1;rw [Int.toNat_natCast] at hc;refine nF ht hoa hc (rest:=[.int .i64 n]) rfl (L3 0 (kidT s (vI C.G n) 13)) ?_ ?_ (h s hw (vI C.G n))
   ·show O5 [.agg (vL C.G oa.x),.int .i64 (vI C.G n)]=_;rw [hx];simp only [O5,C7 hw.thin]
   ·show H4 [.agg (vL C.G oa.x),.int .i64 (vI C.G n)]=_;rw [hx];simp only [H4,C7 hw.thin]
  ·cases ho
 ·cases ho
def Zu:List AV→Nat:=fun vs=>match vs with
 | [.agg x]=>(allN (P7 x) 13).length
 | _=>0
def Zv:List AV→List AV:=fun vs=>match vs with
 | [.agg x]=>rowsU (P7 x) (allN (P7 x) 13)
 | _=>[]
def kX (tg:Nat) (ok:List AV→Bool):DSum:=fun args H=>match args with
 | [.ptr (.rw i) (.lit 0)]=>match Z0 tg H i with
  | some o=>some (.chk (Hv tg ok o) (.one (.slice true (.rw H.length) (.lit 0) (.uf 2503 Zu [.agg o.x])) [.new ⟨6,.uf 2504 Zv [.agg o.x]⟩]))
  | none=>none
 | _=>none
theorem aH6 {tg:Nat} {t:TS} (ht:O7 t) {f:FuncId} (h:∀ s,Wf s→ACalls C f [.ptr (.rw 0) 0] (B0 t s) fun v H'=>v=.slice true (.rw 14) 0 (allN s 13).length∧H'=B0 t s++[some ⟨6,rowsU s (allN s 13)⟩]):G0 C f (kX tg (F6 t)):=by
 intro args H o ho;unfold kX at ho;split at ho
 ·rename_i i;split at ho
  ·rename_i oa hoa;simp only [Option.some.injEq] at ho;subst ho;intro h1;have h1:F6 t [.int .i64 (oa.b:Int),.agg (vL C.G oa.x),.tup (vVs C.G (.agg oa.c0::oa.cs.map EV.agg))]=true:=h1;obtain ⟨s,hw,hx,hc⟩:=Q9.1 h1;rw [Int.toNat_natCast] at hc;refine nF ht hoa hc (rest:=[]) rfl (Dg 0 s (allN s 13)) ?_ ?_ (h s hw)
   ·show Zu [.agg (vL C.G oa.x)]=_;rw [hx];simp only [Zu,C7 hw.thin]
   ·show Zv [.agg (vL C.G oa.x)]=_;rw [hx];simp only [Zv,C7 hw.thin]
  ·cases ho
 ·cases ho
section
variable (G:Nat→List AV) (B:Nat)
theorem aQ3 {s:Ptb} (hw:Wf s) (n:Int):ACalls (⟨Try.prog,G,B⟩:A3) 31 [.ptr (.rw 0) 0,.int .i64 n] (B0 tsP s) fun v H'=>v=.slice true (.rw 14) 0 (kidT s n 13).length∧H'=B0 tsP s++[some ⟨1,nl (kidT s n 13)⟩]:=by
 have h:=mQ (G:=G) (B:=B) (s:=s) (cc:=13) (sl:=setsL encP s) (Nat.le_refl 13) Wb hw n
 have e:Nc s 13 (setsL encP s)=B0 tsP s:=by
  rw [←V3 (t:=tsP) (s:=s)];unfold Nc;rw [←eI];rfl
 rw [e] at h;exact h
end
end Go.Am
namespace Go.Am
open Go.Proofs Crc
set_option maxRecDepth 100000
def zW (okP1 okR1:List AV→Bool):List (Nat×DSum):=[(16,Y5 2101 okP1 tsP .same tellK),(59,Y5 2251 okR1 tsR .same tellK),(22,sigQ 2101 okP1),(63,sO 2251 okR1),(20,Y5 2101 okP1 tsP .same livesK),(60,Y5 2251 okR1 tsR .same livesK),(31,kQ 2101 okP1),(61,kQ 2251 okR1),(34,sameIntsS),(62,standC),(23,sQ N0),(64,tS N0)]
theorem sd_l (G:Nat→List AV) (okP1 okR1:List AV→Bool) (x:List AV) (lv n:Int) (Q:Ex→List AV→Hp→Prop) (R:AV→Hp→Prop):vT G Q R (J6 (Dc Try.prog [] (zW okP1 okR1) [] 0) 900 20 28 (loopN Try.f30 0) 133 [0,1,5,6,7] [.ptr (.rw 0) (.lit 0),.ptr (.rw 14) (.lit 0),.ptr (.rw 28) (.lit 0),.ptr (.rw 29) (.lit 0),.int .i64 (.var 4 n)] (Ce 1 (.var 5 x)++Cd 15 (.var 5 x)++([some ⟨1,.of [.int .i64 (.var 7 lv)]⟩,some ⟨1,.of [.bool (.lit false)]⟩]:DHp)))=(
  (decide ((n:Int)≤14)=true→(okP1) (W9 (1) x)=true∧(okR1) (U5 (15) x)=true∧(okP1) (W9 (1) x)=true∧((E9 isP) [.agg x,.int .i64 (n)]=true→(((C2 M8) [.agg x,.int .i64 (n)]:Int)==(C2 M8) [.agg x,.int .i64 (n)])=true∧(((C2 M7) [.agg x,.int .i64 (n)]:Int)==(C2 M7) [.agg x,.int .i64 (n)])=true∧(((C2 M9) [.agg x,.int .i64 (n)]:Int)==(C2 M9) [.agg x,.int .i64 (n)])=true∧(((C2 M6) [.agg x,.int .i64 (n)]:Int)==(C2 M6) [.agg x,.int .i64 (n)])=true∧((E9 M5) [.agg x,.int .i64 (n)]=true→(E9 M5) [.agg x,.int .i64 (n)]=true∧(((C2 M4) [.agg x,.int .i64 (n)]:Int)==(C2 M4) [.agg x,.int .i64 (n)])=true∧(E9 isP) [.agg x,.int .i64 (n)]=true∧(E9 isP) [.agg x,.int .i64 (n)]=true∧(okP1) (W9 (1) x)=true∧(okR1) (U5 (15) x)=true∧((E9 live) [.agg x,.int .i64 (n)]=true→(E9 live) [.agg x,.int .i64 (n)]=true∧(okP1) (W9 (1) x)=true∧(okR1) (U5 (15) x)=true∧X3 [.agg ((H4) [.agg x,.int .i64 (n)]),.ptr (.rw 0) ((O5) [.agg x,.int .i64 (n)]),.agg ((H4) [.agg x,.int .i64 (n)]),.ptr (.rw 0) ((O5) [.agg x,.int .i64 (n)])]=true∧(okR1) (U5 (15) x)=true∧(E9 isP) [.agg x,.int .i64 (n)]=true∧okRU [.agg ((Km) [.agg x,.int .i64 (n)]),.agg ((Bz) [.agg x,.int .i64 (n)])]=true∧okU [.agg ((Bz) [.agg x,.int .i64 (n)])]=true∧(Up) [.int .i64 (1)]=true∧okU [.agg (Gi [.agg ((Bz) [.agg x,.int .i64 (n)]),.int .i64 (1)])]=true∧
 Q .normal [.ptr (.rw 0) (0),.ptr (.rw 14) (0),.ptr (.rw 28) (0),.ptr (.rw 29) (0),.int .i64 (IntKind.wrap .i64 (n+1))] (D2 (1) x++(D1 (15) x++[some ⟨1,([.int .i64 (lv)]:List AV)⟩,some ⟨1,([.bool (false)]:List AV)⟩,some ⟨1,([.int .i64 ((C2 M8) [.agg x,.int .i64 (n)]),.int .i64 ((C2 M7) [.agg x,.int .i64 (n)]),.int .i64 ((C2 M9) [.agg x,.int .i64 (n)]),.int .i64 ((C2 M6) [.agg x,.int .i64 (n)]),.bool ((E9 M5) [.agg x,.int .i64 (n)]),.int .i64 ((C2 M4) [.agg x,.int .i64 (n)])]:List AV)⟩,some ⟨1,([.int .i64 ((C2 M8) [.agg x,.int .i64 (n)]),.int .i64 ((C2 M7) [.agg x,.int .i64 (n)]),.int .i64 ((C2 M9) [.agg x,.int .i64 (n)]),.int .i64 ((C2 M6) [.agg x,.int .i64 (n)]),.bool ((E9 M5) [.agg x,.int .i64 (n)]),.int .i64 ((C2 M4) [.agg x,.int .i64 (n)])]:List AV)⟩,some ⟨1,(Gs [.agg (Gi [.agg ((Bz) [.agg x,.int .i64 (n)]),.int .i64 (1)]),.int .i64 ((-1))])⟩,some ⟨1,((H4) [.agg x,.int .i64 (n)])⟩,some ⟨1,((H4) [.agg x,.int .i64 (n)])⟩,some ⟨1,((Km) [.agg x,.int .i64 (n)])⟩])))∧((E9 live) [.agg x,.int .i64 (n)]=false→(!((E9 live) [.agg x,.int .i64 (n)]))=true∧(okP1) (W9 (1) x)=true∧(okR1) (U5 (15) x)=true∧X3 [.agg ((H4) [.agg x,.int .i64 (n)]),.ptr (.rw 0) ((O5) [.agg x,.int .i64 (n)]),.agg ((H4) [.agg x,.int .i64 (n)]),.ptr (.rw 0) ((O5) [.agg x,.int .i64 (n)])]=true∧(okR1) (U5 (15) x)=true∧(E9 isP) [.agg x,.int .i64 (n)]=true∧okRU [.agg ((Km) [.agg x,.int .i64 (n)]),.agg ((Bz) [.agg x,.int .i64 (n)])]=true∧okU [.agg ((Bz) [.agg x,.int .i64 (n)])]=true∧(Up) [.int .i64 (1)]=true∧okU [.agg (Gi [.agg ((Bz) [.agg x,.int .i64 (n)]),.int .i64 (1)])]=true∧
 Q .normal [.ptr (.rw 0) (0),.ptr (.rw 14) (0),.ptr (.rw 28) (0),.ptr (.rw 29) (0),.int .i64 (IntKind.wrap .i64 (n+1))] (D2 (1) x++(D1 (15) x++[some ⟨1,([.int .i64 (lv)]:List AV)⟩,some ⟨1,([.bool (false)]:List AV)⟩,some ⟨1,([.int .i64 ((C2 M8) [.agg x,.int .i64 (n)]),.int .i64 ((C2 M7) [.agg x,.int .i64 (n)]),.int .i64 ((C2 M9) [.agg x,.int .i64 (n)]),.int .i64 ((C2 M6) [.agg x,.int .i64 (n)]),.bool ((E9 M5) [.agg x,.int .i64 (n)]),.int .i64 ((C2 M4) [.agg x,.int .i64 (n)])]:List AV)⟩,some ⟨1,([.int .i64 ((C2 M8) [.agg x,.int .i64 (n)]),.int .i64 ((C2 M7) [.agg x,.int .i64 (n)]),.int .i64 ((C2 M9) [.agg x,.int .i64 (n)]),.int .i64 ((C2 M6) [.agg x,.int .i64 (n)]),.bool ((E9 M5) [.agg x,.int .i64 (n)]),.int .i64 ((C2 M4) [.agg x,.int .i64 (n)])]:List AV)⟩,some ⟨1,(Gs [.agg (Gi [.agg ((Bz) [.agg x,.int .i64 (n)]),.int .i64 (1)]),.int .i64 ((-1))])⟩,some ⟨1,((H4) [.agg x,.int .i64 (n)])⟩,some ⟨1,((H4) [.agg x,.int .i64 (n)])⟩,some ⟨1,((Km) [.agg x,.int .i64 (n)])⟩]))))∧((E9 M5) [.agg x,.int .i64 (n)]=false→(!((E9 M5) [.agg x,.int .i64 (n)]))=true∧(((C2 M4) [.agg x,.int .i64 (n)]:Int)==(C2 M4) [.agg x,.int .i64 (n)])=true∧(E9 isP) [.agg x,.int .i64 (n)]=true∧(E9 isP) [.agg x,.int .i64 (n)]=true∧(okP1) (W9 (1) x)=true∧(okR1) (U5 (15) x)=true∧((E9 live) [.agg x,.int .i64 (n)]=true→(E9 live) [.agg x,.int .i64 (n)]=true∧(okP1) (W9 (1) x)=true∧(okR1) (U5 (15) x)=true∧X3 [.agg ((H4) [.agg x,.int .i64 (n)]),.ptr (.rw 0) ((O5) [.agg x,.int .i64 (n)]),.agg ((H4) [.agg x,.int .i64 (n)]),.ptr (.rw 0) ((O5) [.agg x,.int .i64 (n)])]=true∧(okR1) (U5 (15) x)=true∧(E9 isP) [.agg x,.int .i64 (n)]=true∧
 okRU [.agg ((Km) [.agg x,.int .i64 (n)]),.agg ((Bz) [.agg x,.int .i64 (n)])]=true∧okU [.agg ((Bz) [.agg x,.int .i64 (n)])]=true∧(Up) [.int .i64 (1)]=true∧okU [.agg (Gi [.agg ((Bz) [.agg x,.int .i64 (n)]),.int .i64 (1)])]=true∧Q .normal [.ptr (.rw 0) (0),.ptr (.rw 14) (0),.ptr (.rw 28) (0),.ptr (.rw 29) (0),.int .i64 (IntKind.wrap .i64 (n+1))] (D2 (1) x++(D1 (15) x++[some ⟨1,([.int .i64 (lv)]:List AV)⟩,some ⟨1,([.bool (false)]:List AV)⟩,some ⟨1,([.int .i64 ((C2 M8) [.agg x,.int .i64 (n)]),.int .i64 ((C2 M7) [.agg x,.int .i64 (n)]),.int .i64 ((C2 M9) [.agg x,.int .i64 (n)]),.int .i64 ((C2 M6) [.agg x,.int .i64 (n)]),.bool ((E9 M5) [.agg x,.int .i64 (n)]),.int .i64 ((C2 M4) [.agg x,.int .i64 (n)])]:List AV)⟩,some ⟨1,([.int .i64 ((C2 M8) [.agg x,.int .i64 (n)]),.int .i64 ((C2 M7) [.agg x,.int .i64 (n)]),.int .i64 ((C2 M9) [.agg x,.int .i64 (n)]),.int .i64 ((C2 M6) [.agg x,.int .i64 (n)]),.bool ((E9 M5) [.agg x,.int .i64 (n)]),.int .i64 ((C2 M4) [.agg x,.int .i64 (n)])]:List AV)⟩,some ⟨1,(Gs [.agg (Gi [.agg ((Bz) [.agg x,.int .i64 (n)]),.int .i64 (1)]),.int .i64 ((-1))])⟩,some ⟨1,((H4) [.agg x,.int .i64 (n)])⟩,some ⟨1,((H4) [.agg x,.int .i64 (n)])⟩,some ⟨1,((Km) [.agg x,.int .i64 (n)])⟩])))∧((E9 live) [.agg x,.int .i64 (n)]=false→(!((E9 live) [.agg x,.int .i64 (n)]))=true∧(okP1) (W9 (1) x)=true∧(okR1) (U5 (15) x)=true∧X3 [.agg ((H4) [.agg x,.int .i64 (n)]),.ptr (.rw 0) ((O5) [.agg x,.int .i64 (n)]),.agg ((H4) [.agg x,.int .i64 (n)]),.ptr (.rw 0) ((O5) [.agg x,.int .i64 (n)])]=true∧(okR1) (U5 (15) x)=true∧(E9 isP) [.agg x,.int .i64 (n)]=true∧okRU [.agg ((Km) [.agg x,.int .i64 (n)]),.agg ((Bz) [.agg x,.int .i64 (n)])]=true∧
 okU [.agg ((Bz) [.agg x,.int .i64 (n)])]=true∧(Up) [.int .i64 (1)]=true∧okU [.agg (Gi [.agg ((Bz) [.agg x,.int .i64 (n)]),.int .i64 (1)])]=true∧Q .normal [.ptr (.rw 0) (0),.ptr (.rw 14) (0),.ptr (.rw 28) (0),.ptr (.rw 29) (0),.int .i64 (IntKind.wrap .i64 (n+1))] (D2 (1) x++(D1 (15) x++[some ⟨1,([.int .i64 (lv)]:List AV)⟩,some ⟨1,([.bool (false)]:List AV)⟩,some ⟨1,([.int .i64 ((C2 M8) [.agg x,.int .i64 (n)]),.int .i64 ((C2 M7) [.agg x,.int .i64 (n)]),.int .i64 ((C2 M9) [.agg x,.int .i64 (n)]),.int .i64 ((C2 M6) [.agg x,.int .i64 (n)]),.bool ((E9 M5) [.agg x,.int .i64 (n)]),.int .i64 ((C2 M4) [.agg x,.int .i64 (n)])]:List AV)⟩,some ⟨1,([.int .i64 ((C2 M8) [.agg x,.int .i64 (n)]),.int .i64 ((C2 M7) [.agg x,.int .i64 (n)]),.int .i64 ((C2 M9) [.agg x,.int .i64 (n)]),.int .i64 ((C2 M6) [.agg x,.int .i64 (n)]),.bool ((E9 M5) [.agg x,.int .i64 (n)]),.int .i64 ((C2 M4) [.agg x,.int .i64 (n)])]:List AV)⟩,some ⟨1,(Gs [.agg (Gi [.agg ((Bz) [.agg x,.int .i64 (n)]),.int .i64 (1)]),.int .i64 ((-1))])⟩,some ⟨1,((H4) [.agg x,.int .i64 (n)])⟩,some ⟨1,((H4) [.agg x,.int .i64 (n)])⟩,some ⟨1,((Km) [.agg x,.int .i64 (n)])⟩])))))∧((E9 isP) [.agg x,.int .i64 (n)]=false→(((C2 M8) [.agg x,.int .i64 (n)]:Int)==(C2 M8) [.agg x,.int .i64 (n)])=true∧(((C2 M7) [.agg x,.int .i64 (n)]:Int)==(C2 M7) [.agg x,.int .i64 (n)])=true∧(((C2 M9) [.agg x,.int .i64 (n)]:Int)==(C2 M9) [.agg x,.int .i64 (n)])=true∧(((C2 M6) [.agg x,.int .i64 (n)]:Int)==(C2 M6) [.agg x,.int .i64 (n)])=true∧((E9 M5) [.agg x,.int .i64 (n)]=true→(E9 M5) [.agg x,.int .i64 (n)]=true∧(((C2 M4) [.agg x,.int .i64 (n)]:Int)==(C2 M4) [.agg x,.int .i64 (n)])=true∧
 (!((E9 isP) [.agg x,.int .i64 (n)]))=true∧(!((E9 isP) [.agg x,.int .i64 (n)]))=true∧(okP1) (W9 (1) x)=true∧(okR1) (U5 (15) x)=true∧((E9 live) [.agg x,.int .i64 (n)]=true→(E9 live) [.agg x,.int .i64 (n)]=true∧(okP1) (W9 (1) x)=true∧(okR1) (U5 (15) x)=true∧X3 [.agg ((H4) [.agg x,.int .i64 (n)]),.ptr (.rw 0) ((O5) [.agg x,.int .i64 (n)]),.agg ((H4) [.agg x,.int .i64 (n)]),.ptr (.rw 0) ((O5) [.agg x,.int .i64 (n)])]=true∧(okR1) (U5 (15) x)=true∧(!((E9 isP) [.agg x,.int .i64 (n)]))=true∧Q .normal [.ptr (.rw 0) (0),.ptr (.rw 14) (0),.ptr (.rw 28) (0),.ptr (.rw 29) (0),.int .i64 (IntKind.wrap .i64 (n+1))] (D2 (1) x++(D1 (15) x++[some ⟨1,([.int .i64 (lv)]:List AV)⟩,some ⟨1,([.bool (false)]:List AV)⟩,some ⟨1,([.int .i64 ((C2 M8) [.agg x,.int .i64 (n)]),.int .i64 ((C2 M7) [.agg x,.int .i64 (n)]),.int .i64 ((C2 M9) [.agg x,.int .i64 (n)]),.int .i64 ((C2 M6) [.agg x,.int .i64 (n)]),.bool ((E9 M5) [.agg x,.int .i64 (n)]),.int .i64 ((C2 M4) [.agg x,.int .i64 (n)])]:List AV)⟩,some ⟨1,([.int .i64 ((C2 M8) [.agg x,.int .i64 (n)]),.int .i64 ((C2 M7) [.agg x,.int .i64 (n)]),.int .i64 ((C2 M9) [.agg x,.int .i64 (n)]),.int .i64 ((C2 M6) [.agg x,.int .i64 (n)]),.bool ((E9 M5) [.agg x,.int .i64 (n)]),.int .i64 ((C2 M4) [.agg x,.int .i64 (n)])]:List AV)⟩,some ⟨1,((H4) [.agg x,.int .i64 (n)])⟩,some ⟨1,((H4) [.agg x,.int .i64 (n)])⟩])))∧((E9 live) [.agg x,.int .i64 (n)]=false→(!((E9 live) [.agg x,.int .i64 (n)]))=true∧(okP1) (W9 (1) x)=true∧(okR1) (U5 (15) x)=true∧X3 [.agg ((H4) [.agg x,.int .i64 (n)]),.ptr (.rw 0) ((O5) [.agg x,.int .i64 (n)]),.agg ((H4) [.agg x,.int .i64 (n)]),.ptr (.rw 0) ((O5) [.agg x,.int .i64 (n)])]=true∧(okR1) (U5 (15) x)=true∧
 (!((E9 isP) [.agg x,.int .i64 (n)]))=true∧Q .normal [.ptr (.rw 0) (0),.ptr (.rw 14) (0),.ptr (.rw 28) (0),.ptr (.rw 29) (0),.int .i64 (IntKind.wrap .i64 (n+1))] (D2 (1) x++(D1 (15) x++[some ⟨1,([.int .i64 (lv)]:List AV)⟩,some ⟨1,([.bool (false)]:List AV)⟩,some ⟨1,([.int .i64 ((C2 M8) [.agg x,.int .i64 (n)]),.int .i64 ((C2 M7) [.agg x,.int .i64 (n)]),.int .i64 ((C2 M9) [.agg x,.int .i64 (n)]),.int .i64 ((C2 M6) [.agg x,.int .i64 (n)]),.bool ((E9 M5) [.agg x,.int .i64 (n)]),.int .i64 ((C2 M4) [.agg x,.int .i64 (n)])]:List AV)⟩,some ⟨1,([.int .i64 ((C2 M8) [.agg x,.int .i64 (n)]),.int .i64 ((C2 M7) [.agg x,.int .i64 (n)]),.int .i64 ((C2 M9) [.agg x,.int .i64 (n)]),.int .i64 ((C2 M6) [.agg x,.int .i64 (n)]),.bool ((E9 M5) [.agg x,.int .i64 (n)]),.int .i64 ((C2 M4) [.agg x,.int .i64 (n)])]:List AV)⟩,some ⟨1,((H4) [.agg x,.int .i64 (n)])⟩,some ⟨1,((H4) [.agg x,.int .i64 (n)])⟩]))))∧((E9 M5) [.agg x,.int .i64 (n)]=false→(!((E9 M5) [.agg x,.int .i64 (n)]))=true∧(((C2 M4) [.agg x,.int .i64 (n)]:Int)==(C2 M4) [.agg x,.int .i64 (n)])=true∧(!((E9 isP) [.agg x,.int .i64 (n)]))=true∧(!((E9 isP) [.agg x,.int .i64 (n)]))=true∧(okP1) (W9 (1) x)=true∧(okR1) (U5 (15) x)=true∧((E9 live) [.agg x,.int .i64 (n)]=true→(E9 live) [.agg x,.int .i64 (n)]=true∧(okP1) (W9 (1) x)=true∧(okR1) (U5 (15) x)=true∧X3 [.agg ((H4) [.agg x,.int .i64 (n)]),.ptr (.rw 0) ((O5) [.agg x,.int .i64 (n)]),.agg ((H4) [.agg x,.int .i64 (n)]),.ptr (.rw 0) ((O5) [.agg x,.int .i64 (n)])]=true∧(okR1) (U5 (15) x)=true∧(!((E9 isP) [.agg x,.int .i64 (n)]))=true∧
 Q .normal [.ptr (.rw 0) (0),.ptr (.rw 14) (0),.ptr (.rw 28) (0),.ptr (.rw 29) (0),.int .i64 (IntKind.wrap .i64 (n+1))] (D2 (1) x++(D1 (15) x++[some ⟨1,([.int .i64 (lv)]:List AV)⟩,some ⟨1,([.bool (false)]:List AV)⟩,some ⟨1,([.int .i64 ((C2 M8) [.agg x,.int .i64 (n)]),.int .i64 ((C2 M7) [.agg x,.int .i64 (n)]),.int .i64 ((C2 M9) [.agg x,.int .i64 (n)]),.int .i64 ((C2 M6) [.agg x,.int .i64 (n)]),.bool ((E9 M5) [.agg x,.int .i64 (n)]),.int .i64 ((C2 M4) [.agg x,.int .i64 (n)])]:List AV)⟩,some ⟨1,([.int .i64 ((C2 M8) [.agg x,.int .i64 (n)]),.int .i64 ((C2 M7) [.agg x,.int .i64 (n)]),.int .i64 ((C2 M9) [.agg x,.int .i64 (n)]),.int .i64 ((C2 M6) [.agg x,.int .i64 (n)]),.bool ((E9 M5) [.agg x,.int .i64 (n)]),.int .i64 ((C2 M4) [.agg x,.int .i64 (n)])]:List AV)⟩,some ⟨1,((H4) [.agg x,.int .i64 (n)])⟩,some ⟨1,((H4) [.agg x,.int .i64 (n)])⟩])))∧((E9 live) [.agg x,.int .i64 (n)]=false→(!((E9 live) [.agg x,.int .i64 (n)]))=true∧(okP1) (W9 (1) x)=true∧(okR1) (U5 (15) x)=true∧X3 [.agg ((H4) [.agg x,.int .i64 (n)]),.ptr (.rw 0) ((O5) [.agg x,.int .i64 (n)]),.agg ((H4) [.agg x,.int .i64 (n)]),.ptr (.rw 0) ((O5) [.agg x,.int .i64 (n)])]=true∧(okR1) (U5 (15) x)=true∧(!((E9 isP) [.agg x,.int .i64 (n)]))=true∧
 Q .normal [.ptr (.rw 0) (0),.ptr (.rw 14) (0),.ptr (.rw 28) (0),.ptr (.rw 29) (0),.int .i64 (IntKind.wrap .i64 (n+1))] (D2 (1) x++(D1 (15) x++[some ⟨1,([.int .i64 (lv)]:List AV)⟩,some ⟨1,([.bool (false)]:List AV)⟩,some ⟨1,([.int .i64 ((C2 M8) [.agg x,.int .i64 (n)]),.int .i64 ((C2 M7) [.agg x,.int .i64 (n)]),.int .i64 ((C2 M9) [.agg x,.int .i64 (n)]),.int .i64 ((C2 M6) [.agg x,.int .i64 (n)]),.bool ((E9 M5) [.agg x,.int .i64 (n)]),.int .i64 ((C2 M4) [.agg x,.int .i64 (n)])]:List AV)⟩,some ⟨1,([.int .i64 ((C2 M8) [.agg x,.int .i64 (n)]),.int .i64 ((C2 M7) [.agg x,.int .i64 (n)]),.int .i64 ((C2 M9) [.agg x,.int .i64 (n)]),.int .i64 ((C2 M6) [.agg x,.int .i64 (n)]),.bool ((E9 M5) [.agg x,.int .i64 (n)]),.int .i64 ((C2 M4) [.agg x,.int .i64 (n)])]:List AV)⟩,some ⟨1,((H4) [.agg x,.int .i64 (n)])⟩,some ⟨1,((H4) [.agg x,.int .i64 (n)])⟩]))))))∧(decide ((n:Int)≤14)=false→Q (.exit 0) [.ptr (.rw 0) (0),.ptr (.rw 14) (0),.ptr (.rw 28) (0),.ptr (.rw 29) (0),.int .i64 (n)] (D2 (1) x++(D1 (15) x++[some ⟨1,([.int .i64 (lv)]:List AV)⟩,some ⟨1,([.bool (false)]:List AV)⟩])))):=by kernel_rfl
end Go.Am
namespace Go.Am
open Crc
end Go.Am
namespace Go.Am
open Go.Proofs Crc
set_option maxRecDepth 100000
end Go.Am
namespace Go.Am
open Crc
end Go.Am
namespace Go.Am
open Go.Proofs Crc
set_option maxRecDepth 100000
end Go.Am
namespace Go.Am
open Crc
set_option maxRecDepth 100000
end Go.Am
namespace Go.Am
open Go.Proofs Crc
set_option maxRecDepth 100000
end Go.Am
namespace Go.Am
open Go.Proofs Crc
set_option maxRecDepth 100000
end Go.Am
namespace Go.Am
open Go.Proofs Crc
set_option maxRecDepth 100000
end Go.Am
namespace Go.Am
open Go.Proofs Crc
set_option maxRecDepth 100000
set_option maxHeartbeats 1000000
structure aA (cs:List AV) (n:Nat):Prop where
 ok:Vq .i64 cs 0 (n*4)=true
 rng:∀ i,i<n→-9223372036854775808≤A0 cs (i*4+2)
def W7 (cs:List AV):Nat→Ptb
 | 0=>new0
 | i+1=>R5 (W7 cs i) (A0 cs (i*4)) (A0 cs (i*4+1)) (A0 cs (i*4+2)) (A0 cs (i*4+3))
theorem Yk (cs:List AV):∀ i,Wf (W7 cs i)
 | 0=>Oj
 | i+1=>(Yk cs i).stepX _ _ _ _
theorem sL {s:Ptb} (hs:U7 s) {c p a b:Int}:Cq [.agg (encX s),.agg [.int .i64 c,.int .i64 p,.int .i64 a,.int .i64 b]]=encX (R5 s c p a b):=by
 show encX (R5 (P7 (encX s)) c p a b)=_;rw [C7 hs]
theorem vW {cs:List AV} {n i:Nat} (h:aA cs n) (hi:i<n):Pe [.agg [.int .i64 (A0 cs (i*4)),.int .i64 (A0 cs (i*4+1)),.int .i64 (A0 cs (i*4+2)),.int .i64 (A0 cs (i*4+3))]]=true:=cF.2 ⟨_,_,_,_,rfl,h.rng i hi⟩
theorem aT6 (G:Nat→List AV) (B:Nat):G0 (⟨Try.prog,G,B⟩:A3) 18 (doD (F6 tsP) (F6 tsR) Nh Pe):=doD_ok (fun s hw c p a b ha=>aT5 G B hw c p a b ha)
theorem Uy (x:List AV):Nh [.agg x,.agg x]=true:=bO.2 rfl
end Go.Am
namespace Go.Am
open Go.Proofs Crc
set_option maxRecDepth 100000
end Go.Am
namespace Go.Am
open Go.Proofs Crc
set_option maxRecDepth 100000
set_option maxHeartbeats 1000000
theorem obj2 {s:Ptb} (hs:U7 s):D2 1 (encX s)++D1 15 (encX s)=J1 0 [(tsP,s),(tsR,s)]:=by
 rw [show D2 1 (encX s)=_ from Ig hs 1,show D1 15 (encX s)=_ from If hs 15];simp only [J1,List.append_nil]
theorem hObj2 {s:Ptb} (hs:U7 s) (G:Nat→List AV):vHp G (Ce 1 (.var 5 (encX s))++Cd 15 (.var 5 (encX s)))=(J1 0 [(tsP,s),(tsR,s)]):=by
 rw [←obj2 hs];rfl
end Go.Am
namespace Go.Am
open Go.Proofs Crc
set_option maxRecDepth 100000
set_option maxHeartbeats 1000000
end Go.Am
namespace Go.Am
open Go.Proofs Crc
set_option maxRecDepth 100000
set_option maxHeartbeats 1000000
def bxS (lw:Int):Hp:=[some ⟨1,[.int .i64 lw]⟩,some ⟨1,[.bool false]⟩]
def Nl (s:Ptb) (lw:Int):Hp:=D2 1 (encX s)++(D1 15 (encX s)++bxS lw)
theorem hS (G:Nat→List AV) (s:Ptb) (lw:Int):vHp G (Ce 1 (.var 5 (encX s))++Cd 15 (.var 5 (encX s))++([some ⟨1,.of [.int .i64 (.var 7 lw)]⟩,some ⟨1,.of [.bool (.lit false)]⟩]:DHp))=Nl s lw:=rfl
theorem gD {s:Ptb} {lw:Int}:(Nl s lw).length=30:=by simp [Nl,D2,Ff,D1,Id,bxS]
theorem hpS_b {s:Ptb} (hs:U7 s) {lw:Int}:D7 30 (Nl s lw)=true:=by
 unfold Nl;rw [show D2 1 (encX s)=_ from Ig hs 1,show D1 15 (encX s)=_ from If hs 15];exact hpB_app (N3 tsP_ok (by omega)) (hpB_app (N3 tsR_ok (by omega)) rfl)
theorem aM4 (G:Nat→List AV) (B:Nat):T4 (⟨Try.prog,G,B⟩:A3) (zW (F6 tsP) (F6 tsR)):=
 .cons (objS_ok tsP_ok (tellK_ok (fun s hw n=>p_tell G B n)))<|.cons (objS_ok tsR_ok (tellK_ok (fun s hw n=>r_tell G B hw n)))<|.cons (sigQ_ok (fun s hw n=>p_sig G B hw n))<|.cons (sigRQ_ok (fun s hw n=>r_sig G B hw n)) <|
 .cons (objS_ok tsP_ok (livesK_ok (fun s hw n=>aQ2 G B n)))<|.cons (objS_ok tsR_ok (livesK_ok (fun s hw n=>aO9 G B n)))<|.cons (kidsO_ok tsP_ok (fun s hw n=>aQ3 G B hw n))<|.cons (kidsO_ok tsR_ok (fun s hw n=>wN G B hw n)) <|
 .cons (Wh G B)<|.cons (vX G B)<|.cons (aA5 G B)<|.cons (aD2 G B) .nil
theorem aR7 (s:Ptb) (n:Int):(kidT s n 13).length≤1000:=by have:=Fu s n 13;omega
theorem aN5 (G:Nat→List AV) (B:Nat) {s:Ptb} (hw:Wf s) (lw:Int):AWp (⟨Try.prog,G,B⟩:A3) 28 (.loop (loopN Try.f30 0)) (fl 133 [0,1,5,6,7] [.ptr (.rw 0) 0,.ptr (.rw 14) 0,.ptr (.rw 28) 0,.ptr (.rw 29) 0,.int .i64 (-1)]) (Nl s lw) (lv 133 [0,1,5,6,7] fun e vs H=>e=.exit 0∧wk [.ptr (.rw 0) 0,.ptr (.rw 14) 0,.ptr (.rw 28) 0,.ptr (.rw 29) 0,.undef] vs∧H=Nl s lw):=by
 refine Ko 16 (fun i=>[.ptr (.rw 0) 0,.ptr (.rw 14) 0,.ptr (.rw 28) 0,.ptr (.rw 29) 0,.int .i64 ((i:Int) - 1)]) (fun _=>Nl s lw) fun i hi=>?_;rw [←hS G]
 refine E2 (C:=(⟨Try.prog,G,B⟩:A3)) (K:=Dc Try.prog [] (zW (F6 tsP) (F6 tsR)) [] 0) (fuel:=900) (n0:=20) (m:=28) (c:=loopN Try.f30 0)
  (vs:=[.ptr (.rw 0) (.lit 0),.ptr (.rw 14) (.lit 0),.ptr (.rw 28) (.lit 0),.ptr (.rw 29) (.lit 0),.int .i64 (.var 4 ((i:Int) - 1))]) (H:=(Ce 1 (.var 5 (encX s))++Cd 15 (.var 5 (encX s))++([some ⟨1,.of [.int .i64 (.var 7 lw)]⟩,some ⟨1,.of [.bool (.lit false)]⟩]:DHp))) (by
   rw [show loopsOf (loopN Try.f30 0)=[] by kernel_rfl]
   exact dgood (mix G B) (by kernel_rfl) (aM4 G B) .nil) (by show 28≤30;decide) ?_
 rw [sd_l];have o1:F6 tsP (W9 1 (encX s))=true:=cZ hw 1;have o2:F6 tsR (U5 15 (encX s))=true:=aZ hw 15;have k1:=O8 (C1 s ((i:Int) - 1).toNat);have k2:=Fo (C1 s ((i:Int) - 1).toNat);have k3:=O8 (send (C1 s ((i:Int) - 1).toNat) 1)
 have eX:Bz [.agg (encX s),.int .i64 ((i:Int) - 1)]=encP (C1 s ((i:Int) - 1).toNat):=by
  show encP (C1 (P7 (encX s)) _)=_;rw [C7 hw.thin]
 have eY:Km [.agg (encX s),.int .i64 ((i:Int) - 1)]=encR (C1 s ((i:Int) - 1).toNat):=by
  show encR (C1 (P7 (encX s)) _)=_;rw [C7 hw.thin]
 have eL:H4 [.agg (encX s),.int .i64 ((i:Int) - 1)]=nl (kidT s ((i:Int) - 1) 13):=by simp only [H4,C7 hw.thin]
 have eN:O5 [.agg (encX s),.int .i64 ((i:Int) - 1)]=(kidT s ((i:Int) - 1) 13).length:=by simp only [O5,C7 hw.thin]
 have inS:Up [.int .i64 1]=true:=rfl;have tw:X3 [.agg (nl (kidT s ((i:Int) - 1) 13)),.ptr (.rw 0) (kidT s ((i:Int) - 1) 13).length,.agg (nl (kidT s ((i:Int) - 1) 13)),.ptr (.rw 0) (kidT s ((i:Int) - 1) 13).length]=true:=qF _ (aR7 s _);have bf:∀ x:Int,(x==x)=true:=fun x=>beq_self_eq_true x;rw [eX,eY,eL,eN,iE]
 have lf:∀ (E:Hp) (v:Int),v=((i+1:Nat):Int) - 1→C8 28 [.ptr (.rw 0) 0,.ptr (.rw 14) 0,.ptr (.rw 28) 0,.ptr (.rw 29) 0,.int .i64 (((i+1:Nat):Int) - 1)] (Nl s lw) [.ptr (.rw 0) 0,.ptr (.rw 14) 0,.ptr (.rw 28) 0,.ptr (.rw 29) 0,.int .i64 v] (D2 1 (encX s)++(D1 15 (encX s)++(bxS lw++E))):=fun E v e=>by
  subst e
  have eH:D2 1 (encX s)++(D1 15 (encX s)++(bxS lw++E))=Nl s lw++E:=by
   unfold Nl;simp only [List.append_assoc]
  rw [eH];refine C8.same (by rw [gD];omega) (by rw [gD];exact hpS_b hw.thin) ?_;rw [gD];exact ⟨⟨rfl,rfl⟩,⟨rfl,rfl⟩,⟨rfl,rfl⟩,⟨rfl,rfl⟩,⟨rfl,rfl⟩,trivial⟩
 refine ⟨fun h1=>?_,fun h1=>?_⟩
 ·have h14:i<16:=by have:=of_decide_eq_true h1;omega
  have ew:IntKind.wrap .i64 ((i:Int) - 1+1)=((i+1:Nat):Int) - 1:=by rw [D9 (by omega)];omega
  generalize F6 tsP (W9 1 (encX s))=z1 at o1 ⊢;generalize F6 tsR (U5 15 (encX s))=z2 at o2 ⊢;generalize okU [.agg (encP (C1 s ((i:Int) - 1).toNat))]=z3 at k1 ⊢;generalize okRU [.agg (encR (C1 s ((i:Int) - 1).toNat)),.agg (encP (C1 s ((i:Int) - 1).toNat))]=z4 at k2 ⊢;generalize okU [.agg (encP (send (C1 s ((i:Int) - 1).toNat) 1))]=z5 at k3 ⊢;generalize Up [.int .i64 1]=z6 at inS ⊢;generalize X3 [.agg (nl (kidT s ((i:Int) - 1) 13)),.ptr (.rw 0) (kidT s ((i:Int) - 1) 13).length,.agg (nl (kidT s ((i:Int) - 1) 13)),.ptr (.rw 0) (kidT s ((i:Int) - 1) 13).length]=z7 at tw ⊢
  generalize E9 isP [.agg (encX s),.int .i64 ((i:Int) - 1)]=c1;generalize E9 M5 [.agg (encX s),.int .i64 ((i:Int) - 1)]=c2;generalize E9 live [.agg (encX s),.int .i64 ((i:Int) - 1)]=c3;generalize C2 M8 [.agg (encX s),.int .i64 ((i:Int) - 1)]=d1;generalize C2 M7 [.agg (encX s),.int .i64 ((i:Int) - 1)]=d2;generalize C2 M9 [.agg (encX s),.int .i64 ((i:Int) - 1)]=d3;generalize C2 M6 [.agg (encX s),.int .i64 ((i:Int) - 1)]=d4;generalize C2 M4 [.agg (encX s),.int .i64 ((i:Int) - 1)]=d5;rw [hS G];generalize Nl s lw=KH at lf ⊢;generalize D2 1 (encX s)=K1 at lf ⊢
  generalize D1 15 (encX s)=K2 at lf ⊢;clear eX eY eL eN;subst o1 o2 k1 k2 k3 inS tw
  repeat' first
   | exact h14
   | exact rfl
   | assumption
   | exact bf _
   | (exact Or.inr (lf _ _ ew))
   | (subst_vars;rfl)
   | refine And.intro ?_ ?_
   | intro _
 ·have:i=16:=by have:=of_decide_eq_false h1;omega
  subst this;exact ⟨rfl,by simp [wk,vVs,vV,vR,vN,vI],rfl⟩
end Go.Am
