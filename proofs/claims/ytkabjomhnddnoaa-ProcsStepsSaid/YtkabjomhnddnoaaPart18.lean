/-
  Processes: the program's Copy. The document's sets: what its calls do.
-/
import Derived.Test.YtkabjomhnddnoaaPart17
import Derived.Test.YtkabjomhnddnoaaPart11
import Derived.Test.YtkabjomhnddnoaaBase6
namespace Go.Am
open Go.Proofs Crc
set_option maxRecDepth 100000
theorem cJ {t:TS} (s:Ptb):L7 t s=(List.range 13).map fun n=>some (⟨1,A1 (setsL t.enc s) n⟩:Blk):=by
 unfold L7;refine List.map_congr_left fun n hn=>?_;rw [K9 (List.mem_range.1 hn)]
theorem hC (G:Nat→List AV) (s:Ptb) (k:Nat):vHp G (jT (.var 1 (encT 1 s)) (.var 2 (setsL encP s)) (.var 21 (encV (cpT s k) s)) (.var 22 (setsL encP (Dn s k))))=Ha tsP s k:=by
 unfold Ha P8;rw [←V3 (t:=tsP) (s:=s),cJ];rfl
theorem yM {s:Ptb} {k:Nat} (v:AV) (hv:∀ l,v≠.agg l):setPart (encV (cpT s k) s) (k*7+7) v=encV (fun j=>if j=k then v else cpT s k j) s:=V_ptr hv
theorem aG5 {s:Ptb} {k:Nat} (h:s.sg k=none):(fun j=>if j=k then AV.nilp else cpT s k j)=cpT s (k+1):=by
 funext j;unfold cpT;by_cases e:j=k
 ·subst e;rw [if_pos rfl,if_pos (by omega)];unfold B3;rw [h];rfl
 ·rw [if_neg e];by_cases f:j<k
  ·rw [if_pos f,if_pos (by omega)]
  ·rw [if_neg f,if_neg (by omega)]
theorem aG3 {s:Ptb} {k:Nat} (h:s.sg k=none):Dn s (k+1)=Dn s k:=by
 unfold Dn;congr 1;funext j;by_cases e:j=k
 ·subst e;rw [if_pos (by omega),if_neg (by omega),h]
 ·by_cases f:j<k
  ·rw [if_pos f,if_pos (by omega)]
  ·rw [if_neg f,if_neg (by omega)]
theorem rI {s:Ptb} {k:Nat} {m:Nat} (hm:28≤m):D7 m (Ha tsP s k)=true:=by
 unfold Ha;refine hpB_app (eV s (by omega)) ?_;unfold P8;have h1:A8 m (encV (cpT s k) s)=true:=tsP_ok.bnd m (cpT s k) s fun n hn=>rX hn (by omega)
 have h2:∀ l:List Nat,D7 m (l.map fun n=>some (⟨1,I4 encP ((Dn s k).sg n)⟩:Blk))=true:=fun l=>by
  induction l with
  | nil=>rfl
  | cons a l ih=>simp only [List.map_cons,D7,ih,Bool.and_true];exact Au tsP_ok _ _
 simp only [D7];rw [Bool.and_eq_true];exact ⟨h1,h2 _⟩
theorem aT8 {s:Ptb} {k:Nat} (hk:k<13) {p:Sg} (hp:s.sg k=some p) {H':Hp} (hH:H'=B0 tsP s++P8 tsP (fun j=>if j=k then .ptr (.rw 28) 0 else cpT s k j) s (Dn s k)++[some ⟨1,encP p⟩]) (n:Int) :
  C8 15 [.ptr (.rw 0) 0,.nilp,.ptr (.rw 14) 0,.int .i64 n] (Ha tsP s (k+1)) [.ptr (.rw 0) 0,.nilp,.ptr (.rw 14) 0,.int .i64 n] H':=by
 subst hH;have eg:∀ i,i<15→(if i=15+k then 28 else i)=i:=fun i hi=>if_neg (by omega);refine C8.fn (N:=28) (fun i=>if i=15+k then 28 else i) On (by omega) eg (fun i j hi hj h=>?_) (fun i hi=>?_) rfl ?_
 ·by_cases a:i=15+k
  ·by_cases b:j=15+k
   ·omega
   ·rw [if_pos a,if_neg b] at h;omega
  ·by_cases b:j=15+k
   ·rw [if_neg a,if_pos b] at h;omega
   ·rw [if_neg a,if_neg b] at h;exact h
 ·have th:∀ j,j<28→((List.range 28).map fun i=>if i=15+k then 28 else i).getD j 0=if j=15+k then 28 else j:=fun j hj=>Cp hj
  by_cases h14:i<14
  ·rw [show (if i=15+k then 28 else i)=i from if_neg (by omega)];unfold Ha;rw [List.append_assoc,List.getElem?_append_left (by rw [A9];exact h14),List.getElem?_append_left (by rw [A9];exact h14)];cases i with
   | zero=>
    refine ⟨_,_,rfl,rfl,rfl,tsP_ok.bnd 28 (B3 1 s) s fun n hn=>Bx (by omega),.inr ?_⟩;rw [tsP_ok.ren];refine tsP_ok.congr _ _ _ fun n hn=>?_;unfold B3 H5;split
    ·rfl
    ·simp only [ren];rw [th (1+n) (by omega),if_neg (by omega)]
   | succ n=>
    have hg:(B0 tsP s)[n+1]?=some (some ⟨1,I4 encP (s.sg n)⟩):=Do (by omega);refine ⟨_,_,hg,hg,rfl,Au tsP_ok _ _,.inr (Y8 tsP_ok _ _).symm⟩
  ·obtain ⟨j,rfl⟩:∃ j,i=14+j:=⟨i - 14,by omega⟩;unfold Ha;rw [List.getElem?_append_right (by rw [A9];omega),A9,show 14+j - 14=j by omega];cases j with
   | zero=>
    rw [show (if 14+0=15+k then 28 else 14+0)=14 from if_neg (by omega),List.append_assoc,List.getElem?_append_right (by rw [A9];omega),A9];refine ⟨_,_,rfl,rfl,rfl,tsP_ok.bnd 28 (cpT s (k+1)) s fun n hn=>rX hn (by omega),.inr ?_⟩;show encV (fun j=>if j=k then .ptr (.rw 28) 0 else cpT s k j) s=_;rw [show tsP.tb (cpT s (k+1)) s=encV (cpT s (k+1)) s from rfl,show rens ((List.range 28).map fun i=>if i=15+k then 28 else i) (encV (cpT s (k+1)) s)=tsP.tb _ s from tsP_ok.ren _ _ _];refine tsP_ok.congr _ _ _ fun n hn=>?_;by_cases e:n=k
    ·subst e;rw [if_pos rfl];unfold cpT;rw [if_pos (by omega)];unfold B3 H5;rw [hp];simp only [ren];rw [th _ (by omega),if_pos rfl]
    ·rw [if_neg e]
     have:cpT s (k+1) n=cpT s k n:=by
      unfold cpT;by_cases f:n<k
      ·rw [if_pos f,if_pos (by omega)]
      ·rw [if_neg f,if_neg (by omega)]
     rw [this];unfold cpT;split
     ·unfold B3 H5;split
      ·rfl
      ·simp only [ren];rw [th _ (by omega),if_neg (by omega)]
     ·unfold B3 H5;split
      ·rfl
      ·simp only [ren];rw [th _ (by omega),if_neg (by omega)]
   | succ n=>
    have hn:n<13:=by omega
    have hg:(P8 tsP (cpT s (k+1)) s (Dn s (k+1)))[n+1]?=some (some ⟨1,I4 encP ((Dn s (k+1)).sg n)⟩):=Do hn;by_cases e:n=k
    ·subst e;rw [show (if 14+(n+1)=15+n then 28 else 14+(n+1))=28 from if_pos (by omega)];refine ⟨_,⟨1,encP p⟩,hg,?_,rfl,Au tsP_ok _ _,.inr ?_⟩
     ·rw [List.getElem?_append_right (by rw [List.length_append,A9,Cg];omega),List.length_append,A9,Cg];rfl
     ·show encP p=rens _ (I4 encP _);rw [oT,if_pos rfl,hp];exact (Y8 tsP_ok (some p) _).symm
    ·rw [show (if 14+(n+1)=15+k then 28 else 14+(n+1))=14+(n+1) from if_neg (by omega)];rw [List.getElem?_append_left (by rw [List.length_append,A9,Cg];omega),List.getElem?_append_right (by rw [A9];omega),A9,show 14+(n+1) - 14=n+1 by omega];refine ⟨_,_,hg,Do hn,rfl,Au tsP_ok _ _,.inr ?_⟩;show I4 encP ((Dn s k).sg n)=rens _ (I4 encP _);rw [oT,if_neg e];exact (Y8 tsP_ok _ _).symm
 ·have t0:((List.range 28).map fun i=>if i=15+k then 28 else i).getD 0 0=0:=by rw [Cp (by omega),if_neg (by omega)]
  have t14:((List.range 28).map fun i=>if i=15+k then 28 else i).getD 14 0=14:=by rw [Cp (by omega),if_neg (by omega)]
  simp only [rens,ren,t0,t14];simp [wk]
theorem aT9 (G:Nat→List AV) (B:Nat) {s:Ptb} (hw:Wf s):AWp (⟨Try.prog,G,B⟩:A3) 15 (.loop (loopN Try.f12 0)) (fl 27 [0,2,3,11] [.ptr (.rw 0) 0,.nilp,.ptr (.rw 14) 0,.int .i64 0]) (Ha tsP s 0) (lv 27 [0,2,3,11] fun e vs H=>e=.exit 0∧wk [.undef,.undef,.ptr (.rw 14) 0,.undef] vs∧H=Ha tsP s 13):=by
  refine Ko 13 (fun i=>[.ptr (.rw 0) 0,.nilp,.ptr (.rw 14) 0,.int .i64 (i:Int)]) (Ha tsP s) fun k hk=>?_;rw [← hC G s k]
  refine E2 (C:=(⟨Try.prog,G,B⟩:A3)) (K:=Df Try.prog [(48,1,13)] [36,37,55] [(37,Sz N0)] [] 0) (fuel:=300) (n0:=20) (m:=15) (c:=loopN Try.f12 0) (vs:=[.ptr (.rw 0) (.lit 0),.nilp,.ptr (.rw 14) (.lit 0),.int .i64 (.ofN (.var 8 k))]) (H:=(jT (.var 1 (encT 1 s)) (.var 2 (setsL encP s)) (.var 21 (encV (cpT s k) s)) (.var 22 (setsL encP (Dn s k))))) (by rw [show loopsOf (loopN Try.f12 0)=[] by kernel_rfl];exact dgoodf (mix G B) (by kernel_rfl) (.cons (Xk (S0 G) (xC G B)) .nil) .nil) (by simp [jT]) ?_;rw [cp_b];have lt:(encV (cpT s k) s).length=92:=Vb _ _
  have hps:=uW (b:=1) (s:=s) (n:=k);refine ⟨fun h1=>?_,fun h1=>?_⟩
  · have hk':k<13:=by have:=of_decide_eq_true h1;omega
    have hpk:=hps hk';refine ⟨decide_eq_true (by omega),h1,fun h2=>⟨decide_eq_true (by omega),h1,A6.2 (by rw [lt];omega),hk',.inr ?_⟩,fun h2=>?_⟩
    · have hn:s.sg k=none:=by
        rw [Gk hpk] at h2;cases e:s.sg k with
        | none=>rfl
        | some p=>rw [e] at h2;cases h2
      rw [D9 (by omega),yM _ (by intro l h;cases h),aG5 hn]
      have e2:vHp G (jT (.var 1 (encT 1 s)) (.var 2 (setsL encP s)) (.var 21 (encV (cpT s (k+1)) s)) (.var 22 (setsL encP (Dn s k))))=Ha tsP s (k+1):=by
        rw [←hC G s (k+1),aG3 hn]
      have hv:∀ H',H'=Ha tsP s (k+1)→C8 15 [.ptr (.rw 0) 0,.nilp,.ptr (.rw 14) 0,.int .i64 ((k+1:Nat):Int)] (Ha tsP s (k+1)) [.ptr (.rw 0) 0,.nilp,.ptr (.rw 14) 0,.int .i64 ((k+1:Nat):Int)] H':=fun H' e=>by
        have hv:C8 15 [.ptr (.rw 0) 0,.nilp,.ptr (.rw 14) 0,.int .i64 ((k+1:Nat):Int)] (Ha tsP s (k+1)) [.ptr (.rw 0) 0,.nilp,.ptr (.rw 14) 0,.int .i64 ((k+1:Nat):Int)] (Ha tsP s (k+1)++[]):=by
          refine C8.same (by rw [On];omega) (by rw [On];exact rI (by omega)) ?_;rw [On];exact ⟨⟨rfl,rfl⟩,⟨rfl,rfl⟩,⟨rfl,rfl⟩,⟨rfl,rfl⟩,trivial⟩
        rw [List.append_nil] at hv;rw [e];exact hv
      exact hv _ e2
    · cases e:s.sg k with
      | none=>rw [Gk hpk,e] at h2;cases h2
      | some p=>
        obtain ⟨f1,f2,f3,f4,f5⟩:=Aa hk' e;rw [f3,f4,f5];have es:subL (encP p) 0 19=encP p:=by unfold subL;rw [List.drop_zero,List.take_of_length_le (by rw [W5];omega)]
        rw [es];refine ⟨f2,A6.2 (by omega),D6 _ 13,rfl,fun _=>⟨A6.2 (by omega),D6 _ 13,A6.2 (by rw [W5];omega),Vc p,by rw [W5];rfl,decide_eq_true (by omega),h1,A6.2 (by rw [lt];omega),hk',.inr ?_⟩,fun h=>by cases h⟩;rw [D9 (by omega),yM _ (by intro l h;cases h)];refine aT8 hk' e ?_ _;unfold P8;rw [←V3 (t:=tsP) (s:=s),cJ];rfl
  · have hk13:k=13:=by have:=of_decide_eq_false h1;omega
    subst hk13;exact ⟨rfl,by simp [wk],hC G s 13⟩
theorem AWp.pads {C:A3} {m:Nat} {c:Code} {F:Fr} {Q:Post}:∀ (k:Nat) {H:Hp},m≤H.length→AWp C m c F (H++List.replicate k (some ⟨1,[]⟩)) Q→AWp C m c F H Q
 | 0,H,_,h=>by rw [List.replicate_zero,List.append_nil] at h;exact h
 | k+1,H,hm,h=>by
  refine AWp.nil 1 hm (W4 _) (Fq H) (AWp.pads k (by rw [List.length_append];omega) ?_);rw [List.append_assoc,List.singleton_append,←List.replicate_succ];exact h
theorem hC0 (G:Nat→List AV) (s:Ptb):vHp G (hp3 [some ⟨1,.var 1 (encT 1 s)⟩] (.var 2 (setsL encP s)) [some ⟨1,.var 1 (encT 1 s)⟩])++List.replicate 13 (some ⟨1,[]⟩)=Ha tsP s 0:=by
 have e:vHp G (hp3 [some ⟨1,.var 1 (encT 1 s)⟩] (.var 2 (setsL encP s)) [some ⟨1,.var 1 (encT 1 s)⟩])=B0 tsP s++[some ⟨1,encT 1 s⟩]:=by rw [←V3 (t:=tsP) (s:=s)];rfl
 rw [e,List.append_assoc];rfl
theorem aG4 (G:Nat→List AV) (B:Nat) {s:Ptb} (hw:Wf s):AWp (⟨Try.prog,G,B⟩:A3) 15 (.loop (loopN Try.f12 0)) (fl 27 [0,2,3,11] [.ptr (.rw 0) 0,.nilp,.ptr (.rw 14) 0,.int .i64 0]) (vHp G (hp3 [some ⟨1,.var 1 (encT 1 s)⟩] (.var 2 (setsL encP s)) [some ⟨1,.var 1 (encT 1 s)⟩])) (lv 27 [0,2,3,11] (LOut.post G 15 (.one (.exit 0) [.undef,.undef,.ptr (.rw 14) (.lit 0),.undef] (jT (.var 1 (encT 1 s)) (.var 2 (setsL encP s)) (.var 21 (encV (cpT s 13) s)) (.var 22 (setsL encP (Dn s 13))))))):=by
 refine AWp.pads 13 (by rw [C0];exact Nat.le_refl 15) ?_;rw [hC0];refine (aT9 G B hw).lmono ?_;rintro ex vs H ⟨rfl,h1,rfl⟩;exact ⟨rfl,.inl ⟨h1,(hC G s 13).symm⟩⟩
theorem cp13 {t:TS} (ht:O7 t) {s:Ptb}:P8 t (cpT s 13) s (Dn s 13)=P8 t (B3 15 s) s s:=by
 unfold P8;rw [wB,ht.congr (cpT s 13) (B3 15 s) s fun n hn=>by unfold cpT;rw [if_pos hn]]
theorem uH (b:Nat) (s:Ptb):cellsB (encT b s)=true:=by
 unfold cellsB encT U0;simp only [List.all_cons,Bool.and_eq_true,List.all_eq_true,List.mem_map];refine ⟨rfl,?_⟩;rintro x ⟨j,_,rfl⟩
 have h:∀ k,isCell (fcell (s.at_ (j / 7)) (H5 b (j / 7) (s.sg (j / 7))) k)=true:=fun k=>by
  match k with
  | 0 | 1 | 2 | 3 | 4 | 5=>rfl
  | k+6=>show isCell (H5 b (j / 7) (s.sg (j / 7)))=true;cases s.sg (j / 7)<;>rfl
 exact h _
theorem aQ5 (G:Nat→List AV) (B:Nat) {s:Ptb} (hw:Wf s):ACalls (⟨Try.prog,G,B⟩:A3) 12 [.ptr (.rw 0) 0] (B0 tsP s) fun v H'=>v=.ptr (.rw 14) 0∧H'=B0 tsP s++P8 tsP (B3 15 s) s s:=by
 have h:=D3 (C:=(⟨Try.prog,G,B⟩:A3)) (K:=Df Try.prog [] [36,37,55] [] [E5 2360 (G5 [.ptr (.rw 0) 0,.nilp,.ptr (.rw 14) 0,.int .i64 0] (vHp G (hp3 [some ⟨1,.var 1 (encT 1 s)⟩] (.var 2 (setsL encP s)) [some ⟨1,.var 1 (encT 1 s)⟩]))) 0 27 [0,2,3,11] (.one (.exit 0) [.undef,.undef,.ptr (.rw 14) (.lit 0),.undef] (jT (.var 1 (encT 1 s)) (.var 2 (setsL encP s)) (.var 21 (encV (cpT s 13) s)) (.var 22 (setsL encP (Dn s 13)))))] 15) (fuel:=300) (n0:=20) (f:=12) (fn:=Try.f12) (args:=[.ptr (.rw 0) (.lit 0)]) (H:=(hp3 [some ⟨1,.var 1 (encT 1 s)⟩] (.var 2 (setsL encP s)) [])) (keep:=28)
  (R:=fun v H=>v=.ptr (.rw 14) 0∧H=Ha tsP s 13) (dgoodf (mix G B) (by kernel_rfl) .nil (.cast (.cons (i:=0) (by kernel_rfl) rfl (N5 rfl (aG4 G B hw)) .nil) (by kernel_rfl))) (by kernel_rfl) (by kernel_rfl) (by kernel_rfl) (by
  have:=cp_c G (G5 [.ptr (.rw 0) 0,.nilp,.ptr (.rw 14) 0,.int .i64 0] (vHp G (hp3 [some ⟨1,.var 1 (encT 1 s)⟩] (.var 2 (setsL encP s)) [some ⟨1,.var 1 (encT 1 s)⟩]))) (encT 1 s) (setsL encP s) (encV (cpT s 13) s) (setsL encP (Dn s 13)) (fun _ _ _=>False) (fun v H=>v=.ptr (.rw 14) 0∧H=Ha tsP s 13)
  have es:subL (encT 1 s) 0 92=encT 1 s:=by unfold subL;rw [List.drop_zero,List.take_of_length_le (by rw [Q8];omega)]
  rw [es] at this
  exact Eq.mpr this ⟨rfl,fun _=>⟨A6.2 (by rw [Q8];omega),uH 1 s,by rw [Q8];rfl,F5,rfl,hC G s 13⟩,fun h=>by cases h⟩)
 rw [hT] at h;have e:Ha tsP s 13=B0 tsP s++P8 tsP (B3 15 s) s s:=by unfold Ha;rw [cp13 tsP_ok]
 rw [←e];refine ACalls.keep (k:=28) h ?_ ?_ rfl (by simp)
 ·rw [On,A9];omega
 ·rw [On];exact rI (by omega)
end Go.Am
namespace Go.Am
open Go.Proofs Crc
set_option maxRecDepth 100000
theorem aN (G:Nat→List AV) (B:Nat):I9 (⟨Try.prog,G,B⟩:A3) (Dc Try.prog [] [] [] 0) []:=dgood (mix G B) (by kernel_rfl) .nil .nil
theorem t34 (G:Nat→List AV) (cs:List AV) (n:Int) (Q:Ex→List AV→Hp→Prop) (R:AV→Hp→Prop):vT G Q R (D0 (Dc Try.prog [] [] [] 0) 200 10 Try.f71 [.ptr (.rw 0) (.lit 0),.int .i64 (.var 2 n)] [some ⟨1,.uf 1002 B1 [.agg (.var 1 cs)]⟩] 1)=(
  (decide ((n:Int)<0)=true→R (.int .i64 (2)) [some ⟨1,(B1 [.agg cs])⟩])∧(decide ((n:Int)<0)=false→(decide ((n:Int)>15)=true→R (.int .i64 (2)) [some ⟨1,(B1 [.agg cs])⟩])∧(decide ((n:Int)>15)=false→(decide ((n:Int)>0)=true→decide ((0:Int)≤n)=true∧decide ((n:Int)<16)=true∧leB (Int.toNat (n)+1) (List.length (B1 [.agg cs]))=true∧R (.int .i64 (0)) [some ⟨1,(setPart (B1 [.agg cs]) (Int.toNat (n)) (.bool (true)))⟩])∧(decide ((n:Int)>0)=false→R (.int .i64 (0)) [some ⟨1,(B1 [.agg cs])⟩])))):=by kernel_rfl
theorem t36 (G:Nat→List AV) (cs:List AV) (n a:Int) (Q:Ex→List AV→Hp→Prop) (R:AV→Hp→Prop):vT G Q R (D0 (Dc Try.prog [] [] [] 0) 200 10 Try.f74 [.ptr (.rw 0) (.lit 0),.int .i64 (.var 2 n),.int .i64 (.var 3 a)] [some ⟨1,.uf 1002 B1 [.agg (.var 1 cs)]⟩] 1)=(
  (decide ((n:Int)<2)=true→R (.tup [.int .i64 (0),.int .i64 (2)]) [some ⟨1,(B1 [.agg cs])⟩])∧(decide ((n:Int)<2)=false→(decide ((n:Int)>15)=true→R (.tup [.int .i64 (0),.int .i64 (2)]) [some ⟨1,(B1 [.agg cs])⟩])∧(decide ((n:Int)>15)=false→(decide ((a:Int)<0)=true→R (.tup [.int .i64 (0),.int .i64 (2)]) [some ⟨1,(B1 [.agg cs])⟩])∧(decide ((a:Int)<0)=false→(decide ((a:Int)>4294967295)=true→R (.tup [.int .i64 (0),.int .i64 (2)]) [some ⟨1,(B1 [.agg cs])⟩])∧(decide ((a:Int)>4294967295)=false→decide ((0:Int)≤n)=true∧decide ((n:Int)<16)=true∧isI .u32 (B1 [.agg cs]) (Int.toNat (n)+32)=true∧decide ((0:Int)≤n)=true∧decide ((n:Int)<16)=true∧leB (Int.toNat (n)+33) (List.length (B1 [.agg cs]))=true∧R (.tup [.int .i64 (IntKind.wrap .i64 (A0 (B1 [.agg cs]) (Int.toNat (n)+32))),.int .i64 (0)]) [some ⟨1,(setPart (B1 [.agg cs]) (Int.toNat (n)+32) (.int .u32 (IntKind.wrap .u32 (a))))⟩]))))):=by kernel_rfl
theorem t29 (G:Nat→List AV) (cs:List AV) (n:Int) (Q:Ex→List AV→Hp→Prop) (R:AV→Hp→Prop):vT G Q R (D0 (Dc Try.prog [] [] [] 0) 200 10 Try.f78 [.ptr (.rw 0) (.lit 0),.int .i64 (.var 2 n)] [some ⟨1,.uf 1002 B1 [.agg (.var 1 cs)]⟩] 1)=(
  (decide ((n:Int)<1)=true→R (.tup [.int .u32 (0),.bool (false)]) [some ⟨1,(B1 [.agg cs])⟩])∧(decide ((n:Int)<1)=false→(decide ((n:Int)>15)=true→R (.tup [.int .u32 (0),.bool (false)]) [some ⟨1,(B1 [.agg cs])⟩])∧(decide ((n:Int)>15)=false→decide ((0:Int)≤n)=true∧decide ((n:Int)<16)=true∧isI .u32 (B1 [.agg cs]) (Int.toNat (n)+32)=true∧R (.tup [.int .u32 (A0 (B1 [.agg cs]) (Int.toNat (n)+32)),.bool (true)]) [some ⟨1,(B1 [.agg cs])⟩]))):=by kernel_rfl
theorem t39 (G:Nat→List AV) (cs:List AV) (Q:Ex→List AV→Hp→Prop) (R:AV→Hp→Prop):vT G Q R (D0 (Dc Try.prog [] [] [] 0) 200 10 Try.f68 [.ptr (.rw 0) (.lit 0)] [some ⟨1,.uf 1002 B1 [.agg (.var 1 cs)]⟩] 2)=(
  leB (32) (List.length (B1 [.agg cs]))=true∧leB (48) (List.length (B1 [.agg cs]))=true∧Nat.beq (List.length (subL (B1 [.agg cs]) (16) (16))) (16)=true∧Nat.beq (List.length (subL (B1 [.agg cs]) (32) (16))) (16)=true∧leB (48) (List.length (setPart ([.bool (false),.bool (false),.bool (false),.bool (false),.bool (false),.bool (false),.bool (false),.bool (false),.bool (false),.bool (false),.bool (false),.bool (false),.bool (false),.bool (false),.bool (false),.bool (false),.bool (false),.bool (false),.bool (false),.bool (false),.bool (false),.bool (false),.bool (false),.bool (false),.bool (false),.bool (false),.bool (false),.bool (false),.bool (false),.bool (false),.bool (false),.bool (false),.int .u32 (0),.int .u32 (0),.int .u32 (0),.int .u32 (0),.int .u32 (0),.int .u32 (0),.int .u32 (0),.int .u32 (0),.int .u32 (0),.int .u32 (0),.int .u32 (0),.int .u32 (0),.int .u32 (0),.int .u32 (0),.int .u32 (0),.int .u32 (0)]:List AV) (16) (.agg (subL (B1 [.agg cs]) (16) (16)))))=true∧
 R (.ptr (.rw 1) (0)) [some ⟨1,(B1 [.agg cs])⟩,some ⟨1,(setPart (setPart ([.bool (false),.bool (false),.bool (false),.bool (false),.bool (false),.bool (false),.bool (false),.bool (false),.bool (false),.bool (false),.bool (false),.bool (false),.bool (false),.bool (false),.bool (false),.bool (false),.bool (false),.bool (false),.bool (false),.bool (false),.bool (false),.bool (false),.bool (false),.bool (false),.bool (false),.bool (false),.bool (false),.bool (false),.bool (false),.bool (false),.bool (false),.bool (false),.int .u32 (0),.int .u32 (0),.int .u32 (0),.int .u32 (0),.int .u32 (0),.int .u32 (0),.int .u32 (0),.int .u32 (0),.int .u32 (0),.int .u32 (0),.int .u32 (0),.int .u32 (0),.int .u32 (0),.int .u32 (0),.int .u32 (0),.int .u32 (0)]:List AV) (16) (.agg (subL (B1 [.agg cs]) (16) (16)))) (32) (.agg (subL (B1 [.agg cs]) (32) (16))))⟩]):=by kernel_rfl
theorem b31 (G:Nat→List AV) (cs ds:List AV) (i:Int) (n:Nat) (Q:Ex→List AV→Hp→Prop) (R:AV→Hp→Prop):vT G Q R (J6 (Dc Try.prog [] [] [] 0) 200 10 1 (loopN Try.f79 0) 22 [0,3,4] [.ptr (.rw 0) (.lit 0),.slice true (.rw 1) (.lit 0) (.var 4 n),.int .i64 (.var 2 i)] [some ⟨1,.var 1 cs⟩,some ⟨1,.var 3 ds⟩])=(
  (decide ((i:Int)≤15)=true→decide ((0:Int)≤i)=true∧decide ((i:Int)<16)=true∧isB cs (Int.toNat (i))=true∧(A5 cs (Int.toNat (i))=true→leB ((n+1)*8) (140737488355328)=true∧Nat.beq (List.length ds) (n)=true∧Q .normal [.ptr (.rw 0) (0),.slice true (.rw 3) (0) (n+1),.int .i64 (IntKind.wrap .i64 (i+1))] [some ⟨1,cs⟩,none,some ⟨1,([.int .i64 (i)]:List AV)⟩,some ⟨1,(ds++([.int .i64 (i)]:List AV))⟩])∧(A5 cs (Int.toNat (i))=false→Q .normal [.ptr (.rw 0) (0),.slice true (.rw 1) (0) (n),.int .i64 (IntKind.wrap .i64 (i+1))] [some ⟨1,cs⟩,some ⟨1,ds⟩]))∧(decide ((i:Int)≤15)=false→Q (.exit 0) [.ptr (.rw 0) (0),.slice true (.rw 1) (0) (n),.int .i64 (i)] [some ⟨1,cs⟩,some ⟨1,ds⟩])):=by kernel_rfl
theorem b33 (G:Nat→List AV) (cs:List AV) (x y i:Int) (Q:Ex→List AV→Hp→Prop) (R:AV→Hp→Prop):vT G Q R (J6 (Dc Try.prog [] [] [] 0) 200 10 1 (loopN Try.f81 0) 24 [0,3,4,5] [.ptr (.rw 0) (.lit 0),.int .i64 (.var 3 x),.int .i64 (.var 4 y),.int .i64 (.var 2 i)] [some ⟨1,.uf 1002 B1 [.agg (.var 1 cs)]⟩])=(
  (decide ((i:Int)≤15)=true→decide ((0:Int)≤i)=true∧decide ((i:Int)<16)=true∧isB (B1 [.agg cs]) (Int.toNat (i)+16)=true∧(A5 (B1 [.agg cs]) (Int.toNat (i)+16)=true→Q .normal [.ptr (.rw 0) (0),.int .i64 (IntKind.wrap .i64 (x+y)),.int .i64 (IntKind.wrap .i64 (2*y)),.int .i64 (IntKind.wrap .i64 (i+1))] [some ⟨1,(B1 [.agg cs])⟩])∧(A5 (B1 [.agg cs]) (Int.toNat (i)+16)=false→Q .normal [.ptr (.rw 0) (0),.int .i64 (x),.int .i64 (IntKind.wrap .i64 (2*y)),.int .i64 (IntKind.wrap .i64 (i+1))] [some ⟨1,(B1 [.agg cs])⟩]))∧(decide ((i:Int)≤15)=false→Q (.exit 0) [.ptr (.rw 0) (0),.int .i64 (x),.int .i64 (y),.int .i64 (i)] [some ⟨1,(B1 [.agg cs])⟩])):=by kernel_rfl
theorem b35 (G:Nat→List AV) (cs:List AV) (a w i:Int) (Q:Ex→List AV→Hp→Prop) (R:AV→Hp→Prop):vT G Q R (J6 (Dc Try.prog [] [] [] 0) 200 10 1 (loopN Try.f72 0) 28 [0,1,6,7] [.ptr (.rw 0) (.lit 0),.int .i64 (.var 3 a),.int .i64 (.var 4 w),.int .i64 (.var 2 i)] [some ⟨1,.var 1 cs⟩])=(
  (decide ((i:Int)≤15)=true→decide ((0:Int)≤IntKind.wrap .u64 (i))=true∧decide ((0:Int)≤i)=true∧decide ((i:Int)<16)=true∧leB (Int.toNat (i)+17) (List.length cs)=true∧Q .normal [.ptr (.rw 0) (0),.int .i64 (a),.int .i64 (w),.int .i64 (IntKind.wrap .i64 (i+1))] [some ⟨1,(setPart cs (Int.toNat (i)+16) (.bool (((W1 .i64 (Hf .i64 (a) (IntKind.wrap .u64 (i))) (1):Int)==1))))⟩])∧(decide ((i:Int)≤15)=false→Q (.exit 0) [.ptr (.rw 0) (0),.int .i64 (a),.int .i64 (w),.int .i64 (i)] [some ⟨1,cs⟩])):=by kernel_rfl
theorem b37 (G:Nat→List AV) (cs:List AV) (i:Int) (Q:Ex→List AV→Hp→Prop) (R:AV→Hp→Prop):vT G Q R (J6 (Dc Try.prog [] [] [] 0) 200 10 1 (loopN Try.f75 0) 56 [0,2,3,4] [.ptr (.rw 0) (.lit 0),.ptr (.rw 1) (.lit 0),.bool (.lit false),.int .i64 (.var 2 i)] [some ⟨1,.var 1 cs⟩,some ⟨1,.of [.int .i64 (.lit 0),.bool (.lit false),.int .u32 (.lit 0)]⟩])=(
  (decide ((i:Int)≤15)=true→decide ((0:Int)≤i)=true∧decide ((i:Int)<16)=true∧isB cs (Int.toNat (i))=true∧(A5 cs (Int.toNat (i))=true→decide ((0:Int)≤i)=true∧decide ((i:Int)<16)=true∧isB cs (Int.toNat (i)+16)=true∧(A5 cs (Int.toNat (i)+16)=true→Q .normal [.ptr (.rw 0) (0),.ptr (.rw 1) (0),.bool (false),.int .i64 (IntKind.wrap .i64 (i+1))] [some ⟨1,cs⟩,some ⟨1,([.int .i64 (0),.bool (false),.int .u32 (0)]:List AV)⟩])∧(A5 cs (Int.toNat (i)+16)=false→decide ((0:Int)≤i)=true∧decide ((i:Int)<16)=true∧leB (Int.toNat (i)+1) (List.length cs)=true∧decide ((0:Int)≤i)=true∧decide ((i:Int)<16)=true∧isI .u32 (setPart cs (Int.toNat (i)) (.bool (false))) (Int.toNat (i)+32)=true∧(((A0 (setPart cs (Int.toNat (i)) (.bool (false))) (Int.toNat (i)+32):Int)==1)=true→Q .ret [.ptr (.rw 0) (0),.ptr (.rw 1) (0),.bool (false),.int .i64 (i)] [some ⟨1,(setPart cs (Int.toNat (i)) (.bool (false)))⟩,some ⟨1,([.int .i64 (0),.bool (false),.int .u32 (0)]:List AV)⟩])∧(((A0 (setPart cs (Int.toNat (i)) (.bool (false))) (Int.toNat (i)+32):Int)==1)=false→decide ((0:Int)≤i)=true∧decide ((i:Int)<16)=true∧isI .u32 (setPart cs (Int.toNat (i)) (.bool (false))) (Int.toNat (i)+32)=true∧decide ((0:Int)≤i)=true∧decide ((i:Int)<16)=true∧isI .u32 (setPart cs (Int.toNat (i)) (.bool (false))) (Int.toNat (i)+32)=true∧Q .ret [.ptr (.rw 0) (0),.ptr (.rw 1) (0),.bool (true),.int .i64 (i)] [some ⟨1,(setPart cs (Int.toNat (i)) (.bool (false)))⟩,some ⟨1,([.int .i64 (i),.bool (((A0 (setPart cs (Int.toNat (i)) (.bool (false))) (Int.toNat (i)+32):Int)==0)),.int .u32 (A0 (setPart cs (Int.toNat (i)) (.bool (false))) (Int.toNat (i)+32))]:List AV)⟩])))∧(A5 cs (Int.toNat (i))=false→
 Q .normal [.ptr (.rw 0) (0),.ptr (.rw 1) (0),.bool (false),.int .i64 (IntKind.wrap .i64 (i+1))] [some ⟨1,cs⟩,some ⟨1,([.int .i64 (0),.bool (false),.int .u32 (0)]:List AV)⟩]))∧(decide ((i:Int)≤15)=false→Q (.exit 0) [.ptr (.rw 0) (0),.ptr (.rw 1) (0),.bool (false),.int .i64 (i)] [some ⟨1,cs⟩,some ⟨1,([.int .i64 (0),.bool (false),.int .u32 (0)]:List AV)⟩])):=by kernel_rfl
theorem qM (G:Nat→List AV) (B:Nat):Xv (⟨Try.prog,G,B⟩:A3) 71 encR:=by
 intro p n;refine Z4.ofR (C:=(⟨Try.prog,G,B⟩:A3)) (rest:=[.int .i64 (.var 2 n)]) (aN G B) (by kernel_rfl) (by kernel_rfl) (by kernel_rfl) (fuel:=200) (n0:=10) (fn:=Try.f71) ?_;rw [t34,E3];refine ⟨fun h=>?_,fun h=>⟨fun h'=>?_,fun h'=>⟨fun h3=>⟨?_,?_,?_,?_⟩,fun h3=>?_⟩⟩⟩
 ·rw [Kr h];exact ⟨rfl,rfl⟩
 ·rw [Ks h'];exact ⟨rfl,rfl⟩
 all_goals
  have g1:=of_decide_eq_false h;have g2:=of_decide_eq_false h'
 ·exact decide_eq_true (by omega)
 ·exact decide_eq_true (by omega)
 ·exact Pr p _ (by omega)
 ·have g3:=of_decide_eq_true h3;rw [Fl h h'];refine ⟨rfl,?_⟩;simp only [Bool.false_eq_true,if_false,←r_send p n (by omega) (by omega)];rfl
 ·have g3:=of_decide_eq_false h3
  have:n=0:=by omega
  subst this;rw [Fl h h'];refine ⟨rfl,?_⟩;simp only [Bool.false_eq_true,if_false,aO5]
theorem wP (G:Nat→List AV) (B:Nat):bY (⟨Try.prog,G,B⟩:A3) 74 encR:=by
 intro p n a;refine Z4.ofR (C:=(⟨Try.prog,G,B⟩:A3)) (rest:=[.int .i64 (.var 2 n),.int .i64 (.var 3 a)]) (aN G B) (by kernel_rfl) (by kernel_rfl) (by kernel_rfl) (fuel:=200) (n0:=10) (fn:=Try.f74) ?_;rw [t36,E3];refine ⟨fun h=>?_,fun h=>⟨fun h'=>?_,fun h'=>⟨fun h3=>?_,fun h3=>⟨fun h4=>?_,fun h4=>?_⟩⟩⟩⟩
 ·rw [Kr h];exact ⟨rfl,rfl⟩
 ·rw [Ks h'];exact ⟨rfl,rfl⟩
 ·rw [Kr h3,Bool.or_true];exact ⟨rfl,rfl⟩
 ·rw [Ks h4,Bool.or_true];exact ⟨rfl,rfl⟩
 ·have g1:=of_decide_eq_false h;have g2:=of_decide_eq_false h';have a1:decide ((0:Int)≤n)=true:=decide_eq_true (by omega);have a2:decide ((n:Int)<16)=true:=decide_eq_true (by omega);refine ⟨a1,a2,tC p (by omega),a1,a2,Pr p _ (by omega),?_⟩;rw [Fl h h',Fl h3 h4,mI p (by omega),D9 (by have:=Sb (p.at_ n.toNat);omega)];refine ⟨rfl,?_⟩;simp only [Bool.or_self,Bool.false_eq_true,if_false,←aB5 p n a (by omega) (by omega)];rfl
theorem tD (G:Nat→List AV) (B:Nat):Xy (⟨Try.prog,G,B⟩:A3) 78 encR:=by
 intro p n;refine Z4.ofR (C:=(⟨Try.prog,G,B⟩:A3)) (rest:=[.int .i64 (.var 2 n)]) (aN G B) (by kernel_rfl) (by kernel_rfl) (by kernel_rfl) (fuel:=200) (n0:=10) (fn:=Try.f78) ?_;rw [t29,E3];refine ⟨fun h=>?_,fun h=>⟨fun h'=>?_,fun h'=>?_⟩⟩
 ·rw [Kr h];exact ⟨rfl,rfl⟩
 ·rw [Ks h'];exact ⟨rfl,rfl⟩
 ·have g1:=of_decide_eq_false h;have g2:=of_decide_eq_false h';refine ⟨decide_eq_true (by omega),decide_eq_true (by omega),tC p (by omega),?_⟩;rw [Fl h h',mI p (by omega)];exact ⟨rfl,rfl⟩
theorem xX (G:Nat→List AV) (B:Nat) (p:Sg):AWp (⟨Try.prog,G,B⟩:A3) 1 (.loop (loopN Try.f81 0)) (fl 24 [0,3,4,5] [.ptr (.rw 0) 0,.int .i64 0,.int .i64 1,.int .i64 0]) [some ⟨1,encR p⟩]
  (lv 24 [0,3,4,5] fun e vs H=>e=.exit 0∧wk [.ptr (.rw 0) 0,.int .i64 (u p.hd),.undef,.undef] vs∧H=[some ⟨1,encR p⟩]):=by
 refine Ci (fun j vs H=>∃ i:Nat,i≤16∧j=16 - i∧vs=[.ptr (.rw 0) 0,.int .i64 ((p.hd.toNat % 2^i:Nat):Int),.int .i64 ((2^i:Nat):Int),.int .i64 (i:Int)]∧H=[some ⟨1,encR p⟩]) 16
  ⟨0,by omega,rfl,by simp [Nat.mod_one],rfl⟩ ?_
 rintro j vs H ⟨i,hi,rfl,rfl,rfl⟩
 have:=E2 (C:=(⟨Try.prog,G,B⟩:A3)) (aN G B) (fuel:=200) (n0:=10) (m:=1) (c:=loopN Try.f81 0) (N:=24) (live:=[0,3,4,5]) (vs:=[.ptr (.rw 0) (.lit 0),.int .i64 (.var 3 ((p.hd.toNat % 2^i:Nat):Int)),.int .i64 (.var 4 ((2^i:Nat):Int)),.int .i64 (.var 2 (i:Int))]) (H:=[some ⟨1,.uf 1002 B1 [.agg (.var 1 (encP p))]⟩])
  (Q:=fun e vs' H'=>match e with
   | .normal=>∃ k',k'<16 - i∧((∃ i:Nat,i≤16∧k'=16 - i∧vs'=[.ptr (.rw 0) 0,.int .i64 ((p.hd.toNat % 2^i:Nat):Int),.int .i64 ((2^i:Nat):Int),.int .i64 (i:Int)]∧H'=[some ⟨1,encR p⟩])∨∃ vs'' H'',(∃ i:Nat,i≤16∧k'=16 - i∧vs''=[.ptr (.rw 0) 0,.int .i64 ((p.hd.toNat % 2^i:Nat):Int),.int .i64 ((2^i:Nat):Int),.int .i64 (i:Int)]∧H''=[some ⟨1,encR p⟩])∧C8 1 vs'' H'' vs' H')
   | e=>e=.exit 0∧wk [.ptr (.rw 0) 0,.int .i64 (u p.hd),.undef,.undef] vs'∧H'=[some ⟨1,encR p⟩]) (by simp) (by
  rw [b33,E3];have hlt:=hd_lt p;have hmod:p.hd.toNat % 2^i≤p.hd.toNat:=Nat.mod_le _ _;have hp:i≤15→2^i≤2^15:=fun h=>Nat.pow_le_pow_right (by omega) h;refine ⟨fun h=>?_,fun h=>?_⟩
  ·have h:=of_decide_eq_true h;have hp:=hp (by omega);rw [Int.toNat_natCast,wR p (by omega)];have es:=zS p.hd i
   have e2:IntKind.wrap .i64 (2*((2^i:Nat):Int))=((2^(i+1):Nat):Int):=by
    rw [D9 (by omega),Nat.pow_succ];omega
   refine ⟨decide_eq_true (by omega),decide_eq_true (by omega),r_isH p (by omega),fun hb=>?_,fun hb=>?_⟩
   ·rw [hb,if_pos rfl] at es;refine ⟨16 - (i+1),by omega,.inl ⟨i+1,by omega,rfl,?_,rfl⟩⟩;rw [e2,D9 (by omega),D9 (by omega),es];simp
   ·rw [hb] at es;refine ⟨16 - (i+1),by omega,.inl ⟨i+1,by omega,rfl,?_,rfl⟩⟩;rw [e2,D9 (by omega),es];simp
  ·have h:=of_decide_eq_false h
   have:i=16:=by omega
   subst this;refine ⟨rfl,?_,rfl⟩
   have:p.hd.toNat % 2^16=p.hd.toNat:=Nat.mod_eq_of_lt hlt
   rw [this]
   simp [wk];rfl)
 simp only [vVs,vV,vR,vN,vI,vHp,List.map_cons,List.map_nil,Option.map_some,C9,vL,E3] at this;exact this
def heldL:DL:=⟨0,24,[0,3,4,5],fun vs H=>match vs,H with
 | [.ptr (.rw 0) (.lit 0),.int .i64 (.lit 0),.int .i64 (.lit 1),.int .i64 (.lit 0)],[some ⟨1,l⟩]=>match Eh.get l with
  | some (b,d)=>some (.chk b (.one (.exit 0) [.ptr (.rw 0) (.lit 0),.int .i64 (.uf 1012 Eo [.agg d]),.undef,.undef] [some ⟨1,l⟩]))
  | none=>none
 | _,_=>none⟩
theorem aE6 (G:Nat→List AV) (B:Nat):O9 (⟨Try.prog,G,B⟩:A3) 1 (loopN Try.f81 0) heldL:=by
 refine .of fun vs H o ho n Q hQ=>?_;simp only [heldL] at ho;split at ho
 ·rename_i l;split at ho
  ·rename_i b d hg;simp only [Option.some.injEq] at ho;subst ho;obtain ⟨h1,h2⟩:=hQ;obtain ⟨p,e1,e2⟩:=(By G).get l b d hg h1;refine lone ?_ h2;simp only [heldL,vVs,vV,vR,vN,vI,vL,vHp,List.map_cons,List.map_nil,Option.map_some,C9];rw [e1,e2,Cy];exact xX G B _
  ·simp at ho
 ·simp at ho
theorem dgH (G:Nat→List AV) (B:Nat):I9 (⟨Try.prog,G,B⟩:A3) (Dc Try.prog [] [] [heldL] 1) (loopsOf (bodyOf Try.f81)):=dgood (mix G B) (by kernel_rfl) .nil (.cast (.cons (i:=0) (by kernel_rfl) rfl (aE6 G B) .nil) (by kernel_rfl))
theorem t33 (G:Nat→List AV) (cs:List AV) (Q:Ex→List AV→Hp→Prop) (R:AV→Hp→Prop):vT G Q R (D0 (Dc Try.prog [] [] [heldL] 1) 200 10 Try.f81 [.ptr (.rw 0) (.lit 0)] [some ⟨1,.uf 1002 B1 [.agg (.var 1 cs)]⟩] 1)=(
  okRU [.agg (B1 [.agg cs]),.agg cs]=true∧R (.int .i64 (Eo [.agg cs])) [some ⟨1,(B1 [.agg cs])⟩]):=by kernel_rfl
theorem qO (G:Nat→List AV) (B:Nat):pG (⟨Try.prog,G,B⟩:A3) 81 encR:=by
 intro p;refine Z4.ofR (C:=(⟨Try.prog,G,B⟩:A3)) (rest:=[]) (dgH G B) (by kernel_rfl) (by kernel_rfl) (by kernel_rfl) (fuel:=200) (n0:=10) (fn:=Try.f81) ?_;rw [t33,E3,Cy];exact ⟨Fo p,rfl,rfl⟩
def tR (p:Sg) (a:Int) (i:Nat):Nat→Bool:=fun j=>if 2≤j∧j<i then (V0 a).getLsbD j else p.hd.getLsbD j
def Vd (p:Sg) (a:Int) (i:Nat):List AV:=R4 (fun i=>p.wt.getLsbD i) (tR p a i) p.at_
theorem encM_0 (p:Sg) (a:Int):Vd p a 2=encR p:=Bv (fun _ _=>rfl) (fun j _=>by simp only [tR];rw [if_neg (by omega)]) (fun _ _=>rfl)
theorem aT2 (p:Sg) (a:Int):Vd p a 16=encR (Po p a):=by
 refine Bv (fun _ _=>rfl) (fun j hj=>?_) (fun _ _=>rfl);show _=(V0 a &&& 65532#32).getLsbD j;rw [BitVec.getLsbD_and,m32 j hj];simp only [tR];by_cases h:2≤j
 ·rw [if_pos ⟨h,hj⟩,decide_eq_true h,Bool.and_true]
 ·rw [if_neg (by omega),hd01 p (by omega),decide_eq_false h,Bool.and_false]
theorem yG (p:Sg) (a:Int) (i:Nat) (h1:2≤i) (h2:i<16):(Vd p a i).set (i+16) (.bool ((V0 a).getLsbD i))=Vd p a (i+1):=by
 unfold Vd;rw [yH _ _ _ h2];refine Bv (fun _ _=>rfl) (fun j hj=>?_) (fun _ _=>rfl);simp only [To,tR];by_cases he:j=i
 ·subst he;rw [if_pos rfl,if_pos (by omega)]
 ·rw [if_neg he];by_cases h:2≤j∧j<i
  ·rw [if_pos h,if_pos (by omega)]
  ·rw [if_neg h,if_neg (by omega)]
theorem xK (G:Nat→List AV) (B:Nat) (p:Sg) (a w:Int):AWp (⟨Try.prog,G,B⟩:A3) 1 (.loop (loopN Try.f72 0)) (fl 28 [0,1,6,7] [.ptr (.rw 0) 0,.int .i64 a,.int .i64 w,.int .i64 2]) [some ⟨1,encR p⟩]
  (lv 28 [0,1,6,7] fun e vs H=>e=.exit 0∧wk [.ptr (.rw 0) 0,.int .i64 a,.int .i64 w,.undef] vs∧H=[some ⟨1,encR (Po p a)⟩]):=by
 refine Ci (fun j vs H=>∃ i:Nat,2≤i∧i≤16∧j=16 - i∧vs=[.ptr (.rw 0) 0,.int .i64 a,.int .i64 w,.int .i64 (i:Int)]∧H=[some ⟨1,Vd p a i⟩]) 14
  ⟨2,by omega,by omega,rfl,rfl,by rw [encM_0]⟩ ?_
 rintro j vs H ⟨i,hi1,hi2,rfl,rfl,rfl⟩;refine E2 (C:=(⟨Try.prog,G,B⟩:A3)) (aN G B) (fuel:=200) (n0:=10) (m:=1) (c:=loopN Try.f72 0) (vs:=[.ptr (.rw 0) (.lit 0),.int .i64 (.var 3 a),.int .i64 (.var 4 w),.int .i64 (.var 2 (i:Int))]) (H:=[some ⟨1,.var 1 (Vd p a i)⟩]) (by simp) ?_;rw [b35];refine ⟨fun h=>?_,fun h=>?_⟩
 ·have h:=of_decide_eq_true h;rw [bit64 a i (by omega),Int.toNat_natCast];refine ⟨decide_eq_true (by rw [IntKind.wrap_u64];omega),decide_eq_true (by omega),decide_eq_true (by omega),A6.2 (by unfold Vd;rw [Rr];omega),?_⟩;refine ⟨16 - (i+1),by omega,.inl ⟨i+1,by omega,by omega,rfl,by rw [D9 (by omega)];rfl,?_⟩⟩;show [some (⟨1,(Vd p a i).set (i+16) (.bool ((V0 a).getLsbD i))⟩:Blk)]=_;rw [yG p a i hi1 (by omega)]
 ·have h:=of_decide_eq_false h
  have:i=16:=by omega
  subst this;exact ⟨rfl,by simp [wk],by rw [aT2]⟩
def maskL:DL:=⟨0,28,[0,1,6,7],fun vs H=>match vs,H with
 | [.ptr (.rw 0) (.lit 0),.int .i64 a,.int .i64 w,.int .i64 (.lit 2)],[some ⟨1,l⟩]=>match Eh.get l with
  | some (b,d)=>some (.chk b (.one (.exit 0) [.ptr (.rw 0) (.lit 0),.int .i64 a,.int .i64 w,.undef] [some ⟨1,Eh.put (.uf 1011 Gs [.agg d,.int .i64 a])⟩]))
  | none=>none
 | _,_=>none⟩
theorem aD3 (G:Nat→List AV) (B:Nat):O9 (⟨Try.prog,G,B⟩:A3) 1 (loopN Try.f72 0) maskL:=by
 refine .of fun vs H o ho n Q hQ=>?_;simp only [maskL] at ho;split at ho
 ·rename_i a w l;split at ho
  ·rename_i b d hg;simp only [Option.some.injEq] at ho;subst ho;obtain ⟨h1,h2⟩:=hQ;obtain ⟨p,e1,e2⟩:=(By G).get l b d hg h1;refine lone ?_ h2;simp only [maskL,vVs,vV,vR,vN,vI,vHp,List.map_cons,List.map_nil,Option.map_some,C9];rw [(By G).put _ (Po p (vI G a)) (by simp only [vL,vVs,vV,e1,It]),e2];exact xK G B _ _ _
  ·simp at ho
 ·simp at ho
theorem dgMr (G:Nat→List AV) (B:Nat):I9 (⟨Try.prog,G,B⟩:A3) (Dc Try.prog [] [(81,dR Eh)] [maskL] 1) (loopsOf (bodyOf Try.f72)):=dgood (mix G B) (by kernel_rfl) (.cons (bI (By _) (qO G B)) .nil) (.cast (.cons (i:=0) (by kernel_rfl) rfl (aD3 G B) .nil) (by kernel_rfl))
theorem t35 (G:Nat→List AV) (cs:List AV) (n:Int) (Q:Ex→List AV→Hp→Prop) (R:AV→Hp→Prop):vT G Q R (D0 (Dc Try.prog [] [(81,dR Eh)] [maskL] 1) 200 10 Try.f72 [.ptr (.rw 0) (.lit 0),.int .i64 (.var 2 n)] [some ⟨1,.uf 1002 B1 [.agg (.var 1 cs)]⟩] 1)=(
  okRU [.agg (B1 [.agg cs]),.agg cs]=true∧okRU [.agg (B1 [.agg cs]),.agg cs]=true∧R (.tup [.int .i64 (Eo [.agg cs]),.int .i64 (0)]) [some ⟨1,(B1 [.agg (Gs [.agg cs,.int .i64 (n)])])⟩]):=by kernel_rfl
theorem aO8 (G:Nat→List AV) (B:Nat):fE (⟨Try.prog,G,B⟩:A3) 72 encR:=by
 intro p n;refine Z4.ofR (C:=(⟨Try.prog,G,B⟩:A3)) (rest:=[.int .i64 (.var 2 n)]) (dgMr G B) (by kernel_rfl) (by kernel_rfl) (by kernel_rfl) (fuel:=200) (n0:=10) (fn:=Try.f72) ?_;rw [t35,E3,Cy,It,E3];exact ⟨Fo p,Fo p,rfl,rfl⟩
theorem aN7 (G:Nat→List AV) (B:Nat) (p:Sg):AWp (⟨Try.prog,G,B⟩:A3) 1 (.loop (loopN Try.f79 0)) (fl 22 [0,3,4] [.ptr (.rw 0) 0,.slice true (.rw 1) 0 0,.int .i64 1]) [some ⟨1,encR p⟩,some ⟨1,[]⟩]
  (lv 22 [0,3,4] fun e vs H=>e=.exit 0∧wk [.ptr (.rw 0) 0,.slice true (.rw 1) 0 (Ao p.wt).length,.undef] vs∧H=[some ⟨1,encR p⟩,some ⟨1,nl (Ao p.wt)⟩]):=by
 refine Ci (fun j vs H=>∃ i:Nat,i≤15∧j=15 - i∧vs=[.ptr (.rw 0) 0,.slice true (.rw 1) 0 (Q4 p.wt i).length,.int .i64 ((i+1:Nat):Int)]∧H=[some ⟨1,encR p⟩,some ⟨1,nl (Q4 p.wt i)⟩]) 15
  ⟨0,by omega,rfl,rfl,rfl⟩ ?_
 rintro j vs H ⟨i,hi,rfl,rfl,rfl⟩
 refine E2 (C:=(⟨Try.prog,G,B⟩:A3)) (aN G B) (fuel:=200) (n0:=10) (m:=1) (c:=loopN Try.f79 0) (vs:=[.ptr (.rw 0) (.lit 0),.slice true (.rw 1) (.lit 0) (.var 4 (Q4 p.wt i).length),.int .i64 (.var 2 ((i+1:Nat):Int))])
  (H:=[some ⟨1,.var 1 (encR p)⟩,some ⟨1,.var 3 (nl (Q4 p.wt i))⟩]) (by simp) ?_
 rw [b31];have hlen:=Vp p.wt i;refine ⟨fun h=>?_,fun h=>?_⟩
 ·have h:=of_decide_eq_true h;rw [Int.toNat_natCast,wQ p (by omega)];refine ⟨decide_eq_true (by omega),decide_eq_true (by omega),r_isW p (by omega),fun hb=>⟨A6.2 (by omega),by rw [Qr];exact Nat.beq_refl _,?_⟩,fun hb=>?_⟩
  ·have hs:Q4 p.wt (i+1)=Q4 p.wt i++[i+1]:=by rw [Lr,hb];rfl
   refine ⟨15 - (i+1),by omega,.inr ⟨_,_,⟨i+1,by omega,rfl,rfl,rfl⟩,?_⟩⟩;rw [hs];refine C8.renM (θ:=[0,3]) (by simp) oG (by decide) ⟨⟨U6 _ _,by rw [E0 _ _ (U6 0 p)];rfl⟩,⟨L3 _ _,by rw [Oi,Qs];rfl⟩,trivial⟩ (by simp [A8,bnd]) ?_;have e5:=D9 (n:=((i+1:Nat):Int)+1) (by omega);simp [rens,ren,wk] at e5 ⊢;exact e5
  ·have hs:Q4 p.wt (i+1)=Q4 p.wt i:=by rw [Lr,hb];simp
   refine ⟨15 - (i+1),by omega,.inl ⟨i+1,by omega,rfl,by rw [D9 (by omega),hs];rfl,by rw [hs]⟩⟩
 ·have h:=of_decide_eq_false h
  have:i=15:=by omega
  subst this;exact ⟨rfl,by simp [wk,Ao,Q4],rfl⟩
def rpL:DL:=⟨0,22,[0,3,4],fun vs H=>match vs,H with
 | [.ptr (.rw 0) (.lit 0),.nils,.int .i64 (.lit 1)],[some ⟨1,l⟩]=>match Eh.get l with
  | some (b,d)=>some (.chk b (.one (.exit 0) [.ptr (.rw 0) (.lit 0),.slice true (.rw 1) (.lit 0) (.uf 1021 Fj [.agg d]),.undef] [some ⟨1,l⟩,some ⟨1,.uf 1020 Jm [.agg d]⟩]))
  | none=>none
 | _,_=>none⟩
theorem rpL_ok (G:Nat→List AV) (B:Nat):O9 (⟨Try.prog,G,B⟩:A3) 1 (loopN Try.f79 0) rpL:=by
 refine .of fun vs H o ho n Q hQ=>?_;simp only [rpL] at ho;split at ho
 ·rename_i l;split at ho
  ·rename_i b d hg;simp only [Option.some.injEq] at ho;subst ho;obtain ⟨h1,h2⟩:=hQ;obtain ⟨p,e1,e2⟩:=(By G).get l b d hg h1;refine lone ?_ h2;simp only [rpL,vVs,vV,vR,vN,vI,vL,vHp,List.map_cons,List.map_nil,Option.map_some,C9];rw [e1,e2,Gm,Ir];exact AWp.nil (H:=[some ⟨1,encR _⟩]) 1 (by simp) (mW (vs:=[.ptr (.rw 0) 0,.slice true (.rw 1) 0 0,.int .i64 1]) ⟨.inl rfl,.inr ⟨rfl,rfl⟩,.inl rfl,trivial⟩) ⟨⟨rfl,W4 _⟩,trivial⟩ (aN7 G B _)
  ·simp at ho
 ·simp at ho
theorem dgQ (G:Nat→List AV) (B:Nat):I9 (⟨Try.prog,G,B⟩:A3) (Dc Try.prog [] [] [rpL] 1) (loopsOf (bodyOf Try.f79)):=dgood (mix G B) (by kernel_rfl) .nil (.cast (.cons (i:=0) (by kernel_rfl) rfl (rpL_ok G B) .nil) (by kernel_rfl))
theorem t31r (G:Nat→List AV) (cs:List AV) (Q:Ex→List AV→Hp→Prop) (R:AV→Hp→Prop):vT G Q R (D0 (Dc Try.prog [] [] [rpL] 1) 200 10 Try.f79 [.ptr (.rw 0) (.lit 0)] [some ⟨1,.uf 1002 B1 [.agg (.var 1 cs)]⟩] 2)=(
  okRU [.agg (B1 [.agg cs]),.agg cs]=true∧R (.slice true (.rw 1) (0) (Fj [.agg cs])) [some ⟨1,(B1 [.agg cs])⟩,some ⟨1,(Jm [.agg cs])⟩]):=by kernel_rfl
theorem aO6 (G:Nat→List AV) (B:Nat):Mb (⟨Try.prog,G,B⟩:A3) 79 encR (fun p=>.slice true (.rw 1) 0 (Ao p.wt).length) (fun p=>nl (Ao p.wt)):=by
 intro p;refine New.ofR (C:=(⟨Try.prog,G,B⟩:A3)) (dgQ G B) (by kernel_rfl) (by kernel_rfl) (by kernel_rfl) (L3 _ _) (by simp [bnd]) (by simp) (fuel:=200) (n0:=10) (fn:=Try.f79) ?_;rw [t31r,E3,Gm,Ir];exact ⟨Fo p,rfl,rfl⟩
end Go.Am
