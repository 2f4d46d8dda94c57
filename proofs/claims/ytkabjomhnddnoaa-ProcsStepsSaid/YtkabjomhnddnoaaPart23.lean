/-
  Processes: the document's End: its loops and the call. Processes: the document's Take: the call.
-/
import Derived.Test.YtkabjomhnddnoaaPart22
import Derived.Test.YtkabjomhnddnoaaPart21
import Derived.Test.YtkabjomhnddnoaaPart17
namespace Go.Am
open Go.Proofs Crc
set_option maxRecDepth 100000
theorem zQ (a:Int):Int.tmod (IntKind.wrap .i64 (Int.tmod a 256+256)) 256=a % 256:=by
 have h:-256<Int.tmod a 256∧Int.tmod a 256<256∧∃ q,a=Int.tmod a 256+256*q:=by
  refine ⟨?_,?_,⟨Int.tdiv a 256,(Int.tmod_add_mul_tdiv a 256).symm⟩⟩
  ·by_cases ha:0≤a
   ·have:=Int.tmod_nonneg 256 ha;omega
   ·have:=Int.tmod_nonneg 256 (a:=-a) (by omega)
    have h2:=Int.tmod_lt_of_pos (-a) (b:=256) (by omega);rw [Int.neg_tmod] at this h2;omega
  ·exact Int.tmod_lt_of_pos a (by omega)
 obtain ⟨h1,h2,q,h3⟩:=h;rw [D9 (by omega),Int.tmod_eq_emod_of_nonneg (by omega)];omega
section
variable {p:Nat→AV} {s:Ptb} {n:Nat}
theorem uT {k:Nat} (hn:n<13) (hk:k<6):(C3 p s)[n*6+k]?=some (fcell (s.at_ n) .undef k):=by
 unfold C3;rw [List.getElem?_append_left (by rw [I2];omega),R8 hn hk]
theorem W_num (hn:n<13):isI .i64 (C3 p s) (n*6)=true∧A0 (C3 p s) (n*6)=(s.at_ n).num:=by
 have:=uT (p:=p) (s:=s) (k:=0) hn (by omega)
 rw [Nat.add_zero] at this;simp [isI,A0,this,fcell]
theorem W_par (hn:n<13):isI .i64 (C3 p s) (n*6+1)=true∧A0 (C3 p s) (n*6+1)=(s.at_ n).par:=by simp [isI,A0,uT (p:=p) (s:=s) (k:=1) hn (by omega),fcell]
theorem W_en (hn:n<13):isB (C3 p s) (n*6+4)=true∧A5 (C3 p s) (n*6+4)=(s.at_ n).en:=by simp [isB,A5,uT (p:=p) (s:=s) (k:=4) hn (by omega),fcell]
theorem W_set {k:Nat} {v:AV} {x:Pc} (hn:n<13) (hk:k<6) (hv:∀ l,v≠.agg l) (hx:∀ j,j<6→fcell x .undef j=if j=k then v else fcell (s.at_ n) .undef j) :
  setPart (C3 p s) (n*6+k) v=C3 p (V7 s n x):=by
 rw [N6 hv];unfold C3;rw [List.set_append_left _ _ (by rw [I2];omega),Pb (by omega)];congr 1;refine O1 fun a j _ hj=>?_;show _=fcell (if a=n then x else s.at_ a) .undef j;by_cases e:a=n
 ·subst e;rw [if_pos rfl,hx j hj];by_cases e2:j=k
  ·rw [if_pos ⟨rfl,e2⟩,if_pos e2]
  ·rw [if_neg fun h=>e2 h.2,if_neg e2]
 ·rw [if_neg fun h=>e h.1,if_neg e]
end
theorem W_parU {s:Ptb} {q c:Nat} (hc:c<13):setPart (C3 (ptC s q) s) (c*6+1) (.int .i64 1)=C3 (ptC (Ph s c) q) (Ph s c):=
 W_set (p:=ptC s q) (n:=c) (k:=1) (s:=s) (x:={ s.at_ c with par:=1 }) hc (by omega) (by intro l h;cases h) fun j hj=>by
  match j,hj with
  | 0,_ | 1,_ | 2,_ | 3,_ | 4,_ | 5,_=>rfl
theorem aU5 {s:Ptb} {q c:Nat} (hc:c<13):setPart (setPart (C3 (ptC s q) s) (c*6) (.agg (M3 zc))) (c+78) .nilp=C3 (ptC (J2 s c) q) (J2 s c):=by
 rw [fB hc,kY hc (by intro l h;cases h)];show C3 _ _=C3 _ _;unfold C3;congr 1;refine List.map_congr_left fun a _=>?_;show (if a=c then AV.nilp else ptC s q a)=ptC (J2 s c) q a;unfold ptC;show _=match (if a=c then none else s.sg a) with | none=>AV.nilp | some _=>_
 by_cases e:a=c
 ·simp only [if_pos e]
 ·simp only [if_neg e];cases s.sg a<;>rfl
theorem aP7 {s:Ptb} {c:Nat}:∀ {l:List Nat},c ∉ l→(S3 s l).at_ c=s.at_ c:=by
 intro l
 induction l generalizing s with
 | nil=>intro _;rfl
 | cons x l ih=>
  intro h;simp only [List.mem_cons,not_or] at h
  have:=ih (s:=Ph s x) h.2
  show (S3 (Ph s x) l).at_ c=_;rw [this];show (if c=x then _ else s.at_ c)=_;rw [if_neg h.1]
theorem gR {s:Ptb} {c:Nat}:∀ {l:List Nat},c ∉ l→(N2 s l).at_ c=s.at_ c:=by
 intro l
 induction l generalizing s with
 | nil=>intro _;rfl
 | cons x l ih=>
  intro h;simp only [List.mem_cons,not_or] at h
  have:=ih (s:=Jw s x) h.2
  show (N2 (Jw s x) l).at_ c=_;rw [this];unfold Jw;split
  ·show (if c=x then zc else s.at_ c)=_;rw [if_neg h.1]
  ·rfl
theorem wX {s:Ptb} {l:List Nat} {c:Nat}:S3 s (l++[c])=Ph (S3 s l) c:=by
 unfold S3;rw [List.foldl_append];rfl
theorem jL {s:Ptb} {l:List Nat} {c:Nat}:N2 s (l++[c])=Jw (N2 s l) c:=by
 unfold N2;rw [List.foldl_append];rfl
theorem Uk {s:Ptb} {n:Int} {c:Nat}:c ∉ kidT s n c:=fun h=>absurd (Kx h).1 (by omega)
theorem rF {s:Ptb} (hw:Wf s) (n:Int):kidT s n 1=[]:=by
 show List.filter (S5 s n) [0]=[];rw [List.filter_cons_of_neg,List.filter_nil];unfold S5;rw [(hw.z 0 (.inl rfl)).1];simp [zc]
theorem Ps {s:Ptb} (hw:Wf s) {n:Int} (hn:1≤n) {c:Nat} (h1:1≤c):S5 s n c=true↔(s.at_ c).num=(c:Int)∧(s.at_ c).par=n:=by
 unfold S5 Bd;simp only [Bool.and_eq_true,decide_eq_true_eq,beq_iff_eq];constructor
 ·rintro ⟨a,_,b⟩;exact ⟨(hw.there (by omega)).1,b⟩
 ·rintro ⟨a,b⟩;exact ⟨by omega,hn,b⟩
theorem aF3 (G:Nat→List AV) (B:Nat) {s:Ptb} (hw:Wf s) (q:Nat) (sl z:List AV) {n:Int} (hn:1≤n):AWp (⟨Try.prog,G,B⟩:A3) 14 (.loop (loopN Try.f42 0)) (fl 117 [0,1,8] [.ptr (.rw 0) 0,.int .i64 n,.int .i64 1]) (vHp G (hp3 [some ⟨1,.var 1 (C3 (ptC s q) s)⟩] (.var 2 sl) [some ⟨1,.var 23 z⟩])) (lv 117 [0,1,8] (LOut.post G 14 (.one (.exit 0) [.ptr (.rw 0) (.lit 0),.undef,.undef] (hp3 [some ⟨1,.var 21 (C3 (ptC (S3 s (kidT s n 13)) q) (S3 s (kidT s n 13)))⟩] (.var 2 sl) [some ⟨1,.var 23 z⟩])))):=by
 have h0:vHp G (hp3 [some ⟨1,.var 1 (C3 (ptC s q) s)⟩] (.var 2 sl) [some ⟨1,.var 23 z⟩])=(fun i=>vHp G (hp3 [some ⟨1,.var 1 (C3 (ptC (S3 s (kidT s n (i+1))) q) (S3 s (kidT s n (i+1))))⟩] (.var 2 sl) [some ⟨1,.var 23 z⟩])) 0:=by
  show vHp G (hp3 [some ⟨1,.var 1 (C3 (ptC s q) s)⟩] (.var 2 sl) [some ⟨1,.var 23 z⟩])=vHp G (hp3 [some ⟨1,.var 1 (C3 (ptC (S3 s (kidT s n 1)) q) (S3 s (kidT s n 1)))⟩] (.var 2 sl) [some ⟨1,.var 23 z⟩]);rw [rF hw n];rfl
 rw [h0];refine Ko 12 (fun i=>[.ptr (.rw 0) 0,.int .i64 n,.int .i64 ((i+1:Nat):Int)]) (fun i=>vHp G (hp3 [some ⟨1,.var 1 (C3 (ptC (S3 s (kidT s n (i+1))) q) (S3 s (kidT s n (i+1))))⟩] (.var 2 sl) [some ⟨1,.var 23 z⟩])) fun i hi=>?_
 refine E2 (C:=(⟨Try.prog,G,B⟩:A3)) (K:=Dc Try.prog [] [] [] 0) (dgood (mix G B) (by kernel_rfl) .nil .nil) (fuel:=300) (n0:=40) (m:=14) (c:=loopN Try.f42 0)
  (vs:=[.ptr (.rw 0) (.lit 0),.int .i64 (.var 3 n),.int .i64 (.ofN (.var 8 (i+1)))]) (H:=(hp3 [some ⟨1,.var 1 (C3 (ptC (S3 s (kidT s n (i+1))) q) (S3 s (kidT s n (i+1))))⟩] (.var 2 sl) [some ⟨1,.var 23 z⟩])) (Nat.le_of_ble_eq_true rfl) ?_
 rw [eu_l0];refine ⟨fun h=>?_,fun h=>?_⟩
 ·have h12:i<12:=by have:=of_decide_eq_true h;omega
  have tn:=W_num (p:=ptC (S3 s (kidT s n (i+1))) q) (s:=S3 s (kidT s n (i+1))) (n:=i+1) (by omega);have tp:=W_par (p:=ptC (S3 s (kidT s n (i+1))) q) (s:=S3 s (kidT s n (i+1))) (n:=i+1) (by omega);rw [aP7 Uk] at tn tp;have d0:decide ((0:Int)≤((i+1:Nat):Int))=true:=decide_eq_true (by omega);have d13:decide (((i+1:Nat):Int)<13)=true:=decide_eq_true (by omega);have ew:IntKind.wrap .i64 (((i+1:Nat):Int)+1)=((i+1+1:Nat):Int):=by rw [D9 (by omega)];rfl
  have no:S5 s n (i+1)=false→kidT s n (i+1+1)=kidT s n (i+1):=fun h=>by
   rw [kidT_succ s n (i+1),h];simp
  rw [tn.2,tp.2,ew,W_parU (by omega)];refine ⟨d0,d13,tn.1,fun h1=>⟨d0,d13,tp.1,fun h2=>⟨d0,d13,A6.2 (by rw [Px];omega),h12,.inl ⟨rfl,?_⟩⟩,fun h2=>⟨h12,.inl ⟨rfl,?_⟩⟩⟩,fun h1=>⟨h12,.inl ⟨rfl,?_⟩⟩⟩
  ·have e:kidT s n (i+1+1)=kidT s n (i+1)++[i+1]:=by
    rw [kidT_succ s n (i+1),(Ps hw hn (by omega)).2 ⟨eq_of_beq h1,eq_of_beq h2⟩];rfl
   rw [e,wX];rfl
  ·rw [no]
   ·rfl
   ·cases e:S5 s n (i+1) with
    | false=>rfl
    | true=>
     have:=((Ps hw hn (by omega)).1 e).2
     rw [this,beq_self_eq_true] at h2;cases h2
  ·rw [no]
   ·rfl
   ·cases e:S5 s n (i+1) with
    | false=>rfl
    | true=>
     have:=((Ps hw hn (by omega)).1 e).1
     rw [this,beq_self_eq_true] at h1;cases h1
 ·have he:i=12:=by have:=of_decide_eq_false h;omega
  subst he;exact ⟨rfl,.inl ⟨by simp [wk,vVs,vV,vR,vN,vI],rfl⟩⟩
def O6 (s:Ptb) (l:List Nat):Ptb:=if (s.at_ 1).en=true then N2 s l else s
theorem aF2 (G:Nat→List AV) (B:Nat) {s:Ptb} (hw:Wf s) (q:Nat) (sl z:List AV):AWp (⟨Try.prog,G,B⟩:A3) 14 (.loop (loopN Try.f42 1)) (fl 117 [0,9] [.ptr (.rw 0) 0,.int .i64 1]) (vHp G (hp3 [some ⟨1,.var 1 (C3 (ptC s q) s)⟩] (.var 2 sl) [some ⟨1,.var 23 z⟩])) (lv 117 [0,9] (LOut.post G 14 (.one (.exit 2) [.ptr (.rw 0) (.lit 0),.undef] (hp3 [some ⟨1,.var 26 (C3 (ptC (O6 s (kidT s 1 13)) q) (O6 s (kidT s 1 13)))⟩] (.var 2 sl) [some ⟨1,.var 23 z⟩])))):=by
 have h0:vHp G (hp3 [some ⟨1,.var 1 (C3 (ptC s q) s)⟩] (.var 2 sl) [some ⟨1,.var 23 z⟩])=(fun i=>vHp G (hp3 [some ⟨1,.var 1 (C3 (ptC (O6 s (kidT s 1 (i+1))) q) (O6 s (kidT s 1 (i+1))))⟩] (.var 2 sl) [some ⟨1,.var 23 z⟩])) 0:=by
  have e:O6 s (kidT s 1 1)=s:=by rw [rF hw 1];unfold O6;split<;>rfl
  show vHp G (hp3 [some ⟨1,.var 1 (C3 (ptC s q) s)⟩] (.var 2 sl) [some ⟨1,.var 23 z⟩])=vHp G (hp3 [some ⟨1,.var 1 (C3 (ptC (O6 s (kidT s 1 1)) q) (O6 s (kidT s 1 1)))⟩] (.var 2 sl) [some ⟨1,.var 23 z⟩]);rw [e]
 rw [h0];refine Ko 12 (fun i=>[.ptr (.rw 0) 0,.int .i64 ((i+1:Nat):Int)]) (fun i=>vHp G (hp3 [some ⟨1,.var 1 (C3 (ptC (O6 s (kidT s 1 (i+1))) q) (O6 s (kidT s 1 (i+1))))⟩] (.var 2 sl) [some ⟨1,.var 23 z⟩])) fun i hi=>?_
 refine E2 (C:=(⟨Try.prog,G,B⟩:A3)) (K:=Dc Try.prog [69] [] [] 0) (dgood (mix G B) (by kernel_rfl) .nil .nil) (fuel:=300) (n0:=40) (m:=14) (c:=loopN Try.f42 1)
  (vs:=[.ptr (.rw 0) (.lit 0),.int .i64 (.ofN (.var 8 (i+1)))]) (H:=(hp3 [some ⟨1,.var 1 (C3 (ptC (O6 s (kidT s 1 (i+1))) q) (O6 s (kidT s 1 (i+1))))⟩] (.var 2 sl) [some ⟨1,.var 23 z⟩])) (Nat.le_of_ble_eq_true rfl) ?_
 rw [eu_l2]
 have at_:∀ c,c ∉ kidT s 1 (i+1)→(O6 s (kidT s 1 (i+1))).at_ c=s.at_ c:=fun c hc=>by
  unfold O6;split
  ·exact gR hc
  ·rfl
 have one:(1:Nat) ∉ kidT s 1 (i+1):=fun h=>Ul hw h rfl;refine ⟨fun h=>?_,fun h=>?_⟩
 ·have h12:i<12:=by have:=of_decide_eq_true h;omega
  have t1:=W_en (p:=ptC (O6 s (kidT s 1 (i+1))) q) (s:=(O6 s (kidT s 1 (i+1)))) (n:=1) (by omega);have tn:=W_num (p:=ptC (O6 s (kidT s 1 (i+1))) q) (s:=(O6 s (kidT s 1 (i+1)))) (n:=i+1) (by omega);have tp:=W_par (p:=ptC (O6 s (kidT s 1 (i+1))) q) (s:=(O6 s (kidT s 1 (i+1)))) (n:=i+1) (by omega);have te:=W_en (p:=ptC (O6 s (kidT s 1 (i+1))) q) (s:=(O6 s (kidT s 1 (i+1)))) (n:=i+1) (by omega);rw [at_ _ Uk] at tn tp te;rw [at_ _ one] at t1;have d0:decide ((0:Int)≤((i+1:Nat):Int))=true:=decide_eq_true (by omega);have d13:decide (((i+1:Nat):Int)<13)=true:=decide_eq_true (by omega)
  have ew:IntKind.wrap .i64 (((i+1:Nat):Int)+1)=((i+1+1:Nat):Int):=by rw [D9 (by omega)];rfl
  have er:=aU5 (s:=(O6 s (kidT s 1 (i+1)))) (q:=q) (c:=i+1) (by omega);have er1:=fB (p:=ptC (O6 s (kidT s 1 (i+1))) q) (n:=i+1) (s:=(O6 s (kidT s 1 (i+1)))) (x:=zc) (by omega);unfold M3 zc at er er1;have g1:A5 (C3 (ptC (O6 s (kidT s 1 (i+1))) q) (O6 s (kidT s 1 (i+1)))) 10=(s.at_ 1).en:=t1.2;rw [tn.2,tp.2,te.2,g1,ew,er,er1];refine ⟨t1.1,fun hE=>?_,fun hE=>?_⟩
  ·have no:S5 s 1 (i+1)=false∨(s.at_ (i+1)).en=false→O6 s (kidT s 1 (i+1+1))=(O6 s (kidT s 1 (i+1))):=fun h=>by
    cases hk:S5 s 1 (i+1) with
    | false=>rw [kidT_succ s 1 (i+1),hk];simp
    | true=>
     rcases h with h | h
     ·rw [hk] at h;cases h
     ·rw [kidT_succ s 1 (i+1),hk];unfold O6;rw [if_pos hE,if_pos hE];show N2 s (kidT s 1 (i+1)++[i+1])=_;rw [jL];unfold Jw;rw [if_neg];rw [gR Uk,h];simp
   have next:∀ e2:Ptb,O6 s (kidT s 1 (i+1+1))=e2→(i<12∧(([.ptr (.rw 0) 0,.int .i64 ((i+1+1:Nat):Int)]:List AV)=[.ptr (.rw 0) 0,.int .i64 ((i+1+1:Nat):Int)]∧([some (⟨1,C3 (ptC e2 q) e2⟩:Blk)]++(A2 sl++[some ⟨1,z⟩]))=vHp G (hp3 [some ⟨1,.var 1 (C3 (ptC (O6 s (kidT s 1 (i+1+1))) q) (O6 s (kidT s 1 (i+1+1))))⟩] (.var 2 sl) [some ⟨1,.var 23 z⟩]))):=fun e2 h=>⟨h12,rfl,by rw [h];rfl⟩;have nn:S5 s 1 (i+1)=false∨(s.at_ (i+1)).en=false→_:=fun h=>next _ (no h)
   have kb:¬((s.at_ (i+1)).num=((i+1:Nat):Int)∧(s.at_ (i+1)).par=1)→S5 s 1 (i+1)=false:=fun h=>by
    cases e:S5 s 1 (i+1) with
    | false=>rfl
    | true=>exact absurd ((Ps hw (by omega) (by omega)).1 e) h
   refine ⟨d0,d13,tn.1,fun h1=>⟨d0,d13,te.1,fun h2=>⟨d0,d13,tp.1,fun h3=>⟨d0,d13,A6.2 (by rw [Px];omega),d0,d13,A6.2 (by rw [Px];omega),?_⟩,fun h3=>?_⟩,fun h2=>?_⟩,fun h1=>?_⟩
   ·have e:O6 s (kidT s 1 (i+1+1))=J2 (O6 s (kidT s 1 (i+1))) (i+1):=by
     have hk:=(Ps hw (n:=1) (by omega) (c:=i+1) (by omega)).2 ⟨eq_of_beq h1,eq_of_beq h3⟩;rw [kidT_succ s 1 (i+1),hk];unfold O6;rw [if_pos hE,if_pos hE];show N2 s (kidT s 1 (i+1)++[i+1])=_;rw [jL];unfold Jw;rw [if_pos];rw [gR Uk,h2]
    exact ⟨(next _ e).1,.inl (next _ e).2⟩
   ·have h:=nn (.inl (kb fun hh=>by rw [hh.2,beq_self_eq_true] at h3;cases h3));exact ⟨h.1,.inl h.2⟩
   ·have h:=nn (.inr h2);exact ⟨h.1,.inl h.2⟩
   ·have h:=nn (.inl (kb fun hh=>by rw [hh.1,beq_self_eq_true] at h1;cases h1));exact ⟨h.1,.inl h.2⟩
  ·have e:∀ l,O6 s l=s:=fun l=>by unfold O6;rw [if_neg (by rw [hE];simp)]
   refine ⟨rfl,.inl ⟨by simp [wk,vVs,vV,vR,vN,vI],?_⟩⟩;rw [e,e];rfl
 ·have he:i=12:=by have:=of_decide_eq_false h;omega
  subst he;exact ⟨rfl,.inl ⟨by simp [wk,vVs,vV,vR,vN,vI],rfl⟩⟩
theorem aF8 {s:Ptb} {n:Nat} {a:Int} (hn:n<13):setPart (setPart (setPart (B2 1 s) (n*6+4) (.bool true)) (n*6+5) (.int .i64 (a % 256))) (n+78) (.ptr (.rw 14) 0)=C3 (ptC (Be s n a) n) (Be s n a):=by
 rw [eG,W_set (n:=n) (k:=4) (s:=s) (x:={ s.at_ n with en:=true }) hn (by omega) (by intro l h;cases h) (fun j hj=>by
  match j,hj with
  | 0,_ | 1,_ | 2,_ | 3,_ | 4,_ | 5,_=>rfl),W_set (n:=n) (k:=5) (x:={ s.at_ n with en:=true,st:=a % 256 }) hn (by omega) (by intro l h;cases h) (fun j hj=>by
  show _=if j=5 then _ else fcell (if n=n then _ else s.at_ n) .undef j
  rw [if_pos rfl]
  match j,hj with
  | 0,_ | 1,_ | 2,_ | 3,_ | 4,_ | 5,_=>rfl),kY hn (by intro l h;cases h)]
 unfold C3;congr 1
 ·refine O1 fun b j _ _=>?_;show fcell (if b=n then _ else if b=n then _ else s.at_ b) _ j=fcell (if b=n then _ else s.at_ b) _ j;by_cases e:b=n
  ·subst e;simp only [if_pos]
  ·simp only [if_neg e]
 ·refine List.map_congr_left fun b _=>?_;show (if b=n then _ else H5 1 b (s.sg b))=(match (if b=n then some (C4 (C1 s n)) else s.sg b) with | none=>AV.nilp | some _=>AV.ptr (.rw (if b=n then 14 else 1+b)) 0);by_cases e:b=n
  ·simp only [if_pos e]
  ·simp only [if_neg e];cases s.sg b<;>rfl
theorem wG {s s':Ptb} {n:Nat} {E:Hp} (h1:∀ j p,s'.sg j=some p→(if j=n then some (C4 (C1 s n)) else s.sg j)=some p) :
  Z3 tsR s' n 14 (some ⟨1,C3 (ptC s' n) s'⟩::((List.range 13).map (fun n=>some ⟨1,A1 (setsL encR s) n⟩)++(some ⟨1,encR (C4 (C1 s n))⟩::E))):=by
 refine ⟨by simp,rfl,fun j hj=>?_⟩;by_cases e:j=n
 ·rw [if_pos e];refine ⟨_,by rw [show (14:Nat)=13+1 from rfl,List.getElem?_cons_succ,List.getElem?_append_right (by simp),List.length_map,List.length_range];rfl,fun p hp=>?_⟩
  have:=h1 j p hp
  rw [if_pos e] at this;simp only [Option.some.injEq] at this;rw [this];rfl
 ·rw [if_neg e];refine ⟨A1 (setsL encR s) j,?_,fun p hp=>?_⟩
  ·rw [Nat.add_comm 1 j,List.getElem?_cons_succ,List.getElem?_append_left (by simpa using hj),List.getElem?_map,List.getElem?_range hj];rfl
  ·have:=h1 j p hp
   rw [if_neg e] at this;rw [K9 hj,this];rfl
theorem aF6 {s:Ptb} (hw:Wf s) {n:Int} (hl:live s n=true) (a:Int):Q7 s n a=(0,(O6 (B9 s n a) (kidT (B9 s n a) 1 13))):=by
 unfold Q7;rw [if_pos hl];have w2:=hw.endP hl a
 have e:live (B9 s n a) 1=!((B9 s n a).at_ 1).en:=by
  unfold live;rw [I0.2 ⟨by omega,by omega,w2.one.1⟩];rfl
 unfold O6;rw [e];cases ((B9 s n a).at_ 1).en<;>rfl
theorem dgEu (G:Nat→List AV) (B:Nat) {s:Ptb} (n a:Int) (q q':List AV→Bool) (h1:O9 (⟨Try.prog,G,B⟩:A3) 14 (loopN Try.f42 0) (E5 2376 q 0 117 [0,1,8] (.one (.exit 0) [.ptr (.rw 0) (.lit 0),.undef,.undef] (hp3 [some ⟨1,.var 21 (C3 (ptC (B9 s n a) n.toNat) (B9 s n a))⟩] (.var 2 (setsL encR s)) [some ⟨1,.var 23 (encR (C4 (C1 s n.toNat)))⟩])))) (h2:O9 (⟨Try.prog,G,B⟩:A3) 14 (loopN Try.f42 1) (E5 2377 q' 2 117 [0,9] (.one (.exit 2) [.ptr (.rw 0) (.lit 0),.undef] (hp3 [some ⟨1,.var 26 (C3 (ptC (O6 (B9 s n a) (kidT (B9 s n a) 1 13)) n.toNat) (O6 (B9 s n a) (kidT (B9 s n a) 1 13)))⟩] (.var 2 (setsL encR s)) [some ⟨1,.var 23 (encR (C4 (C1 s n.toNat)))⟩])))):I9 (⟨Try.prog,G,B⟩:A3) (Df Try.prog [(75,1,13)] [67,60] [(68,Bh W2)] [E5 2376 q 0 117 [0,1,8] (.one (.exit 0) [.ptr (.rw 0) (.lit 0),.undef,.undef] (hp3 [some ⟨1,.var 21 (C3 (ptC (B9 s n a) n.toNat) (B9 s n a))⟩] (.var 2 (setsL encR s)) [some ⟨1,.var 23 (encR (C4 (C1 s n.toNat)))⟩])),E5 2377 q' 2 117 [0,9] (.one (.exit 2) [.ptr (.rw 0) (.lit 0),.undef] (hp3 [some ⟨1,.var 26 (C3 (ptC (O6 (B9 s n a) (kidT (B9 s n a) 1 13)) n.toNat) (O6 (B9 s n a) (kidT (B9 s n a) 1 13)))⟩] (.var 2 (setsL encR s)) [some ⟨1,.var 23 (encR (C4 (C1 s n.toNat)))⟩]))] 14) (loopsOf (bodyOf Try.f42)):=by
 refine dgoodf (mix G B) (by kernel_rfl) (.cons (Nw (Fc G) (mJ G B)) .nil) ?_;rw [show loopsOf (bodyOf Try.f42)=[loopN Try.f42 0,loopN Try.f42 1] by kernel_rfl];exact .cons (i:=0) (by kernel_rfl) rfl h1 (.cons (i:=2) (by kernel_rfl) rfl h2 .nil)
theorem wS (G:Nat→List AV) (B:Nat) {s:Ptb} (hw:Wf s) (n a:Int) (q q':List AV→Bool) (g1:O9 (⟨Try.prog,G,B⟩:A3) 14 (loopN Try.f42 0) (E5 2376 q 0 117 [0,1,8] (.one (.exit 0) [.ptr (.rw 0) (.lit 0),.undef,.undef] (hp3 [some ⟨1,.var 21 (C3 (ptC (B9 s n a) n.toNat) (B9 s n a))⟩] (.var 2 (setsL encR s)) [some ⟨1,.var 23 (encR (C4 (C1 s n.toNat)))⟩])))) (g2:O9 (⟨Try.prog,G,B⟩:A3) 14 (loopN Try.f42 1) (E5 2377 q' 2 117 [0,9] (.one (.exit 2) [.ptr (.rw 0) (.lit 0),.undef] (hp3 [some ⟨1,.var 26 (C3 (ptC (O6 (B9 s n a) (kidT (B9 s n a) 1 13)) n.toNat) (O6 (B9 s n a) (kidT (B9 s n a) 1 13)))⟩] (.var 2 (setsL encR s)) [some ⟨1,.var 23 (encR (C4 (C1 s n.toNat)))⟩]))))
  (hq:live s n=true→q [.agg [.ptr (.rw 0) 0,.int .i64 n,.int .i64 1],.agg (U9 (vHp G (hp3 [some ⟨1,.var 1 (C3 (ptC (Be s n.toNat a) n.toNat) (Be s n.toNat a))⟩] (.var 2 (setsL encR s)) [some ⟨1,.var 23 (encR (C4 (C1 s n.toNat)))⟩])))]=true∧q' [.agg [.ptr (.rw 0) 0,.int .i64 1],.agg (U9 (vHp G (hp3 [some ⟨1,.var 1 (C3 (ptC (B9 s n a) n.toNat) (B9 s n a))⟩] (.var 2 (setsL encR s)) [some ⟨1,.var 23 (encR (C4 (C1 s n.toNat)))⟩])))]=true):ACalls (⟨Try.prog,G,B⟩:A3) 42 [.ptr (.rw 0) 0,.int .i64 n,.int .i64 a] (B0 tsR s) fun v H'=>v=.int .i64 (Q7 s n a).1∧H'=V2 tsR (Q7 s n a).2:=by
 have h:=D3 (C:=(⟨Try.prog,G,B⟩:A3)) (K:=Df Try.prog [(75,1,13)] [67,60] [(68,Bh W2)] [E5 2376 q 0 117 [0,1,8] (.one (.exit 0) [.ptr (.rw 0) (.lit 0),.undef,.undef] (hp3 [some ⟨1,.var 21 (C3 (ptC (B9 s n a) n.toNat) (B9 s n a))⟩] (.var 2 (setsL encR s)) [some ⟨1,.var 23 (encR (C4 (C1 s n.toNat)))⟩])),E5 2377 q' 2 117 [0,9] (.one (.exit 2) [.ptr (.rw 0) (.lit 0),.undef] (hp3 [some ⟨1,.var 26 (C3 (ptC (O6 (B9 s n a) (kidT (B9 s n a) 1 13)) n.toNat) (O6 (B9 s n a) (kidT (B9 s n a) 1 13)))⟩] (.var 2 (setsL encR s)) [some ⟨1,.var 23 (encR (C4 (C1 s n.toNat)))⟩]))] 14) (fuel:=300) (n0:=40) (f:=42) (fn:=Try.f42) (args:=[.ptr (.rw 0) (.lit 0),.int .i64 (.var 3 n),.int .i64 (.var 4 a)]) (H:=(hp3 [some ⟨1,.var 1 (B2 1 s)⟩] (.var 2 (setsL encR s)) [])) (keep:=15)
  (R:=fun v H=>v=.int .i64 (Q7 s n a).1∧(H7 tsR (Q7 s n a).2 13 H∨∃ c,Z3 tsR (Q7 s n a).2 c 14 H∧14<H.length)) (dgEu G B n a q q' g1 g2) (by kernel_rfl) (by kernel_rfl) (by kernel_rfl) (by
  unfold W2;rw [eu_c];refine Z2 1 (fun hl=>?_) fun hl=>?_
  ·have h:=H6.1 hl;obtain ⟨p,hp⟩:=(hw.there (n:=n.toNat) (by omega)).2.2.2;have ed:C1 s n.toNat=p:=by unfold C1;rw [hp];rfl
   have f5:A1 (setsL encR s) n.toNat=encR p:=by rw [K9 (by omega),hp];rfl
   have es:setPart (setPart (B2 1 s) (n.toNat*6+4) (.bool true)) (n.toNat*6+5) (.int .i64 (a % 256))=C3 (B3 1 s) (V7 (V7 s n.toNat { s.at_ n.toNat with en:=true }) n.toNat { s.at_ n.toNat with en:=true,st:=a % 256 }):=by
    rw [eG,W_set (n:=n.toNat) (k:=4) (s:=s) (x:={ s.at_ n.toNat with en:=true }) (by omega) (by omega) (by intro l h;cases h) (fun j hj=>by
     match j,hj with
     | 0,_ | 1,_ | 2,_ | 3,_ | 4,_ | 5,_=>rfl),W_set (n:=n.toNat) (k:=5) (x:={ s.at_ n.toNat with en:=true,st:=a % 256 }) (by omega) (by omega) (by intro l h;cases h) (fun j hj=>by
     show _=if j=5 then _ else fcell (if n.toNat=n.toNat then _ else s.at_ n.toNat) .undef j
     rw [if_pos rfl]
     match j,hj with
     | 0,_ | 1,_ | 2,_ | 3,_ | 4,_ | 5,_=>rfl)]
    rfl
   have ew:=aF8 (s:=s) (n:=n.toNat) (a:=a) (by omega);rw [zQ,ew,es];obtain ⟨f1,f2,f3,f4⟩:=dW (s:=s) (s':=V7 (V7 s n.toNat { s.at_ n.toNat with en:=true }) n.toNat { s.at_ n.toNat with en:=true,st:=a % 256 }) (n:=n.toNat) (by omega) hp;rw [f3,f4,f5,Ai,Jx,E3];have dn0:decide ((0:Int)≤n)=true:=decide_eq_true (by omega);have dn13:decide (n<13)=true:=decide_eq_true (by omega);have ez:encR (Kn p 0#32)=(encR (C4 (C1 s n.toNat))):=by rw [ed];rfl
   obtain ⟨hq1,hq2⟩:=hq hl
   have sgs:∀ j p,(B9 s n a).sg j=some p→(if j=n.toNat then some (C4 (C1 s n.toNat)) else s.sg j)=some p:=fun j p h=>by
    have:(B9 s n a).sg=(Be s n.toNat a).sg:=qT _
    rw [this] at h;exact h
   refine ⟨dn0,dn13,A6.2 (by rw [Gc];omega),dn0,dn13,?_,dn0,dn13,(fun h=>by rw [f1] at h;cases h),fun _=>⟨f2,rfl,A6.2 (by omega),D6 _ 13,A6.2 (by rw [F8];omega),Cc p,dn0,dn13,A6.2 (by rw [Px];omega),?_,hq2,?_⟩⟩
   ·refine A6.2 ?_;rw [N6 (by intro l h;cases h),List.length_set,Gc];omega
   ·rw [ez];exact hq1
   ·rw [aF6 hw hl];refine ⟨rfl,.inr ⟨n.toNat,wG (E:=[]) (fun j p h=>sgs j p ?_),by simp [A2]⟩⟩;unfold O6 at h;split at h
    ·exact rV _ j p h
    ·exact h
  ·unfold Q7
   rw [hl];exact ⟨rfl,.inl D4⟩)
 rw [hU] at h;exact Yo tsR_ok (q:=14) (by omega) h rfl
theorem r_end (G:Nat→List AV) (B:Nat) {s:Ptb} (hw:Wf s) (n a:Int):ACalls (⟨Try.prog,G,B⟩:A3) 42 [.ptr (.rw 0) 0,.int .i64 n,.int .i64 a] (B0 tsR s) fun v H'=>v=.int .i64 (Q7 s n a).1∧H'=V2 tsR (Q7 s n a).2:=by
 cases hc:live s n with
 | true=>
  have h:=H6.1 hc;have w1:=hw.endS (n:=n.toNat) (by omega) a;have w2:=hw.endP hc a;have l1:=aF3 G B w1 n.toNat (setsL encR s) (encR (C4 (C1 s n.toNat))) h.1;rw [nN] at l1
  exact wS G B hw n a (G5 [.ptr (.rw 0) 0,.int .i64 n,.int .i64 1] (vHp G (hp3 [some ⟨1,.var 1 (C3 (ptC (Be s n.toNat a) n.toNat) (Be s n.toNat a))⟩] (.var 2 (setsL encR s)) [some ⟨1,.var 23 (encR (C4 (C1 s n.toNat)))⟩]))) (G5 [.ptr (.rw 0) 0,.int .i64 1] (vHp G (hp3 [some ⟨1,.var 1 (C3 (ptC (B9 s n a) n.toNat) (B9 s n a))⟩] (.var 2 (setsL encR s)) [some ⟨1,.var 23 (encR (C4 (C1 s n.toNat)))⟩]))) (N5 rfl l1) (N5 rfl (aF2 G B w2 n.toNat (setsL encR s) (encR (C4 (C1 s n.toNat))))) fun _=>⟨F5,F5⟩
 | false=>exact wS G B hw n a (fun _=>false) (fun _=>false) (aB (cb:=false) (vs0:=[]) (H0:=[]) rfl fun h=>by cases h) (aB (cb:=false) (vs0:=[]) (H0:=[]) rfl fun h=>by cases h) fun h=>by rw [hc] at h;cases h
end Go.Am
namespace Go.Am
open Go.Proofs Crc
set_option maxRecDepth 100000
theorem aN4 {s:Ptb} {b:Nat} {H:Hp} (h0:H[0]?=some (some ⟨1,B2 b s⟩)) (h1:∀ n,n<13→H[b+n]?=some (some ⟨1,I4 encR (s.sg n)⟩)):Nz tsR s b H:=
 ⟨h0,fun n hn=>⟨_,h1 n hn,fun p hp=>by rw [hp];rfl⟩⟩
theorem aO3 (G:Nat→List AV) (B:Nat) {s:Ptb} (hw:Wf s) (n:Int):ACalls (⟨Try.prog,G,B⟩:A3) 51 [.ptr (.rw 0) 0,.int .i64 n] (B0 tsR s) fun v H'=>v=Bp s n∧H'=V2 tsR (I7 s n):=by
 have hs:T4 (⟨Try.prog,G,B⟩:A3) [(75,Pw W2),(42,Ws 2251 (Ne tsR) (Ke tsR) tsR .move endK)]:=
  .cons (jF (Fc G) (aO4 G B)) (.cons (qY tsR_ok Yf (endK_ok (fun s hw n a=>r_end G B hw n a) (by intro h;cases h))) .nil)
 have h:=D3 (C:=(⟨Try.prog,G,B⟩:A3)) (K:=Df Try.prog [(75,1,13)] [67,60] [(75,Pw W2),(42,Ws 2251 (Ne tsR) (Ke tsR) tsR .move endK)] [] 0) (fuel:=300) (n0:=40) (f:=51) (fn:=Try.f51) (args:=[.ptr (.rw 0) (.lit 0),.int .i64 (.var 3 n)]) (H:=(hp3 [some ⟨1,.var 1 (B2 1 s)⟩] (.var 2 (setsL encR s)) [])) (keep:=40)
  (R:=fun v H=>v=Bp s n∧(H7 tsR (I7 s n) 13 (H.take 14)∨Nz tsR (I7 s n) 16 H)) (by rw [show loopsOf (bodyOf Try.f51)=[] by kernel_rfl];exact dgoodf (mix G B) (by kernel_rfl) hs .nil) (by kernel_rfl) (by kernel_rfl) (by kernel_rfl) (by
  unfold W2;rw [tu_c]
  have hvn:live s n=false→Bp s n=.tup [.agg [.int .i64 0,.bool false,.int .u32 0],.bool false]:=fun hl=>by
   unfold Bp Hr Ef Eg Ln;rw [hl];rfl
  refine Z2 1 (fun hl=>?_) fun hl=>?_
  ·have h:=H6.1 hl;obtain ⟨p,hp⟩:=(hw.there (n:=n.toNat) (by omega)).2.2.2;obtain ⟨e1,e2,e3,e4,e5⟩:=Gt (by omega) hp;have ed:C1 s n.toNat=p:=by unfold C1;rw [hp];rfl
   have w1:=hw.takeS1 hl
   have es:D5 (setsL encR s) n.toNat (encR (Io p))=setsL encR (J7 s n):=by
    unfold J7;rw [ed];exact Fe (t:=tsR) (by omega)
   have et:B2 1 s=tsR.tb (B3 1 (J7 s n)) (J7 s n):=by
    show C3 (B3 1 s) s=C3 (B3 1 (J7 s n)) (J7 s n);unfold J7;rw [Z9 hp];rfl
   have ex:Ke tsR [.agg (B2 1 s),.agg (setsL encR (J7 s n))]=encX (J7 s n):=by
    rw [et];exact Rw Yf w1
   have hsg:=aD p;rw [e3,e4,e5,Ai,Mh,Hj,Jd,Mi,Se,E3,es,ex,D9 (by omega),Ad w1.thin]
   have hv:Bp s n=.tup [.agg [.int .i64 (T8 p),.bool (Bo p),.int .u32 (Kh p)],.bool (Co p)]:=by
    unfold Bp Hr Ef Eg Ln;rw [if_pos hl,if_pos hl,if_pos hl,if_pos hl,ed]
   have sst:I7 s n=J7 s n→H7 tsR (I7 s n) 13 (some ⟨1,B2 1 s⟩::(List.range 13).map fun j=>some ⟨1,A1 (setsL encR (J7 s n)) j⟩):=fun e=>by
    rw [e];refine seen_rows (t:=tsR) et tsR_ok ?_;intro j hj q hq;rw [K9 hj,hq];rfl
   refine ⟨decide_eq_true (by omega),decide_eq_true (by omega),(fun h=>by rw [e1] at h;cases h),fun _=>⟨e2,rfl,A6.2 (by omega),D6 _ 13,A6.2 (by rw [F8];omega),Cc p,fun ho=>⟨fun hn=>⟨D6 _ 13,Pj.2 ⟨_,w1,et,rfl⟩,hv.symm,.inr ?_⟩,fun hn=>⟨hv.symm,.inl ?_⟩⟩,fun ho=>⟨hv.symm,.inl ?_⟩⟩⟩
   ·have eX:I7 s n=P6 (J7 s n) n (128+T8 p):=by
     unfold I7;rw [if_pos hl,ed,ho,hn];rfl
    rw [eX];have we:Wf (P6 (J7 s n) n (128+T8 p)):=w1.endR _ _;generalize P6 (J7 s n) n (128+T8 p)=s9 at we;refine aN4 ?_ fun j hj=>?_
    ·show some (some (⟨1,I3 tsR [.int .i64 16,.agg (encX s9)]⟩:Blk))=_;simp only [I3,C7 we.thin];rfl
    ·have e9:∀ j,A7 tsR j [.agg (encX s9)]=I4 encR (s9.sg j):=fun j=>by simp only [A7,C7 we.thin];rfl
     match j,hj with
     | 0,_ | 1,_ | 2,_ | 3,_ | 4,_ | 5,_ | 6,_ | 7,_ | 8,_ | 9,_ | 10,_ | 11,_ | 12,_=>exact congrArg (fun l=>some (some (⟨1,l⟩:Blk))) (e9 _)
   ·refine sst ?_;unfold I7;rw [if_pos hl,ed,ho,hn];rfl
   ·refine sst ?_;unfold I7;rw [if_pos hl,ed,ho];rfl
  ·have hx:I7 s n=s:=by unfold I7;rw [hl];rfl
   rw [hx]
   exact ⟨(hvn hl).symm,.inl D4⟩)
 rw [hU] at h;exact mL tsR_ok (k:=40) (b:=16) (by omega) (h.monoK fun v H ⟨a,b⟩=>⟨a,b.imp (fun b=>b.more) id⟩) rfl
end Go.Am
namespace Go.Am
open Go.Proofs Crc
set_option maxRecDepth 100000
theorem kk_b (G:Nat→List AV) (rd:List AV→Bool) (pu:List AV→List AV) (tb sl:List AV) (n to sg:Int) (b1 b2:Bool) (i:Nat) (Q:Ex→List AV→Hp→Prop) (R:AV→Hp→Prop):vT G Q R (J6 (Df Try.prog [(75,1,13)] [67,60,70] [(71,Gb (Jh (rd) (pu)))] [] 0) 300 20 14 (loopN Try.f46 0) 100 [0,1,2,3,10,11,12] [.ptr (.rw 0) (.lit 0),.int .i64 (.var 3 n),.int .i64 (.var 4 to),.int .i64 (.var 5 sg),.bool (.var 6 b1),.bool (.var 7 b2),.int .i64 (.ofN (.var 8 i))] (hp3 [some ⟨1,.var 1 tb⟩] (.var 2 sl) []))=(
  (decide ((((i:Nat):Int):Int)≤12)=true→(decide ((((i:Nat):Int):Int)≥1)=true→decide ((((i:Nat):Int):Int)≤12)=true∧decide ((0:Int)≤((i:Nat):Int))=true∧decide ((((i:Nat):Int):Int)<13)=true∧isI .i64 tb ((i)*6)=true∧(((A0 tb ((i)*6):Int)==((i:Nat):Int))=true→decide ((0:Int)≤((i:Nat):Int))=true∧decide ((((i:Nat):Int):Int)<13)=true∧isB tb ((i)*6+4)=true∧(A5 tb ((i)*6+4)=true→Q .normal [.ptr (.rw 0) (0),.int .i64 (n),.int .i64 (to),.int .i64 (sg),.bool (b1),.bool (b2),.int .i64 (IntKind.wrap .i64 (((i:Nat):Int)+1))] ([some ⟨1,tb⟩]++A2 sl))∧(A5 tb ((i)*6+4)=false→decide ((0:Int)≤((i:Nat):Int))=true∧decide ((((i:Nat):Int):Int)<13)=true∧isI .i64 tb ((i)*6+2)=true∧(((A0 tb ((i)*6+2):Int)==IntKind.wrap .i64 (0 - (to)))=true→decide ((0:Int)≤n)=true∧decide ((n:Int)<13)=true∧isI .i64 tb ((Int.toNat (n))*6+3)=true∧(((A0 tb ((Int.toNat (n))*6+3):Int)==0)=true→decide ((0:Int)≤((i:Nat):Int))=true∧decide ((((i:Nat):Int):Int)<13)=true∧(B4 tb (i+78)=true→False)∧(B4 tb (i+78)=false→J4 1 13 tb (i+78)=true∧Nat.beq (K4 tb (i+78)) (0)=true∧leB (A4 1 tb (i+78)+1) (13)=true∧rowsA sl (rp 13 sl)=true∧leB (A4 1 tb (i+78)+1) (List.length sl)=true∧(rd) [.agg (A1 sl (A4 1 tb (i+78)))]=true∧Q .normal [.ptr (.rw 0) (0),.int .i64 (n),.int .i64 (to),.int .i64 (sg),.bool (true),.bool (true),.int .i64 (IntKind.wrap .i64 (((i:Nat):Int)+1))] ([some ⟨1,tb⟩]++A2 (D5 sl (A4 1 tb (i+78)) (B1 [.agg (W6 [.agg ((pu) [.agg (A1 sl (A4 1 tb (i+78)))]),.int .i64 (sg)])])))))∧(((A0 tb ((Int.toNat (n))*6+3):Int)==0)=false→decide ((0:Int)≤n)=true∧decide ((n:Int)<13)=true∧isI .i64 tb ((Int.toNat (n))*6+3)=true∧decide ((0:Int)≤((i:Nat):Int))=true∧decide ((((i:Nat):Int):Int)<13)=true∧isI .i64 tb ((i)*6+3)=true∧(((A0 tb ((Int.toNat (n))*6+3):Int)==A0 tb ((i)*6+3))=true→
 decide ((0:Int)≤((i:Nat):Int))=true∧decide ((((i:Nat):Int):Int)<13)=true∧(B4 tb (i+78)=true→False)∧(B4 tb (i+78)=false→J4 1 13 tb (i+78)=true∧Nat.beq (K4 tb (i+78)) (0)=true∧leB (A4 1 tb (i+78)+1) (13)=true∧rowsA sl (rp 13 sl)=true∧leB (A4 1 tb (i+78)+1) (List.length sl)=true∧(rd) [.agg (A1 sl (A4 1 tb (i+78)))]=true∧Q .normal [.ptr (.rw 0) (0),.int .i64 (n),.int .i64 (to),.int .i64 (sg),.bool (true),.bool (true),.int .i64 (IntKind.wrap .i64 (((i:Nat):Int)+1))] ([some ⟨1,tb⟩]++A2 (D5 sl (A4 1 tb (i+78)) (B1 [.agg (W6 [.agg ((pu) [.agg (A1 sl (A4 1 tb (i+78)))]),.int .i64 (sg)])])))))∧(((A0 tb ((Int.toNat (n))*6+3):Int)==A0 tb ((i)*6+3))=false→Q .normal [.ptr (.rw 0) (0),.int .i64 (n),.int .i64 (to),.int .i64 (sg),.bool (true),.bool (b2),.int .i64 (IntKind.wrap .i64 (((i:Nat):Int)+1))] ([some ⟨1,tb⟩]++A2 sl))))∧(((A0 tb ((i)*6+2):Int)==IntKind.wrap .i64 (0 - (to)))=false→Q .normal [.ptr (.rw 0) (0),.int .i64 (n),.int .i64 (to),.int .i64 (sg),.bool (b1),.bool (b2),.int .i64 (IntKind.wrap .i64 (((i:Nat):Int)+1))] ([some ⟨1,tb⟩]++A2 sl))))∧(((A0 tb ((i)*6):Int)==((i:Nat):Int))=false→Q .normal [.ptr (.rw 0) (0),.int .i64 (n),.int .i64 (to),.int .i64 (sg),.bool (b1),.bool (b2),.int .i64 (IntKind.wrap .i64 (((i:Nat):Int)+1))] ([some ⟨1,tb⟩]++A2 sl)))∧(decide ((((i:Nat):Int):Int)≥1)=false→Q .normal [.ptr (.rw 0) (0),.int .i64 (n),.int .i64 (to),.int .i64 (sg),.bool (b1),.bool (b2),.int .i64 (IntKind.wrap .i64 (((i:Nat):Int)+1))] ([some ⟨1,tb⟩]++A2 sl)))∧(decide ((((i:Nat):Int):Int)≤12)=false→Q (.exit 0) [.ptr (.rw 0) (0),.int .i64 (n),.int .i64 (to),.int .i64 (sg),.bool (b1),.bool (b2),.int .i64 (((i:Nat):Int))] ([some ⟨1,tb⟩]++A2 sl))):=by kernel_rfl
end Go.Am
namespace Go.Am
open Crc
theorem kR_neg {s:Ptb} (hw:Wf s) {to sg me:Int} (hto:to≤0) {i:Nat} (h1:1≤i) (h2:i≤12) :
  kR s to sg me (i+1)=if live s (i:Int)=true∧-(s.at_ i).grp=to then (if X7 (s.at_ i) me=true then (R7 (kR s to sg me i).1 i (some (U1 (C1 (kR s to sg me i).1 i) sg)),true,true) else ((kR s to sg me i).1,(kR s to sg me i).2.1,true)) else kR s to sg me i:=by
 have ki:=(Fv hw to sg me i).at_;show (if 0<(s.at_ i).num then _ else _)=_;by_cases hp:0<(s.at_ i).num
 ·have hn:=(hw.there (n:=i) (by omega)).1;rw [if_pos hp]
  have hlv:live s (i:Int)=!(s.at_ i).en:=by
   unfold live;rw [I0.2 ⟨by omega,by omega,hn⟩];rfl
  have hmt:kMt (s.at_ i) to=(-(s.at_ i).grp==to&&!(s.at_ i).en):=by
   unfold kMt;rw [show (to==(s.at_ i).num)=false by rw [beq_eq_false_iff_ne];omega,Bool.false_or]
  unfold Nk;rw [ki,hmt,hlv];cases he:(s.at_ i).en with
  | true=>simp
  | false=>
   by_cases hg:-(s.at_ i).grp=to
   ·rw [hg];cases hm:X7 (s.at_ i) me<;>simp
   ·rw [show (-(s.at_ i).grp==to)=false by rw [beq_eq_false_iff_ne];exact hg];simp [hg]
 ·rw [if_neg hp,if_neg];rintro ⟨hl,_⟩
  have:=H6.1 hl
  have h3:(s.at_ i).num=(i:Int):=this.2.2.1;omega
theorem gB {s:Ptb} (hw:Wf s) {to sg me:Int} (hto:0<to) {i:Nat} (h:¬((s.at_ i).num=to)):kR s to sg me (i+1)=kR s to sg me i:=by
 have ki:=(Fv hw to sg me i).at_;show (if 0<(s.at_ i).num then _ else _)=_;by_cases hp:0<(s.at_ i).num
 ·rw [if_pos hp];have hg:=hw.grp (n:=i) (by omega)
  have hmt:kMt (s.at_ i) to=false:=by
   unfold kMt;rw [show (to==(s.at_ i).num)=false by rw [beq_eq_false_iff_ne];exact fun e=>h e.symm,show (-(s.at_ i).grp==to)=false by rw [beq_eq_false_iff_ne];omega];rfl
  unfold Nk;rw [ki,hmt];simp
 ·rw [if_neg hp]
theorem kR_one {s:Ptb} (hw:Wf s) {to sg me:Int} (hto:0<to):kR s to sg me 13=if to≤12∧(s.at_ to.toNat).num≠0 then (if X7 (s.at_ to.toNat) me=true then (if (s.at_ to.toNat).en=true then (s,true,true) else (R7 s to.toNat (some (U1 (C1 s to.toNat) sg)),true,true)) else (s,false,true)) else (s,false,false):=by
 have lo:∀ j:Nat,(j:Int)≤to→kR s to sg me j=(s,false,false):=fun j=>by
  induction j with
  | zero=>intro _;rfl
  | succ j ih=>
   intro hj;rw [gB hw hto,ih (by omega)];intro e
   have:=(hw.there (n:=j) (by omega)).1
   omega
 by_cases hc:to≤12∧(s.at_ to.toNat).num≠0
 ·rw [if_pos hc];have hn:=(hw.there hc.2).1
  have hi:∀ d:Nat,kR s to sg me (to.toNat+1+d)=kR s to sg me (to.toNat+1):=fun d=>by
   induction d with
   | zero=>rfl
   | succ d ih=>
    rw [show to.toNat+1+(d+1)=(to.toNat+1+d)+1 by omega,gB hw hto,ih];intro e
    have:=(hw.there (n:=to.toNat+1+d) (by omega)).1
    omega
  have e13:=hi (12 - to.toNat);rw [show to.toNat+1+(12 - to.toNat)=13 by omega] at e13;rw [e13];show (if 0<(s.at_ to.toNat).num then _ else _)=_;rw [if_pos (by omega),lo to.toNat (by omega)]
  have hmt:kMt (s.at_ to.toNat) to=true:=by
   unfold kMt;rw [show (to==(s.at_ to.toNat).num)=true by rw [beq_iff_eq];omega];rfl
  unfold Nk;rw [hmt];cases hm:X7 (s.at_ to.toNat) me<;>cases he:(s.at_ to.toNat).en<;>simp [hm,he]
 ·rw [if_neg hc]
  have all:∀ j:Nat,j≤13→kR s to sg me j=(s,false,false):=fun j=>by
   induction j with
   | zero=>intro _;rfl
   | succ j ih=>
    intro hj;rw [gB hw hto,ih (by omega)];intro e
    have:=(hw.there (n:=j) (by omega)).1
    refine hc ⟨by omega,?_⟩;rw [show to.toNat=j by omega];omega
  exact all 13 (Nat.le_refl _)
end Go.Am
namespace Go.Am
open Go.Proofs Crc
set_option maxRecDepth 100000
set_option maxHeartbeats 1000000
theorem aR6 (G:Nat→List AV) (B:Nat) {s:Ptb} (hw:Wf s) {n:Int} (hl:live s n=true) {to sg:Int} (hto:to<0) (hmin:-9223372036854775808≤to) :
  AWp (⟨Try.prog,G,B⟩:A3) 14 (.loop (loopN Try.f46 0)) (fl 100 [0,1,2,3,10,11,12] [.ptr (.rw 0) 0,.int .i64 n,.int .i64 to,.int .i64 sg,.bool (kR s to sg (s.at_ n.toNat).usr (0+1)).2.2,.bool (kR s to sg (s.at_ n.toNat).usr (0+1)).2.1,.int .i64 ((0+1:Nat):Int)]) (B0 tsR (kR s to sg (s.at_ n.toNat).usr (0+1)).1) (lv 100 [0,1,2,3,10,11,12] fun e vs H=>e=.exit 0∧wk [.undef,.undef,.undef,.undef,.bool (kR s to sg (s.at_ n.toNat).usr 13).2.2,.bool (kR s to sg (s.at_ n.toNat).usr 13).2.1,.undef] vs∧H=B0 tsR (kR s to sg (s.at_ n.toNat).usr 13).1):=by
 refine Ko 12 (fun r=>[.ptr (.rw 0) 0,.int .i64 n,.int .i64 to,.int .i64 sg,.bool (kR s to sg (s.at_ n.toNat).usr (r+1)).2.2,.bool (kR s to sg (s.at_ n.toNat).usr (r+1)).2.1,.int .i64 ((r+1:Nat):Int)]) (fun r=>B0 tsR (kR s to sg (s.at_ n.toNat).usr (r+1)).1) fun r hr=>?_;have eH:B0 tsR (kR s to sg (s.at_ n.toNat).usr (r+1)).1=vHp G (hp3 [some ⟨1,.var 1 (B2 1 (kR s to sg (s.at_ n.toNat).usr (r+1)).1)⟩] (.var 2 (setsL encR (kR s to sg (s.at_ n.toNat).usr (r+1)).1)) []):=(hU G (kR s to sg (s.at_ n.toNat).usr (r+1)).1).symm;rw [eH]
 refine E2 (C:=(⟨Try.prog,G,B⟩:A3)) (K:=Df Try.prog [(75,1,13)] [67,60,70] [(71,Gb W2)] [] 0) (by rw [show loopsOf (loopN Try.f46 0)=[] by kernel_rfl];exact dgoodf (mix G B) (by kernel_rfl) (.cons (Rb (Fc G) (qM G B)) .nil) .nil) (fuel:=300) (n0:=20) (m:=14) (c:=loopN Try.f46 0)
  (vs:=[.ptr (.rw 0) (.lit 0),.int .i64 (.var 3 n),.int .i64 (.var 4 to),.int .i64 (.var 5 sg),.bool (.var 6 (kR s to sg (s.at_ n.toNat).usr (r+1)).2.2),.bool (.var 7 (kR s to sg (s.at_ n.toNat).usr (r+1)).2.1),.int .i64 (.ofN (.var 8 (r+1)))]) (H:=(hp3 [some ⟨1,.var 1 (B2 1 (kR s to sg (s.at_ n.toNat).usr (r+1)).1)⟩] (.var 2 (setsL encR (kR s to sg (s.at_ n.toNat).usr (r+1)).1)) [])) (Nat.le_of_ble_eq_true rfl) ?_
 unfold W2;rw [kk_b];have ki:=Fv hw to sg (s.at_ n.toNat).usr (r+1);have hlv:=H6.1 hl;have canE:∀ s':Ptb,B0 tsR s'=[some ⟨1,B2 1 s'⟩]++A2 (setsL encR s'):=fun s'=>(V3 (t:=tsR) (s:=s')).symm
 have leaf:∀ (b1 b2:Bool) (s':Ptb) (H:Hp),r+1≤12→kR s to sg (s.at_ n.toNat).usr (r+1+1)=(s',b2,b1)→H=B0 tsR s'→(r<12∧((([.ptr (.rw 0) 0,.int .i64 n,.int .i64 to,.int .i64 sg,.bool b1,.bool b2,.int .i64 (IntKind.wrap .i64 (((r+1:Nat):Int)+1))]:List AV)=[.ptr (.rw 0) 0,.int .i64 n,.int .i64 to,.int .i64 sg,.bool (kR s to sg (s.at_ n.toNat).usr (r+1+1)).2.2,.bool (kR s to sg (s.at_ n.toNat).usr (r+1+1)).2.1,.int .i64 ((r+1+1:Nat):Int)]∧H=B0 tsR (kR s to sg (s.at_ n.toNat).usr (r+1+1)).1)∨C8 14 [.ptr (.rw 0) 0,.int .i64 n,.int .i64 to,.int .i64 sg,.bool (kR s to sg (s.at_ n.toNat).usr (r+1+1)).2.2,.bool (kR s to sg (s.at_ n.toNat).usr (r+1+1)).2.1,.int .i64 ((r+1+1:Nat):Int)] (B0 tsR (kR s to sg (s.at_ n.toNat).usr (r+1+1)).1) [.ptr (.rw 0) 0,.int .i64 n,.int .i64 to,.int .i64 sg,.bool b1,.bool b2,.int .i64 (IntKind.wrap .i64 (((r+1:Nat):Int)+1))] H)):=fun b1 b2 s' H h e1 e2=>by
  rw [e1,e2,D9 (by omega)];exact ⟨by omega,.inl ⟨rfl,rfl⟩⟩
 refine ⟨fun h1=>?_,fun h1=>?_⟩
 ·have h12:r+1≤12:=by have:=of_decide_eq_true h1;omega
  have step:=kR_neg hw (sg:=sg) (me:=(s.at_ n.toNat).usr) (show to≤0 by omega) (i:=r+1) (by omega) h12;have tn:=Vm (b:=1) (s:=(kR s to sg (s.at_ n.toNat).usr (r+1)).1) (n:=r+1) (by omega);have te:=pC (b:=1) (s:=(kR s to sg (s.at_ n.toNat).usr (r+1)).1) (n:=r+1) (by omega);have tg:=U_grp (b:=1) (s:=(kR s to sg (s.at_ n.toNat).usr (r+1)).1) (n:=r+1) (by omega);have tu:=Zy (b:=1) (s:=(kR s to sg (s.at_ n.toNat).usr (r+1)).1) (n:=r+1) (by omega);have tm:=Zy (b:=1) (s:=(kR s to sg (s.at_ n.toNat).usr (r+1)).1) (n:=n.toNat) (by omega);rw [ki.at_] at tn te tg tu tm
  have d0:decide ((0:Int)≤((r+1:Nat):Int))=true:=decide_eq_true (by omega);have d13:decide (((r+1:Nat):Int)<13)=true:=decide_eq_true (by omega);have dn0:decide ((0:Int)≤n)=true:=decide_eq_true (by omega);have dn13:decide (n<13)=true:=decide_eq_true (by omega);rw [tn.2,te.2,tg.2,tu.2,tm.2]
  have gq:(s.at_ (r+1)).num=((r+1:Nat):Int)→((s.at_ (r+1)).grp=IntKind.wrap .i64 (0 - to)↔-(s.at_ (r+1)).grp=to):=fun hnum=>by
   have hg:=hw.grp (n:=r+1) (by omega);by_cases hm:to=-9223372036854775808
   ·subst hm;rw [show IntKind.wrap .i64 (0 - -9223372036854775808)=-9223372036854775808 by decide];omega
   ·rw [D9 (by omega)];omega
  have no:∀ H:Hp,¬(live s ((r+1:Nat):Int)=true∧-(s.at_ (r+1)).grp=to)→H=B0 tsR (kR s to sg (s.at_ n.toNat).usr (r+1)).1→_:=fun H hh e=>leaf (kR s to sg (s.at_ n.toNat).usr (r+1)).2.2 (kR s to sg (s.at_ n.toNat).usr (r+1)).2.1 (kR s to sg (s.at_ n.toNat).usr (r+1)).1 H h12 (by rw [step,if_neg hh]) e
  have lv1:live s ((r+1:Nat):Int)=true↔(s.at_ (r+1)).num=((r+1:Nat):Int)∧(s.at_ (r+1)).en=false:=by
   rw [H6,Int.toNat_natCast];exact ⟨fun h=>⟨h.2.2.1,h.2.2.2⟩,fun h=>⟨by omega,by omega,h.1,h.2⟩⟩
  refine ⟨fun h2=>⟨h1,d0,d13,tn.1,fun h3=>⟨d0,d13,te.1,fun h4=>no _ (fun h=>?_) (canE _).symm,fun h4=>⟨d0,d13,tg.1,fun h5=>?_,fun h5=>no _ (fun h=>?_) (canE _).symm⟩⟩,fun h3=>no _ (fun h=>?_) (canE _).symm⟩,fun h2=>absurd (of_decide_eq_false h2) (by omega)⟩
  ·rw [(lv1.1 h.1).2] at h4;cases h4
  ·have h3:=eq_of_beq h3;have h5:=eq_of_beq h5;have hlv1:=lv1.2 ⟨h3,h4⟩;have hg:live s ((r+1:Nat):Int)=true∧-(s.at_ (r+1)).grp=to:=⟨hlv1,(gq h3).1 h5⟩;rw [if_pos hg] at step;obtain ⟨p,hp⟩:=(ki.wf.there (n:=r+1) (by rw [ki.at_];omega)).2.2.2;obtain ⟨f1,f2,f3,f4,f5⟩:=Gt (by omega) hp;have ed:C1 (kR s to sg (s.at_ n.toNat).usr (r+1)).1 (r+1)=p:=by unfold C1;rw [hp];rfl
   have sent:[some ⟨1,B2 1 (kR s to sg (s.at_ n.toNat).usr (r+1)).1⟩]++A2 (D5 (setsL encR (kR s to sg (s.at_ n.toNat).usr (r+1)).1) (r+1) (B1 [.agg (W6 [.agg (encP p),.int .i64 sg])]))=B0 tsR (R7 (kR s to sg (s.at_ n.toNat).usr (r+1)).1 (r+1) (some (U1 (C1 (kR s to sg (s.at_ n.toNat).usr (r+1)).1 (r+1)) sg))):=by
    rw [canE,ed,De,E3]
    have e1:B2 1 (R7 (kR s to sg (s.at_ n.toNat).usr (r+1)).1 (r+1) (some (U1 p sg)))=B2 1 (kR s to sg (s.at_ n.toNat).usr (r+1)).1:=by
     show C3 (B3 1 (R7 (kR s to sg (s.at_ n.toNat).usr (r+1)).1 (r+1) (some (U1 p sg)))) (R7 (kR s to sg (s.at_ n.toNat).usr (r+1)).1 (r+1) (some (U1 p sg)))=C3 (B3 1 (kR s to sg (s.at_ n.toNat).usr (r+1)).1) (kR s to sg (s.at_ n.toNat).usr (r+1)).1;rw [Z9 hp];rfl
    rw [e1,show D5 (setsL encR (kR s to sg (s.at_ n.toNat).usr (r+1)).1) (r+1) (encR (U1 p sg))=setsL encR (R7 (kR s to sg (s.at_ n.toNat).usr (r+1)).1 (r+1) (some (U1 p sg))) from Fe (t:=tsR) (by omega)]
   have yes:X7 (s.at_ (r+1)) (s.at_ n.toNat).usr=true→kR s to sg (s.at_ n.toNat).usr (r+1+1)=(R7 (kR s to sg (s.at_ n.toNat).usr (r+1)).1 (r+1) (some (U1 (C1 (kR s to sg (s.at_ n.toNat).usr (r+1)).1 (r+1)) sg)),true,true):=fun hm=>by rw [step,if_pos hm]
   refine ⟨dn0,dn13,tm.1,fun h6=>⟨d0,d13,(fun h=>by rw [f1] at h;cases h),fun _=>(by
   rw [f3,f4,f5,Ai];refine ⟨f2,rfl,A6.2 (by omega),D6 _ 13,A6.2 (by rw [F8];omega),Cc p,?_⟩
   exact leaf true true _ _ h12 (yes (by unfold X7;rw [h6];rfl)) (sent))⟩,fun h6=>⟨dn0,dn13,tm.1,d0,d13,tu.1,fun h7=>⟨d0,d13,(fun h=>by rw [f1] at h;cases h),fun _=>(by
   rw [f3,f4,f5,Ai];refine ⟨f2,rfl,A6.2 (by omega),D6 _ 13,A6.2 (by rw [F8];omega),Cc p,?_⟩
   exact leaf true true _ _ h12 (yes (by unfold X7;rw [h7,Bool.or_true])) (sent))⟩,fun h7=>?_⟩⟩
   refine leaf true (kR s to sg (s.at_ n.toNat).usr (r+1)).2.1 (kR s to sg (s.at_ n.toNat).usr (r+1)).1 _ h12 ?_ (canE _).symm;rw [step,if_neg];unfold X7;rw [h6,h7];simp
  ·have h3:=eq_of_beq h3;exact beq_eq_false_iff_ne.1 h5 ((gq h3).2 h.2)
  ·rw [(lv1.1 h.1).1,beq_self_eq_true] at h3;cases h3
 ·have:r=12:=by have:=of_decide_eq_false h1;omega
  subst this;exact ⟨rfl,by simp [wk,vVs,vV,vI,vB],(canE _).symm⟩
end Go.Am
