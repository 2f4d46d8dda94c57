/-
  Tables of processes as objects: the table's block and its sets' blocks
-/
import Derived.Test.YtkabjomhnddnoaaPrF
import Derived.Test.YtkabjomhnddnoaaBase5
namespace Go.Am
open Crc
variable {C:A3}
structure TS where
 tb:(Nat→AV)→Ptb→List AV
 enc:Sg→List AV
structure O7 (t:TS):Prop where
 flatE:∀ p n,A8 n (t.enc p)=true
 ren:∀ θ p s,rens θ (t.tb p s)=t.tb (fun n=>ren θ (p n)) s
 bnd:∀ m p s,(∀ n,n<13→bnd m (p n)=true)→A8 m (t.tb p s)=true
 congr:∀ p q s,(∀ n,n<13→p n=q n)→t.tb p s=t.tb q s
def tsP:TS:=⟨encV,encP⟩
def tsR:TS:=⟨C3,encR⟩
theorem Tw {α:Type} (θ:List Nat) (f:α→AV):∀ l:List α,rens θ (l.map f)=l.map fun x=>ren θ (f x)
 | []=>rfl
 | x::l=>by simp only [List.map_cons,rens,Tw θ f l]
theorem aB3 (θ:List Nat) (a b:List AV):rens θ (a++b)=rens θ a++rens θ b:=by simp [G6]
theorem iL (θ:List Nat) (x:Pc) (v:AV) (k:Nat):ren θ (fcell x v k)=fcell x (ren θ v) k:=by
 match k with
 | 0 | 1 | 2 | 3 | 4 | 5=>rfl
 | k+6=>rfl
theorem jO {m:Nat} {x:Pc} {v:AV} (hv:bnd m v=true) (k:Nat):bnd m (fcell x v k)=true:=by
 match k with
 | 0 | 1 | 2 | 3 | 4 | 5=>rfl
 | k+6=>exact hv
theorem tsP_ok:O7 tsP:=by
 refine ⟨fun p n=>N7 n p,fun θ p s=>?_,fun m p s h=>?_,fun p q s h=>?_⟩
 ·show rens θ (encV p s)=encV _ s;unfold encV U0;simp only [rens,Tw,iL];rfl
 ·show A8 m (encV p s)=true;unfold encV U0;rw [I1,List.all_cons,Bool.and_eq_true];refine ⟨rfl,?_⟩;rw [List.all_eq_true];intro v hv;obtain ⟨j,hj,rfl⟩:=List.mem_map.1 hv;exact jO (h _ (kV (List.mem_range.1 hj)).1) _
 ·show encV p s=encV q s;unfold encV;congr 1;exact O1 fun n k hn _=>by rw [h n hn]
theorem tsR_ok:O7 tsR:=by
 refine ⟨fun p n=>U6 n p,fun θ p s=>?_,fun m p s h=>?_,fun p q s h=>?_⟩
 ·show rens θ (C3 p s)=C3 _ s;unfold C3 U0;rw [aB3,Tw,Tw];simp only [iL];rfl
 ·show A8 m (C3 p s)=true;unfold C3 U0;rw [I1,List.all_append,Bool.and_eq_true,List.all_eq_true,List.all_eq_true];refine ⟨fun v hv=>?_,fun v hv=>?_⟩
  ·obtain ⟨j,hj,rfl⟩:=List.mem_map.1 hv;exact jO rfl _
  ·obtain ⟨j,hj,rfl⟩:=List.mem_map.1 hv;exact h j (List.mem_range.1 hj)
 ·show C3 p s=C3 q s;unfold C3;congr 1;exact List.map_congr_left fun n hn=>h n (List.mem_range.1 hn)
def B3 (b:Nat) (s:Ptb):Nat→AV:=fun n=>H5 b n (s.sg n)
def L7 (t:TS) (s:Ptb):Hp:=(List.range 13).map fun n=>some ⟨1,I4 t.enc (s.sg n)⟩
def B0 (t:TS) (s:Ptb):Hp:=some ⟨1,t.tb (B3 1 s) s⟩::L7 t s
def V2 (t:TS) (s:Ptb):Hp:=some ⟨1,t.tb (B3 14 s) s⟩::(List.replicate 13 none++L7 t s)
theorem Wc {t:TS} {s:Ptb}:(L7 t s).length=13:=by simp [L7]
theorem A9 {t:TS} {s:Ptb}:(B0 t s).length=14:=by simp [B0,Wc]
theorem Bg {t:TS} {s:Ptb}:(V2 t s).length=27:=by simp [V2,Wc]
theorem Wg {t:TS} {s:Ptb} {n:Nat} (h:n<13):(L7 t s)[n]?=some (some ⟨1,I4 t.enc (s.sg n)⟩):=by
 unfold L7;rw [List.getElem?_map,List.getElem?_range h];rfl
theorem Zp {t:TS} {s:Ptb} {n:Nat} (h:n<13):(B0 t s)[1+n]?=some (some ⟨1,I4 t.enc (s.sg n)⟩):=by
 rw [Nat.add_comm];exact Wg h
theorem mZ {t:TS} {s:Ptb} {n:Nat} (h:n<13):(V2 t s)[1+n]?=some none:=by
 rw [Nat.add_comm];unfold V2;rw [List.getElem?_cons_succ,List.getElem?_append_left (by simpa using h),List.getElem?_replicate,if_pos h]
theorem rC {t:TS} {s:Ptb} {n:Nat} (h:n<13):(V2 t s)[14+n]?=some (some ⟨1,I4 t.enc (s.sg n)⟩):=by
 rw [show 14+n=(13+n)+1 by omega];unfold V2;rw [List.getElem?_cons_succ,List.getElem?_append_right (by simp),List.length_replicate,Nat.add_sub_cancel_left];exact Wg h
theorem X1 {t:TS} (ht:O7 t) (o:Option Sg) (m:Nat):A8 m (I4 t.enc o)=true:=by
 cases o with
 | none=>rfl
 | some p=>exact ht.flatE p m
theorem Ge {b m:Nat} (h:b+13≤m) {s:Ptb} (n:Nat) (hn:n<13):bnd m (B3 b s n)=true:=by
 unfold B3 H5;split
 ·rfl
 ·simp only [bnd,decide_eq_true_eq]
  first | omega | (show Nat.blt _ _=true;exact Nat.ble_eq_true_of_le (by omega))
structure H7 (t:TS) (s:Ptb) (c:Nat) (H:Hp):Prop where
 len:14≤H.length
 tab:H[0]?=some (some ⟨1,t.tb (fun n=>match s.sg n with | none=>.nilp | some _=>.ptr (.rw (if n=c then 14 else 1+n)) 0) s⟩)
 sets:∀ n,n<13→∃ cs,H[if n=c then 14 else 1+n]?=some (some ⟨1,cs⟩)∧∀ p,s.sg n=some p→cs=t.enc p
theorem Cv {θ:List Nat} {b b':Blk} (he:b.esz=b'.esz) (hr:isRec b=false) (h:∀ (k:Nat) v,b.cells[k]?=some v→bnd θ.length v=true∧b'.cells[k]?=some (ren θ v)):BlkV θ b b':=
 ⟨he,fun k v hk=>⟨(h k v hk).1,.inr (h k v hk).2⟩,fun hh=>by rw [hr] at hh;cases hh⟩
theorem Nv {l:List AV} (h:A8 0 l=true) (θ:List Nat) {k:Nat} {v:AV} (hk:l[k]?=some v):bnd θ.length v=true∧ren θ v=v:=by
 rw [I1,List.all_eq_true] at h
 have:=h v (List.mem_of_getElem? hk)
 exact ⟨O0 (Nat.zero_le _) _ this,U2 θ _ this⟩
theorem H7.stay {t:TS} (ht:O7 t) {s:Ptb} {H:Hp} {v:AV} (h:H7 t s 13 H) (hv:bnd 0 v=true):C8 14 [v] (B0 t s) [v] H:=by
 have g:∀ i,i<14→(List.range 14).getD i 0=i:=fun i hi=>by simp [List.getD,hi]
 refine ⟨List.range 14,by rw [A9];simp,by rw [A9];omega,g,fun i hi=>?_,fun i j b b' h1 h2 he=>?_,fun i b hb=>?_,rfl,fun k w hk=>?_⟩
 ·simp at hi;rw [g i hi];exact Nat.lt_of_lt_of_le hi h.len
 ·have hi:=(List.getElem?_eq_some_iff.1 h1).1;have hj:=(List.getElem?_eq_some_iff.1 h2).1;rw [A9] at hi hj
  rwa [g i hi,g j hj] at he
 ·have hi:=(List.getElem?_eq_some_iff.1 hb).1;rw [A9] at hi;rw [g i hi];by_cases h0:i=0
  ·subst h0;simp only [B0,List.getElem?_cons_zero,Option.some.injEq] at hb;subst hb;refine ⟨_,h.tab,?_,Cv rfl rfl fun k w hk=>?_⟩
   ·have e:t.tb (B3 1 s) s=t.tb (fun n=>match s.sg n with | none=>.nilp | some _=>.ptr (.rw (if n=13 then 14 else 1+n)) 0) s:=ht.congr _ _ _ fun n hn=>by
     unfold B3 H5;split
     ·rename_i e;rw [e]
     ·rename_i e;rw [e];simp only;rw [if_neg (by omega)]
    rw [e];exact Nat.le_refl _
   ·have e:t.tb (B3 1 s) s=t.tb (fun n=>match s.sg n with | none=>.nilp | some _=>.ptr (.rw (if n=13 then 14 else 1+n)) 0) s:=ht.congr _ _ _ fun n hn=>by
     unfold B3 H5;split
     ·rename_i e;rw [e]
     ·rename_i e;rw [e];simp only;rw [if_neg (by omega)]
    have hb:=ht.bnd 14 (B3 1 s) s fun n hn=>Ge (by omega) n hn;rw [I1,List.all_eq_true] at hb;have hk:(t.tb (B3 1 s) s)[k]?=some w:=hk;have hw:=hb w (List.mem_of_getElem? hk);refine ⟨by simpa using hw,?_⟩
    have er:rens (List.range 14) (t.tb (B3 1 s) s)=t.tb (B3 1 s) s:=by
     rw [ht.ren];refine ht.congr _ _ _ fun n hn=>?_;unfold B3 H5;split
     ·rfl
     ·simp only [ren,g (1+n) (by omega)]
    have:(rens (List.range 14) (t.tb (B3 1 s) s))[k]?=some (ren (List.range 14) w):=by rw [G6,List.getElem?_map,hk];rfl
    rw [er] at this;show (t.tb _ s)[k]?=_;rw [←e];exact this
  ·obtain ⟨n,rfl⟩:∃ n,i=1+n:=⟨i - 1,by omega⟩;have hn:n<13:=by omega
   rw [Zp hn] at hb;simp only [Option.some.injEq] at hb;subst hb;obtain ⟨cs,q1,q2⟩:=h.sets n hn;rw [if_neg (by omega)] at q1;cases e:s.sg n with
   | none=>exact ⟨_,q1,Nat.zero_le _,Cv rfl rfl fun k w hk=>by simp [I4] at hk⟩
   | some p=>
    have:=q2 p e
    subst this;refine ⟨_,q1,Nat.le_refl _,Cv rfl rfl fun k w hk=>?_⟩;have hk:(t.enc p)[k]?=some w:=hk;obtain ⟨a1,a2⟩:=Nv (ht.flatE p 0) (List.range 14) hk;exact ⟨a1,by rw [a2];exact hk⟩
 ·cases k with
  | zero=>simp at hk;subst hk;exact ⟨O0 (Nat.zero_le _) _ hv,.inr (by rw [U2 _ _ hv];rfl)⟩
  | succ k=>simp at hk
structure Z3 (t:TS) (s:Ptb) (c q:Nat) (H:Hp):Prop where
 len:14≤H.length
 tab:H[0]?=some (some ⟨1,t.tb (fun n=>match s.sg n with | none=>.nilp | some _=>.ptr (.rw (if n=c then q else 1+n)) 0) s⟩)
 sets:∀ n,n<13→∃ cs,H[if n=c then q else 1+n]?=some (some ⟨1,cs⟩)∧∀ p,s.sg n=some p→cs=t.enc p
theorem Z3.move {t:TS} (ht:O7 t) {s:Ptb} {c q:Nat} {H:Hp} {v:AV} (h:Z3 t s c q H) (hq:14≤q) (hc:c≠13→q<H.length) (hv:bnd 0 v=true):C8 14 [v] (V2 t s) [v] H:=by
 let θ:List Nat:=List.range 14++(List.range 13).map fun n=>if n=c then q else 1+n
 have lθ:θ.length=27:=by simp [θ]
 have g:∀ i,i<14→θ.getD i 0=i:=fun i hi=>by
  simp only [θ,List.getD];rw [List.getElem?_append_left (by simpa using hi)];simp [hi]
 have g2:∀ n,n<13→θ.getD (14+n) 0=if n=c then q else 1+n:=fun n hn=>by
  simp only [θ,List.getD];rw [List.getElem?_append_right (by simp),List.length_range,Nat.add_sub_cancel_left,List.getElem?_map,List.getElem?_range hn];rfl
 have lt:∀ n,n<13→(if n=c then q else 1+n)<H.length:=fun n hn=>by
  have:=h.len
  by_cases e:n=c
  ·rw [if_pos e];exact hc (by omega)
  ·rw [if_neg e];omega
 have live:∀ (i:Nat) b,(V2 t s)[i]?=some (some b)→i=0∨∃ n,n<13∧i=14+n:=fun i b hb=>by
  have hi:=(List.getElem?_eq_some_iff.1 hb).1;rw [Bg] at hi;by_cases h0:i=0
  ·exact .inl h0
  ·by_cases h1:i<14
   ·obtain ⟨n,rfl⟩:∃ n,i=1+n:=⟨i - 1,by omega⟩;rw [mZ (by omega)] at hb;cases hb
   ·exact .inr ⟨i - 14,by omega,by omega⟩
 refine ⟨θ,by rw [Bg,lθ],by rw [Bg];omega,g,fun i hi=>?_,fun i j b b' h1 h2 he=>?_,fun i b hb=>?_,rfl,fun k w hk=>?_⟩
 ·rw [lθ] at hi;by_cases h1:i<14
  ·rw [g i h1];exact Nat.lt_of_lt_of_le h1 h.len
  ·obtain ⟨n,rfl⟩:∃ n,i=14+n:=⟨i - 14,by omega⟩;rw [g2 n (by omega)];exact lt n (by omega)
 ·rcases live i b h1 with rfl | ⟨n,hn,rfl⟩
  ·rcases live j b' h2 with rfl | ⟨m,hm,rfl⟩
   ·rfl
   ·rw [g 0 (by omega),g2 m hm] at he;split at he<;>omega
  ·rcases live j b' h2 with rfl | ⟨m,hm,rfl⟩
   ·rw [g 0 (by omega),g2 n hn] at he;split at he<;>omega
   ·rw [g2 n hn,g2 m hm] at he;split at he<;>split at he<;>omega
 ·rcases live i b hb with rfl | ⟨n,hn,rfl⟩
  ·rw [g 0 (by omega)];simp only [V2,List.getElem?_cons_zero,Option.some.injEq] at hb;subst hb
   have er:rens θ (t.tb (B3 14 s) s)=t.tb (fun n=>match s.sg n with | none=>.nilp | some _=>.ptr (.rw (if n=c then q else 1+n)) 0) s:=by
    rw [ht.ren];refine ht.congr _ _ _ fun n hn=>?_;unfold B3 H5;split
    ·rename_i e;rw [e];rfl
    ·rename_i e;rw [e];simp only [ren,g2 n hn]
   refine ⟨_,h.tab,?_,Cv rfl rfl fun k w hk=>?_⟩
   ·show (t.tb _ s).length≤(t.tb _ s).length;rw [←er,G6];simp
   ·have hb:=ht.bnd 27 (B3 14 s) s fun n hn=>Ge (by omega) n hn;rw [I1,List.all_eq_true] at hb;have hk:(t.tb (B3 14 s) s)[k]?=some w:=hk;refine ⟨by rw [lθ];exact hb w (List.mem_of_getElem? hk),?_⟩;show (t.tb _ s)[k]?=_;rw [←er,G6,List.getElem?_map,hk];rfl
  ·rw [g2 n hn];rw [rC hn] at hb;simp only [Option.some.injEq] at hb;subst hb;obtain ⟨cs,q1,q2⟩:=h.sets n hn;cases e:s.sg n with
   | none=>exact ⟨_,q1,Nat.zero_le _,Cv rfl rfl fun k w hk=>by simp [I4] at hk⟩
   | some p=>
    have:=q2 p e
    subst this;refine ⟨_,q1,Nat.le_refl _,Cv rfl rfl fun k w hk=>?_⟩;have hk:(t.enc p)[k]?=some w:=hk;obtain ⟨a1,a2⟩:=Nv (ht.flatE p 0) θ hk;exact ⟨a1,by rw [a2];exact hk⟩
 ·cases k with
  | zero=>simp at hk;subst hk;exact ⟨O0 (Nat.zero_le _) _ hv,.inr (by rw [U2 _ _ hv];rfl)⟩
  | succ k=>simp at hk
end Go.Am
