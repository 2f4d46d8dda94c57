/-
  Processes: what tables of them are, and their cells, the program's and
-/
import Derived.Test.YtkabjomhnddnoaaBase6
import Derived.Test.YtkabjomhnddnoaaBase5
namespace Go.Am
open Crc
def tabL (m z:Nat) (f:Nat→Nat→AV):List AV:=(List.range (m*z)).map fun j=>f (j / z) (j % z)
theorem tabL_len {m z:Nat} {f:Nat→Nat→AV}:(tabL m z f).length=m*z:=by simp [tabL]
theorem dm {n z k:Nat} (hk:k<z):(n*z+k) / z=n∧(n*z+k) % z=k:=by
 constructor
 ·rw [Nat.mul_comm,Nat.mul_add_div (by omega),Nat.div_eq_of_lt hk,Nat.add_zero]
 ·rw [Nat.mul_comm,Nat.mul_add_mod,Nat.mod_eq_of_lt hk]
theorem dm_lt {m n z k:Nat} (hn:n<m) (hk:k<z):n*z+k<m*z:=by
 have:(n+1)*z≤m*z:=Nat.mul_le_mul_right z hn
 rw [Nat.add_mul,Nat.one_mul] at this
 omega
theorem dm_at {m z j:Nat} (h:j<m*z):j / z<m∧j % z<z∧j=j / z*z+j % z:=by
 have hz:0<z:=by
  rcases Nat.eq_zero_or_pos z with rfl | h0
  ·simp at h
  ·exact h0
 refine ⟨(Nat.div_lt_iff_lt_mul hz).2 h,Nat.mod_lt _ hz,?_⟩
 rw [Nat.mul_comm];exact (Nat.div_add_mod j z).symm
theorem tabL_get {m z:Nat} {f:Nat→Nat→AV} {n k:Nat} (hn:n<m) (hk:k<z):(tabL m z f)[n*z+k]?=some (f n k):=by
 unfold tabL
 rw [List.getElem?_map,List.getElem?_range (dm_lt hn hk)]
 simp only [Option.map_some,(dm (n:=n) hk).1,(dm (n:=n) hk).2]
theorem tabL_congr {m z:Nat} {f g:Nat→Nat→AV} (h:∀ n k,n<m→k<z→f n k=g n k):tabL m z f=tabL m z g:=by
 unfold tabL
 refine List.map_congr_left fun j hj=>?_
 obtain ⟨h1,h2,_⟩:=dm_at (List.mem_range.1 hj)
 exact h _ _ h1 h2
theorem tabL_set {m z:Nat} {f:Nat→Nat→AV} {n k:Nat} {v:AV} (hk:k<z):(tabL m z f).set (n*z+k) v=tabL m z fun a b=>if a=n∧b=k then v else f a b:=by
 refine List.ext_getElem? fun j=>?_
 rw [List.getElem?_set,tabL_len]
 by_cases hj:j<m*z
 ·obtain ⟨h1,h2,h3⟩:=dm_at hj
  generalize j / z=a at *
  generalize j % z=b at *
  subst h3
  rw [tabL_get h1 h2,tabL_get h1 h2]
  by_cases e:n*z+k=a*z+b
  ·have d1:=dm (n:=n) hk
   rw [e] at d1
   have d2:=dm (n:=a) h2
   have e1:a=n:=by rw [←d2.1,d1.1]
   have e2:b=k:=by rw [←d2.2,d1.2]
   rw [if_pos e,if_pos (show n*z+k<m*z by rw [e];exact hj),if_pos ⟨e1,e2⟩]
  ·rw [if_neg e,if_neg fun h=>e (by rw [h.1,h.2])]
 ·rw [List.getElem?_eq_none (by rw [tabL_len];omega),List.getElem?_eq_none (by rw [tabL_len];omega)]
  split
  ·rw [if_neg (by omega)]
  ·rfl
theorem tabL_row {m z:Nat} {f:Nat→Nat→AV} {n:Nat} {r:List AV} (hn:n<m) (hr:r.length=z):spl (tabL m z f) (n*z) r=tabL m z fun a b=>if a=n then r.getD b .undef else f a b:=by
 unfold spl
 refine List.ext_getElem? fun j=>?_
 have hl:((tabL m z f).take (n*z)).length=n*z:=by
  rw [List.length_take,tabL_len]
  have:n*z≤m*z:=Nat.mul_le_mul_right z (Nat.le_of_lt hn)
  omega
 have hnz:(n+1)*z≤m*z:=Nat.mul_le_mul_right z hn
 rw [Nat.add_mul,Nat.one_mul] at hnz
 by_cases hj:j<m*z
 ·obtain ⟨h1,h2,h3⟩:=dm_at hj
  generalize j / z=a at *
  generalize j % z=b at *
  subst h3
  rw [tabL_get h1 h2]
  by_cases c1:a<n
  ·have:(a+1)*z≤n*z:=Nat.mul_le_mul_right z c1
   rw [Nat.add_mul,Nat.one_mul] at this
   rw [List.getElem?_append_left (by omega),List.getElem?_take,if_pos (by omega),tabL_get h1 h2,if_neg (by omega)]
  ·by_cases c2:a=n
   ·subst c2
    rw [List.getElem?_append_right (by omega),hl,Nat.add_sub_cancel_left,List.getElem?_append_left (by omega),if_pos rfl]
    have hb:b<r.length:=by omega
    simp [List.getD,hb]
   ·have:(n+1)*z≤a*z:=Nat.mul_le_mul_right z (by omega)
    rw [Nat.add_mul,Nat.one_mul] at this
    rw [List.getElem?_append_right (by omega),hl,List.getElem?_append_right (by omega),List.getElem?_drop,if_neg c2,hr]
    rw [show n*z+z+(a*z+b - n*z - z)=a*z+b by omega,tabL_get h1 h2]
 ·rw [List.getElem?_eq_none (by rw [List.length_append,hl,List.length_append,List.length_drop,tabL_len,hr];omega),List.getElem?_eq_none (by rw [tabL_len];omega)]
theorem tabL_sub {m z:Nat} {f:Nat→Nat→AV} {n:Nat} (hn:n<m):subL (tabL m z f) (n*z) z=(List.range z).map (f n):=by
 unfold subL
 refine List.ext_getElem? fun j=>?_
 rw [List.getElem?_take,List.getElem?_map]
 by_cases h:j<z
 ·rw [if_pos h,List.getElem?_drop,tabL_get hn h,List.getElem?_range h];rfl
 ·rw [if_neg h,List.getElem?_eq_none (by simpa using h)];rfl
structure Pc where
 num:Int
 par:Int
 grp:Int
 usr:Int
 en:Bool
 st:Int
def zc:Pc:=⟨0,0,0,0,false,0⟩
structure Ptb where
 at_:Nat→Pc
 sg:Nat→Option Sg
theorem Ptb.ext' {s t:Ptb} (h1:∀ n,s.at_ n=t.at_ n) (h2:∀ n,s.sg n=t.sg n):s=t:=by
 cases s;cases t
 simp only at h1 h2
 have a:=funext h1
 have b:=funext h2
 subst a b;rfl
def fcell (c:Pc) (p:AV):Nat→AV
 | 0=>.int .i64 c.num
 | 1=>.int .i64 c.par
 | 2=>.int .i64 c.grp
 | 3=>.int .i64 c.usr
 | 4=>.bool c.en
 | 5=>.int .i64 c.st
 | _=>p
def ptrO (b n:Nat):Option Sg→AV
 | none=>.nilp
 | some _=>.ptr (.rw (b+n)) 0
def encT (b:Nat) (s:Ptb):List AV:=.bool true::tabL 13 7 fun n=>fcell (s.at_ n) (ptrO b n (s.sg n))
def encU (b:Nat) (s:Ptb):List AV:=tabL 13 6 (fun n=>fcell (s.at_ n) .undef)++(List.range 13).map fun n=>ptrO b n (s.sg n)
def blkO (enc:Sg→List AV):Option Sg→List AV
 | none=>[]
 | some p=>enc p
def setsL (enc:Sg→List AV) (s:Ptb):List AV:=(List.range 13).map fun n=>.agg (blkO enc (s.sg n))
theorem encT_len (b:Nat) (s:Ptb):(encT b s).length=92:=by simp [encT,tabL_len]
theorem encU_len (b:Nat) (s:Ptb):(encU b s).length=91:=by simp [encU,tabL_len]
theorem setsL_len {enc:Sg→List AV} (s:Ptb):(setsL enc s).length=13:=by simp [setsL]
theorem rowA_sets {enc:Sg→List AV} {s:Ptb} {n:Nat} (hn:n<13):rowA (setsL enc s) n=blkO enc (s.sg n):=by
 unfold rowA setsL
 rw [List.getElem?_map,List.getElem?_range hn];rfl
section
variable {b n:Nat} {s:Ptb}
theorem T_get {k:Nat} (hn:n<13) (hk:k<7):(encT b s)[n*7+(k+1)]?=some (fcell (s.at_ n) (ptrO b n (s.sg n)) k):=by
 unfold encT
 rw [show n*7+(k+1)=(n*7+k)+1 by omega,List.getElem?_cons_succ,tabL_get hn hk]
theorem U_get {k:Nat} (hn:n<13) (hk:k<6):(encU b s)[n*6+k]?=some (fcell (s.at_ n) .undef k):=by
 unfold encU
 rw [List.getElem?_append_left (by rw [tabL_len];omega),tabL_get hn hk]
theorem U_ptr (hn:n<13):(encU b s)[n+78]?=some (ptrO b n (s.sg n)):=by
 unfold encU
 rw [List.getElem?_append_right (by rw [tabL_len];omega),tabL_len,show n+78 - 13*6=n by omega,List.getElem?_map,List.getElem?_range hn];rfl
variable (hn:n<13)
include hn
theorem T_num:isI .i64 (encT b s) (n*7+1)=true∧getI (encT b s) (n*7+1)=(s.at_ n).num:=by simp [isI,getI,T_get (b:=b) (s:=s) (k:=0) hn (by omega),fcell]
theorem T_usr:isI .i64 (encT b s) (n*7+4)=true∧getI (encT b s) (n*7+4)=(s.at_ n).usr:=by simp [isI,getI,T_get (b:=b) (s:=s) (k:=3) hn (by omega),fcell]
theorem T_en:isB (encT b s) (n*7+5)=true∧getB (encT b s) (n*7+5)=(s.at_ n).en:=by simp [isB,getB,T_get (b:=b) (s:=s) (k:=4) hn (by omega),fcell]
theorem T_ptr:(encT b s)[n*7+7]?=some (ptrO b n (s.sg n)):=T_get (k:=6) hn (by omega)
theorem U_num:isI .i64 (encU b s) (n*6)=true∧getI (encU b s) (n*6)=(s.at_ n).num:=by
 have:=U_get (b:=b) (s:=s) (k:=0) hn (by omega)
 rw [Nat.add_zero] at this
 simp [isI,getI,this,fcell]
theorem U_par:isI .i64 (encU b s) (n*6+1)=true∧getI (encU b s) (n*6+1)=(s.at_ n).par:=by simp [isI,getI,U_get (b:=b) (s:=s) (k:=1) hn (by omega),fcell]
theorem U_grp:isI .i64 (encU b s) (n*6+2)=true∧getI (encU b s) (n*6+2)=(s.at_ n).grp:=by simp [isI,getI,U_get (b:=b) (s:=s) (k:=2) hn (by omega),fcell]
theorem U_usr:isI .i64 (encU b s) (n*6+3)=true∧getI (encU b s) (n*6+3)=(s.at_ n).usr:=by simp [isI,getI,U_get (b:=b) (s:=s) (k:=3) hn (by omega),fcell]
theorem U_en:isB (encU b s) (n*6+4)=true∧getB (encU b s) (n*6+4)=(s.at_ n).en:=by simp [isB,getB,U_get (b:=b) (s:=s) (k:=4) hn (by omega),fcell]
theorem U_st:isI .i64 (encU b s) (n*6+5)=true∧getI (encU b s) (n*6+5)=(s.at_ n).st:=by simp [isI,getI,U_get (b:=b) (s:=s) (k:=5) hn (by omega),fcell]
theorem T_row:subL (encT b s) (n*7+1) 7=[.int .i64 (s.at_ n).num,.int .i64 (s.at_ n).par,.int .i64 (s.at_ n).grp,.int .i64 (s.at_ n).usr,.bool (s.at_ n).en,.int .i64 (s.at_ n).st,ptrO b n (s.sg n)]:=by
 have:subL (encT b s) (n*7+1) 7=subL (tabL 13 7 fun n=>fcell (s.at_ n) (ptrO b n (s.sg n))) (n*7) 7:=by
  unfold subL encT;rw [List.drop_succ_cons]
 rw [this,tabL_sub hn];rfl
end
def updC (s:Ptb) (c:Nat) (x:Pc):Ptb:={ s with at_:=fun j=>if j=c then x else s.at_ j }
def updS (s:Ptb) (c:Nat) (o:Option Sg):Ptb:={ s with sg:=fun j=>if j=c then o else s.sg j }
theorem T_set {b n k:Nat} {s:Ptb} {v:AV} {x:Pc} (hk:k<6) (hv:∀ l,v≠.agg l) (hx:∀ j,j<7→fcell x (ptrO b n (s.sg n)) j=if j=k then v else fcell (s.at_ n) (ptrO b n (s.sg n)) j) :
  setPart (encT b s) (n*7+(k+1)) v=encT b (updC s n x):=by
 rw [setPart_cell hv]
 unfold encT
 rw [show n*7+(k+1)=(n*7+k)+1 by omega,List.set_cons_succ,tabL_set (by omega)]
 congr 1
 refine tabL_congr fun a j _ hj=>?_
 show _=fcell (if a=n then x else s.at_ a) (ptrO b a (s.sg a)) j
 by_cases e:a=n
 ·subst e
  rw [if_pos rfl,hx j hj]
  by_cases e2:j=k
  ·rw [if_pos ⟨rfl,e2⟩,if_pos e2]
  ·rw [if_neg fun h=>e2 h.2,if_neg e2]
 ·rw [if_neg fun h=>e h.1,if_neg e]
theorem U_set {b n k:Nat} {s:Ptb} {v:AV} {x:Pc} (hn:n<13) (hk:k<6) (hv:∀ l,v≠.agg l) (hx:∀ j,j<6→fcell x .undef j=if j=k then v else fcell (s.at_ n) .undef j) :
  setPart (encU b s) (n*6+k) v=encU b (updC s n x):=by
 rw [setPart_cell hv]
 unfold encU
 rw [List.set_append_left _ _ (by rw [tabL_len];omega),tabL_set (by omega)]
 congr 1
 refine tabL_congr fun a j _ hj=>?_
 show _=fcell (if a=n then x else s.at_ a) .undef j
 by_cases e:a=n
 ·subst e
  rw [if_pos rfl,hx j hj]
  by_cases e2:j=k
  ·rw [if_pos ⟨rfl,e2⟩,if_pos e2]
  ·rw [if_neg fun h=>e2 h.2,if_neg e2]
 ·rw [if_neg fun h=>e h.1,if_neg e]
def rowT (x:Pc) (p:AV):List AV:=[.int .i64 x.num,.int .i64 x.par,.int .i64 x.grp,.int .i64 x.usr,.bool x.en,.int .i64 x.st,p]
def rowU (x:Pc):List AV:=[.int .i64 x.num,.int .i64 x.par,.int .i64 x.grp,.int .i64 x.usr,.bool x.en,.int .i64 x.st]
def encV (p:Nat→AV) (s:Ptb):List AV:=.bool true::tabL 13 7 fun n=>fcell (s.at_ n) (p n)
def encW (p:Nat→AV) (s:Ptb):List AV:=tabL 13 6 (fun n=>fcell (s.at_ n) .undef)++(List.range 13).map p
theorem encT_V (b:Nat) (s:Ptb):encT b s=encV (fun n=>ptrO b n (s.sg n)) s:=rfl
theorem encU_W (b:Nat) (s:Ptb):encU b s=encW (fun n=>ptrO b n (s.sg n)) s:=rfl
theorem V_row {p:Nat→AV} {n:Nat} {s:Ptb} {x:Pc} {v:AV} (hn:n<13):setPart (encV p s) (n*7+1) (.agg (rowT x v))=encV (fun j=>if j=n then v else p j) (updC s n x):=by
 show spl (encV p s) (n*7+1) (rowT x v)=_
 have e:spl (encV p s) (n*7+1) (rowT x v)=.bool true::spl (tabL 13 7 fun n=>fcell (s.at_ n) (p n)) (n*7) (rowT x v):=by
  unfold spl encV
  rw [List.take_succ_cons,show n*7+1+(rowT x v).length=(n*7+(rowT x v).length)+1 by omega,List.drop_succ_cons,List.cons_append]
 rw [e,tabL_row (z:=7) hn rfl]
 unfold encV
 congr 1
 refine tabL_congr fun a j _ hj=>?_
 show _=fcell (if a=n then x else s.at_ a) (if a=n then v else p a) j
 by_cases c:a=n
 ·rw [if_pos c,if_pos c,if_pos c]
  match j,hj with
  | 0,_ | 1,_ | 2,_ | 3,_ | 4,_ | 5,_ | 6,_=>rfl
 ·rw [if_neg c,if_neg c,if_neg c]
theorem V_ptr {p:Nat→AV} {n:Nat} {s:Ptb} {v:AV} (hv:∀ l,v≠.agg l):setPart (encV p s) (n*7+7) v=encV (fun j=>if j=n then v else p j) s:=by
 rw [setPart_cell hv]
 unfold encV
 rw [show n*7+7=(n*7+6)+1 by omega,List.set_cons_succ,tabL_set (by omega)]
 congr 1
 refine tabL_congr fun a j _ hj=>?_
 show _=fcell (s.at_ a) (if a=n then v else p a) j
 by_cases c:a=n
 ·rw [if_pos c]
  by_cases e2:j=6
  ·rw [if_pos ⟨c,e2⟩,e2];rfl
  ·rw [if_neg fun h=>e2 h.2]
   match j,(show j<6 by omega) with
   | 0,_ | 1,_ | 2,_ | 3,_ | 4,_ | 5,_=>rfl
 ·rw [if_neg fun h=>c h.1,if_neg c]
theorem V_set {p:Nat→AV} {n k:Nat} {s:Ptb} {v:AV} {x:Pc} (hk:k<6) (hv:∀ l,v≠.agg l) (hx:∀ j,j<6→fcell x .undef j=if j=k then v else fcell (s.at_ n) .undef j) :
  setPart (encV p s) (n*7+(k+1)) v=encV p (updC s n x):=by
 rw [setPart_cell hv]
 unfold encV
 rw [show n*7+(k+1)=(n*7+k)+1 by omega,List.set_cons_succ,tabL_set (by omega)]
 congr 1
 refine tabL_congr fun a j _ hj=>?_
 show _=fcell (if a=n then x else s.at_ a) (p a) j
 by_cases e:a=n
 ·subst e
  rw [if_pos rfl]
  by_cases e2:j=k
  ·rw [if_pos ⟨rfl,e2⟩]
   have:=hx j (by omega)
   rw [if_pos e2] at this
   rw [←this]
   match j,(show j<6 by omega) with
   | 0,_ | 1,_ | 2,_ | 3,_ | 4,_ | 5,_=>rfl
  ·rw [if_neg fun h=>e2 h.2]
   by_cases e3:j<6
   ·have:=hx j e3
    rw [if_neg e2] at this
    match j,e3,this with
    | 0,_,t | 1,_,t | 2,_,t | 3,_,t | 4,_,t | 5,_,t=>exact t.symm
   ·have:j=6:=by omega
    subst this;rfl
 ·rw [if_neg fun h=>e h.1,if_neg e]
end Go.Am
