/-
  Processes: what tables of them are, and their cells, the program's and
-/
import Derived.Test.YtkabjomhnddnoaaBase6
import Derived.Test.YtkabjomhnddnoaaBase5
namespace Go.Am
open Crc
def U0 (m z:Nat) (f:Nat→Nat→AV):List AV:=(List.range (m*z)).map fun j=>f (j / z) (j % z)
theorem I2 {m z:Nat} {f:Nat→Nat→AV}:(U0 m z f).length=m*z:=by simp [U0]
theorem dm {n z k:Nat} (hk:k<z):(n*z+k) / z=n∧(n*z+k) % z=k:=by
 constructor
 ·rw [Nat.mul_comm,Nat.mul_add_div (by omega),Nat.div_eq_of_lt hk,Nat.add_zero]
 ·rw [Nat.mul_comm,Nat.mul_add_mod,Nat.mod_eq_of_lt hk]
theorem dm_lt {m n z k:Nat} (hn:n<m) (hk:k<z):n*z+k<m*z:=by
 have:(n+1)*z≤m*z:=Nat.mul_le_mul_right z hn
 rw [Nat.add_mul,Nat.one_mul] at this;omega
theorem kV {m z j:Nat} (h:j<m*z):j / z<m∧j % z<z∧j=j / z*z+j % z:=by
 have hz:0<z:=by
  rcases Nat.eq_zero_or_pos z with rfl | h0
  ·simp at h
  ·exact h0
 refine ⟨(Nat.div_lt_iff_lt_mul hz).2 h,Nat.mod_lt _ hz,?_⟩;rw [Nat.mul_comm];exact (Nat.div_add_mod j z).symm
theorem R8 {m z:Nat} {f:Nat→Nat→AV} {n k:Nat} (hn:n<m) (hk:k<z):(U0 m z f)[n*z+k]?=some (f n k):=by
 unfold U0;rw [List.getElem?_map,List.getElem?_range (dm_lt hn hk)];simp only [Option.map_some,(dm (n:=n) hk).1,(dm (n:=n) hk).2]
theorem O1 {m z:Nat} {f g:Nat→Nat→AV} (h:∀ n k,n<m→k<z→f n k=g n k):U0 m z f=U0 m z g:=by
 unfold U0;refine List.map_congr_left fun j hj=>?_;obtain ⟨h1,h2,_⟩:=kV (List.mem_range.1 hj);exact h _ _ h1 h2
theorem Pb {m z:Nat} {f:Nat→Nat→AV} {n k:Nat} {v:AV} (hk:k<z):(U0 m z f).set (n*z+k) v=U0 m z fun a b=>if a=n∧b=k then v else f a b:=by
 refine List.ext_getElem? fun j=>?_;rw [List.getElem?_set,I2];by_cases hj:j<m*z
 ·obtain ⟨h1,h2,h3⟩:=kV hj;generalize j / z=a at *;generalize j % z=b at *;subst h3;rw [R8 h1 h2,R8 h1 h2];by_cases e:n*z+k=a*z+b
  ·have d1:=dm (n:=n) hk;rw [e] at d1;have d2:=dm (n:=a) h2;have e1:a=n:=by rw [←d2.1,d1.1]
   have e2:b=k:=by rw [←d2.2,d1.2]
   rw [if_pos e,if_pos (show n*z+k<m*z by rw [e];exact hj),if_pos ⟨e1,e2⟩]
  ·rw [if_neg e,if_neg fun h=>e (by rw [h.1,h.2])]
 ·rw [List.getElem?_eq_none (by rw [I2];omega),List.getElem?_eq_none (by rw [I2];omega)];split
  ·rw [if_neg (by omega)]
  ·rfl
theorem lQ {m z:Nat} {f:Nat→Nat→AV} {n:Nat} {r:List AV} (hn:n<m) (hr:r.length=z):Hk (U0 m z f) (n*z) r=U0 m z fun a b=>if a=n then r.getD b .undef else f a b:=by
 unfold Hk;refine List.ext_getElem? fun j=>?_
 have hl:((U0 m z f).take (n*z)).length=n*z:=by
  rw [List.length_take,I2]
  have:n*z≤m*z:=Nat.mul_le_mul_right z (Nat.le_of_lt hn)
  omega
 have hnz:(n+1)*z≤m*z:=Nat.mul_le_mul_right z hn;rw [Nat.add_mul,Nat.one_mul] at hnz;by_cases hj:j<m*z
 ·obtain ⟨h1,h2,h3⟩:=kV hj;generalize j / z=a at *;generalize j % z=b at *;subst h3;rw [R8 h1 h2];by_cases c1:a<n
  ·have:(a+1)*z≤n*z:=Nat.mul_le_mul_right z c1
   rw [Nat.add_mul,Nat.one_mul] at this;rw [List.getElem?_append_left (by omega),List.getElem?_take,if_pos (by omega),R8 h1 h2,if_neg (by omega)]
  ·by_cases c2:a=n
   ·subst c2;rw [List.getElem?_append_right (by omega),hl,Nat.add_sub_cancel_left,List.getElem?_append_left (by omega),if_pos rfl];have hb:b<r.length:=by omega
    simp [List.getD,hb]
   ·have:(n+1)*z≤a*z:=Nat.mul_le_mul_right z (by omega)
    rw [Nat.add_mul,Nat.one_mul] at this;rw [List.getElem?_append_right (by omega),hl,List.getElem?_append_right (by omega),List.getElem?_drop,if_neg c2,hr];rw [show n*z+z+(a*z+b - n*z - z)=a*z+b by omega,R8 h1 h2]
 ·rw [List.getElem?_eq_none (by rw [List.length_append,hl,List.length_append,List.length_drop,I2,hr];omega),List.getElem?_eq_none (by rw [I2];omega)]
theorem aV {m z:Nat} {f:Nat→Nat→AV} {n:Nat} (hn:n<m):subL (U0 m z f) (n*z) z=(List.range z).map (f n):=by
 unfold subL;refine List.ext_getElem? fun j=>?_;rw [List.getElem?_take,List.getElem?_map];by_cases h:j<z
 ·rw [if_pos h,List.getElem?_drop,R8 hn h,List.getElem?_range h];rfl
 ·rw [if_neg h,List.getElem?_eq_none (by simpa using h)];rfl
structure Pc where
 num:Int
 par:Int
 grp:Int
 usr:Int
 en:Bool
 st:Int
def zc:Pc:=⟨0,0,0,0,false,0⟩
structure Ptb where
 at_:Nat→Pc
 sg:Nat→Option Sg
theorem Ptb.ext' {s t:Ptb} (h1:∀ n,s.at_ n=t.at_ n) (h2:∀ n,s.sg n=t.sg n):s=t:=by
 cases s;cases t;simp only at h1 h2;have a:=funext h1;have b:=funext h2;subst a b;rfl
def fcell (c:Pc) (p:AV):Nat→AV
 | 0=>.int .i64 c.num
 | 1=>.int .i64 c.par
 | 2=>.int .i64 c.grp
 | 3=>.int .i64 c.usr
 | 4=>.bool c.en
 | 5=>.int .i64 c.st
 | _=>p
def H5 (b n:Nat):Option Sg→AV
 | none=>.nilp
 | some _=>.ptr (.rw (b+n)) 0
def encT (b:Nat) (s:Ptb):List AV:=.bool true::U0 13 7 fun n=>fcell (s.at_ n) (H5 b n (s.sg n))
def B2 (b:Nat) (s:Ptb):List AV:=U0 13 6 (fun n=>fcell (s.at_ n) .undef)++(List.range 13).map fun n=>H5 b n (s.sg n)
def I4 (enc:Sg→List AV):Option Sg→List AV
 | none=>[]
 | some p=>enc p
def setsL (enc:Sg→List AV) (s:Ptb):List AV:=(List.range 13).map fun n=>.agg (I4 enc (s.sg n))
theorem Q8 (b:Nat) (s:Ptb):(encT b s).length=92:=by simp [encT,I2]
theorem Gc (b:Nat) (s:Ptb):(B2 b s).length=91:=by simp [B2,I2]
theorem F8 {enc:Sg→List AV} (s:Ptb):(setsL enc s).length=13:=by simp [setsL]
theorem K9 {enc:Sg→List AV} {s:Ptb} {n:Nat} (hn:n<13):A1 (setsL enc s) n=I4 enc (s.sg n):=by
 unfold A1 setsL;rw [List.getElem?_map,List.getElem?_range hn];rfl
section
variable {b n:Nat} {s:Ptb}
theorem lB {k:Nat} (hn:n<13) (hk:k<7):(encT b s)[n*7+(k+1)]?=some (fcell (s.at_ n) (H5 b n (s.sg n)) k):=by
 unfold encT;rw [show n*7+(k+1)=(n*7+k)+1 by omega,List.getElem?_cons_succ,R8 hn hk]
theorem Zz {k:Nat} (hn:n<13) (hk:k<6):(B2 b s)[n*6+k]?=some (fcell (s.at_ n) .undef k):=by
 unfold B2;rw [List.getElem?_append_left (by rw [I2];omega),R8 hn hk]
theorem U_ptr (hn:n<13):(B2 b s)[n+78]?=some (H5 b n (s.sg n)):=by
 unfold B2;rw [List.getElem?_append_right (by rw [I2];omega),I2,show n+78 - 13*6=n by omega,List.getElem?_map,List.getElem?_range hn];rfl
variable (hn:n<13)
include hn
theorem T_num:isI .i64 (encT b s) (n*7+1)=true∧A0 (encT b s) (n*7+1)=(s.at_ n).num:=by simp [isI,A0,lB (b:=b) (s:=s) (k:=0) hn (by omega),fcell]
theorem uV:isI .i64 (encT b s) (n*7+4)=true∧A0 (encT b s) (n*7+4)=(s.at_ n).usr:=by simp [isI,A0,lB (b:=b) (s:=s) (k:=3) hn (by omega),fcell]
theorem T_en:isB (encT b s) (n*7+5)=true∧A5 (encT b s) (n*7+5)=(s.at_ n).en:=by simp [isB,A5,lB (b:=b) (s:=s) (k:=4) hn (by omega),fcell]
theorem uW:(encT b s)[n*7+7]?=some (H5 b n (s.sg n)):=lB (k:=6) hn (by omega)
theorem Vm:isI .i64 (B2 b s) (n*6)=true∧A0 (B2 b s) (n*6)=(s.at_ n).num:=by
 have:=Zz (b:=b) (s:=s) (k:=0) hn (by omega)
 rw [Nat.add_zero] at this;simp [isI,A0,this,fcell]
theorem U_par:isI .i64 (B2 b s) (n*6+1)=true∧A0 (B2 b s) (n*6+1)=(s.at_ n).par:=by simp [isI,A0,Zz (b:=b) (s:=s) (k:=1) hn (by omega),fcell]
theorem U_grp:isI .i64 (B2 b s) (n*6+2)=true∧A0 (B2 b s) (n*6+2)=(s.at_ n).grp:=by simp [isI,A0,Zz (b:=b) (s:=s) (k:=2) hn (by omega),fcell]
theorem Zy:isI .i64 (B2 b s) (n*6+3)=true∧A0 (B2 b s) (n*6+3)=(s.at_ n).usr:=by simp [isI,A0,Zz (b:=b) (s:=s) (k:=3) hn (by omega),fcell]
theorem pC:isB (B2 b s) (n*6+4)=true∧A5 (B2 b s) (n*6+4)=(s.at_ n).en:=by simp [isB,A5,Zz (b:=b) (s:=s) (k:=4) hn (by omega),fcell]
theorem U_st:isI .i64 (B2 b s) (n*6+5)=true∧A0 (B2 b s) (n*6+5)=(s.at_ n).st:=by simp [isI,A0,Zz (b:=b) (s:=s) (k:=5) hn (by omega),fcell]
theorem lA:subL (encT b s) (n*7+1) 7=[.int .i64 (s.at_ n).num,.int .i64 (s.at_ n).par,.int .i64 (s.at_ n).grp,.int .i64 (s.at_ n).usr,.bool (s.at_ n).en,.int .i64 (s.at_ n).st,H5 b n (s.sg n)]:=by
 have:subL (encT b s) (n*7+1) 7=subL (U0 13 7 fun n=>fcell (s.at_ n) (H5 b n (s.sg n))) (n*7) 7:=by
  unfold subL encT;rw [List.drop_succ_cons]
 rw [this,aV hn];rfl
theorem U_row:subL (B2 b s) (n*6) 6=[.int .i64 (s.at_ n).num,.int .i64 (s.at_ n).par,.int .i64 (s.at_ n).grp,.int .i64 (s.at_ n).usr,.bool (s.at_ n).en,.int .i64 (s.at_ n).st]:=by
 have:subL (B2 b s) (n*6) 6=subL (U0 13 6 fun n=>fcell (s.at_ n) .undef) (n*6) 6:=by
  unfold subL B2;rw [List.drop_append_of_le_length (by rw [I2];omega),List.take_append_of_le_length (by rw [List.length_drop,I2];omega)]
 rw [this,aV hn];rfl
end
def V7 (s:Ptb) (c:Nat) (x:Pc):Ptb:={ s with at_:=fun j=>if j=c then x else s.at_ j }
def R7 (s:Ptb) (c:Nat) (o:Option Sg):Ptb:={ s with sg:=fun j=>if j=c then o else s.sg j }
theorem T_set {b n k:Nat} {s:Ptb} {v:AV} {x:Pc} (hk:k<6) (hv:∀ l,v≠.agg l) (hx:∀ j,j<7→fcell x (H5 b n (s.sg n)) j=if j=k then v else fcell (s.at_ n) (H5 b n (s.sg n)) j) :
  setPart (encT b s) (n*7+(k+1)) v=encT b (V7 s n x):=by
 rw [N6 hv];unfold encT;rw [show n*7+(k+1)=(n*7+k)+1 by omega,List.set_cons_succ,Pb (by omega)];congr 1;refine O1 fun a j _ hj=>?_;show _=fcell (if a=n then x else s.at_ a) (H5 b a (s.sg a)) j;by_cases e:a=n
 ·subst e;rw [if_pos rfl,hx j hj];by_cases e2:j=k
  ·rw [if_pos ⟨rfl,e2⟩,if_pos e2]
  ·rw [if_neg fun h=>e2 h.2,if_neg e2]
 ·rw [if_neg fun h=>e h.1,if_neg e]
theorem U_set {b n k:Nat} {s:Ptb} {v:AV} {x:Pc} (hn:n<13) (hk:k<6) (hv:∀ l,v≠.agg l) (hx:∀ j,j<6→fcell x .undef j=if j=k then v else fcell (s.at_ n) .undef j) :
  setPart (B2 b s) (n*6+k) v=B2 b (V7 s n x):=by
 rw [N6 hv];unfold B2;rw [List.set_append_left _ _ (by rw [I2];omega),Pb (by omega)];congr 1;refine O1 fun a j _ hj=>?_;show _=fcell (if a=n then x else s.at_ a) .undef j;by_cases e:a=n
 ·subst e;rw [if_pos rfl,hx j hj];by_cases e2:j=k
  ·rw [if_pos ⟨rfl,e2⟩,if_pos e2]
  ·rw [if_neg fun h=>e2 h.2,if_neg e2]
 ·rw [if_neg fun h=>e h.1,if_neg e]
def P5 (x:Pc) (p:AV):List AV:=[.int .i64 x.num,.int .i64 x.par,.int .i64 x.grp,.int .i64 x.usr,.bool x.en,.int .i64 x.st,p]
def M3 (x:Pc):List AV:=[.int .i64 x.num,.int .i64 x.par,.int .i64 x.grp,.int .i64 x.usr,.bool x.en,.int .i64 x.st]
def encV (p:Nat→AV) (s:Ptb):List AV:=.bool true::U0 13 7 fun n=>fcell (s.at_ n) (p n)
def C3 (p:Nat→AV) (s:Ptb):List AV:=U0 13 6 (fun n=>fcell (s.at_ n) .undef)++(List.range 13).map p
theorem Ta (b:Nat) (s:Ptb):encT b s=encV (fun n=>H5 b n (s.sg n)) s:=rfl
theorem eG (b:Nat) (s:Ptb):B2 b s=C3 (fun n=>H5 b n (s.sg n)) s:=rfl
theorem uU {p:Nat→AV} {n:Nat} {s:Ptb} {x:Pc} {v:AV} (hn:n<13):setPart (encV p s) (n*7+1) (.agg (P5 x v))=encV (fun j=>if j=n then v else p j) (V7 s n x):=by
 show Hk (encV p s) (n*7+1) (P5 x v)=_
 have e:Hk (encV p s) (n*7+1) (P5 x v)=.bool true::Hk (U0 13 7 fun n=>fcell (s.at_ n) (p n)) (n*7) (P5 x v):=by
  unfold Hk encV;rw [List.take_succ_cons,show n*7+1+(P5 x v).length=(n*7+(P5 x v).length)+1 by omega,List.drop_succ_cons,List.cons_append]
 rw [e,lQ (z:=7) hn rfl];unfold encV;congr 1;refine O1 fun a j _ hj=>?_;show _=fcell (if a=n then x else s.at_ a) (if a=n then v else p a) j;by_cases c:a=n
 ·rw [if_pos c,if_pos c,if_pos c]
  match j,hj with
  | 0,_ | 1,_ | 2,_ | 3,_ | 4,_ | 5,_ | 6,_=>rfl
 ·rw [if_neg c,if_neg c,if_neg c]
theorem V_ptr {p:Nat→AV} {n:Nat} {s:Ptb} {v:AV} (hv:∀ l,v≠.agg l):setPart (encV p s) (n*7+7) v=encV (fun j=>if j=n then v else p j) s:=by
 rw [N6 hv];unfold encV;rw [show n*7+7=(n*7+6)+1 by omega,List.set_cons_succ,Pb (by omega)];congr 1;refine O1 fun a j _ hj=>?_;show _=fcell (s.at_ a) (if a=n then v else p a) j;by_cases c:a=n
 ·rw [if_pos c];by_cases e2:j=6
  ·rw [if_pos ⟨c,e2⟩,e2];rfl
  ·rw [if_neg fun h=>e2 h.2]
   match j,(show j<6 by omega) with
   | 0,_ | 1,_ | 2,_ | 3,_ | 4,_ | 5,_=>rfl
 ·rw [if_neg fun h=>c h.1,if_neg c]
theorem V_set {p:Nat→AV} {n k:Nat} {s:Ptb} {v:AV} {x:Pc} (hk:k<6) (hv:∀ l,v≠.agg l) (hx:∀ j,j<6→fcell x .undef j=if j=k then v else fcell (s.at_ n) .undef j) :
  setPart (encV p s) (n*7+(k+1)) v=encV p (V7 s n x):=by
 rw [N6 hv];unfold encV;rw [show n*7+(k+1)=(n*7+k)+1 by omega,List.set_cons_succ,Pb (by omega)];congr 1;refine O1 fun a j _ hj=>?_;show _=fcell (if a=n then x else s.at_ a) (p a) j;by_cases e:a=n
 ·subst e;rw [if_pos rfl];by_cases e2:j=k
  ·rw [if_pos ⟨rfl,e2⟩]
   have:=hx j (by omega)
   rw [if_pos e2] at this;rw [←this]
   match j,(show j<6 by omega) with
   | 0,_ | 1,_ | 2,_ | 3,_ | 4,_ | 5,_=>rfl
  ·rw [if_neg fun h=>e2 h.2];by_cases e3:j<6
   ·have:=hx j e3
    rw [if_neg e2] at this
    match j,e3,this with
    | 0,_,t | 1,_,t | 2,_,t | 3,_,t | 4,_,t | 5,_,t=>exact t.symm
   ·have:j=6:=by omega
    subst this;rfl
 ·rw [if_neg fun h=>e h.1,if_neg e]
end Go.Am
