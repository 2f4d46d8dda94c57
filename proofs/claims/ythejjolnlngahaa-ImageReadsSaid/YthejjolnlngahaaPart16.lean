/-
  Wire: a flag and bytes are read. Wire, plainly: what was written is read, for the image's seat.
-/
import Derived.Test.YthejjolnlngahaaPart15
import Derived.Test.YthejjolnlngahaaBase5
namespace Go.Am
open Go.Proofs
open IntKind renaming wrap → wS
open Int renaming toNat → wZ
set_option maxRecDepth 100000
section
variable (G:Nat→List AV) (B:Nat)
def readQ:List (Nat×DSum):=[(86,readS)]
theorem aK1 :P8 (za G B) readQ:=.cons (mA G B) .nil
theorem dgQ :DGood (za G B) (Dc Try.prog [92,87,88] readQ [] 2) []:=C7 (mix G B) (by kernel_rfl) (aK1 G B) .nil
theorem w23 (s:List AV) (n:Nat) (a:Int) (Q:Ex→List AV→Hp→Prop) (R:AV→Hp→Prop):vT G Q R (H5 (Dc Try.prog [92,87,88] readQ [] 2) 200 10 Try.f91 [.ptr (.rw 0) (.lit 0)] [some ⟨1,.of [.slice false (.rw 1) (.lit 0) (.var 4 n),.int .i64 (.var 5 a)]⟩,some ⟨1,.var 6 s⟩] 2)=(
  (((wS .i64 ((n:Int) - a):Int)==0)=true→R (.tup [.bool false,.int .i64 4]) [some ⟨1,([.slice false (.rw 1) 0 n,.int .i64 a]:List AV)⟩,some ⟨1,s⟩])∧(((wS .i64 ((n:Int) - a):Int)==0)=false→decide ((0:Int)≤a)=true∧decide ((a:Int)<(n:Int))=true∧isI .u8 s (wZ a)=true∧(decide ((A2 s (wZ a):Int)>1)=true→R (.tup [.bool false,.int .i64 4]) [some ⟨1,([.slice false (.rw 1) 0 n,.int .i64 a]:List AV)⟩,some ⟨1,s⟩])∧(decide ((A2 s (wZ a):Int)>1)=false→decide ((0:Int)≤wS .i64 (wS .i64 (a+1) - 1))=true∧decide ((wS .i64 (wS .i64 (a+1) - 1):Int)<(n:Int))=true∧isI .u8 s (wZ (wS .i64 (wS .i64 (a+1) - 1)))=true∧R (.tup [.bool (((A2 s (wZ (wS .i64 (wS .i64 (a+1) - 1))):Int)==1)),.int .i64 0]) [some ⟨1,([.slice false (.rw 1) 0 n,.int .i64 (wS .i64 (a+1))]:List AV)⟩,some ⟨1,s⟩]))):=by kernel_rfl
theorem w22 (s:List AV) (n:Nat) (a m:Int) (Q:Ex→List AV→Hp→Prop) (R:AV→Hp→Prop):vT G Q R (H5 (Dc Try.prog [92,87,88] readQ [] 2) 200 10 Try.f89 [.ptr (.rw 0) (.lit 0),.int .i64 (.var 7 m)] [some ⟨1,.of [.slice false (.rw 1) (.lit 0) (.var 4 n),.int .i64 (.var 5 a)]⟩,some ⟨1,.var 6 s⟩] 4)=(
  (decide ((m:Int)<0)=true→R (.tup [.nils,.int .i64 2]) [some ⟨1,([.slice false (.rw 1) 0 n,.int .i64 a]:List AV)⟩,some ⟨1,s⟩])∧(decide ((m:Int)<0)=false→okRdU [.agg s,.ptr (.rw 0) n,.int .i64 a]=true∧(((C0 [.agg s,.int .i64 a]:Int)==0)=true→(decide ((A7 [.agg s,.int .i64 a]:Int)>wS .u64 m)=true→R (.tup [.nils,.int .i64 3]) [some ⟨1,([.slice false (.rw 1) 0 n,.int .i64 a]:List AV)⟩,some ⟨1,s⟩])∧(decide ((A7 [.agg s,.int .i64 a]:Int)>wS .u64 m)=false→((C0 [.agg s,.int .i64 a]:Int)==0)=true∧(decide ((wS .i64 (A7 [.agg s,.int .i64 a]):Int)>wS .i64 ((n:Int) - A3 [.agg s,.int .i64 a]))=true→R (.tup [.nils,.int .i64 4]) [some ⟨1,([.slice false (.rw 1) 0 n,.int .i64 a]:List AV)⟩,some ⟨1,s⟩])∧(decide ((wS .i64 (A7 [.agg s,.int .i64 a]):Int)>wS .i64 ((n:Int) - A3 [.agg s,.int .i64 a]))=false→decide ((0:Int)≤wS .i64 (wS .i64 (A3 [.agg s,.int .i64 a]+wS .i64 (A7 [.agg s,.int .i64 a])) - wS .i64 (A7 [.agg s,.int .i64 a])))=true∧decide ((wS .i64 (wS .i64 (A3 [.agg s,.int .i64 a]+wS .i64 (A7 [.agg s,.int .i64 a])) - wS .i64 (A7 [.agg s,.int .i64 a])):Int)≤wS .i64 (A3 [.agg s,.int .i64 a]+wS .i64 (A7 [.agg s,.int .i64 a])))=true∧decide ((wS .i64 (A3 [.agg s,.int .i64 a]+wS .i64 (A7 [.agg s,.int .i64 a])):Int)≤(n:Int))=true∧
 leB (wZ (wS .i64 (wS .i64 (A3 [.agg s,.int .i64 a]+wS .i64 (A7 [.agg s,.int .i64 a])) - wS .i64 (A7 [.agg s,.int .i64 a])))+((wZ (wS .i64 (A3 [.agg s,.int .i64 a]+wS .i64 (A7 [.agg s,.int .i64 a])))) - (wZ (wS .i64 (wS .i64 (A3 [.agg s,.int .i64 a]+wS .i64 (A7 [.agg s,.int .i64 a])) - wS .i64 (A7 [.agg s,.int .i64 a])))))) (List.length s)=true∧cellsB (A0 s (wZ (wS .i64 (wS .i64 (A3 [.agg s,.int .i64 a]+wS .i64 (A7 [.agg s,.int .i64 a])) - wS .i64 (A7 [.agg s,.int .i64 a])))) ((wZ (wS .i64 (A3 [.agg s,.int .i64 a]+wS .i64 (A7 [.agg s,.int .i64 a])))) - (wZ (wS .i64 (wS .i64 (A3 [.agg s,.int .i64 a]+wS .i64 (A7 [.agg s,.int .i64 a])) - wS .i64 (A7 [.agg s,.int .i64 a]))))))=true∧leB ((wZ (wS .i64 (A3 [.agg s,.int .i64 a]+wS .i64 (A7 [.agg s,.int .i64 a])))) - (wZ (wS .i64 (wS .i64 (A3 [.agg s,.int .i64 a]+wS .i64 (A7 [.agg s,.int .i64 a])) - wS .i64 (A7 [.agg s,.int .i64 a]))))) 140737488355328=true∧
 R (.tup [.slice false (.rw 3) 0 ((wZ (wS .i64 (A3 [.agg s,.int .i64 a]+wS .i64 (A7 [.agg s,.int .i64 a])))) - (wZ (wS .i64 (wS .i64 (A3 [.agg s,.int .i64 a]+wS .i64 (A7 [.agg s,.int .i64 a])) - wS .i64 (A7 [.agg s,.int .i64 a]))))),.int .i64 0]) [some ⟨1,([.slice false (.rw 1) 0 n,.int .i64 (wS .i64 (A3 [.agg s,.int .i64 a]+wS .i64 (A7 [.agg s,.int .i64 a])))]:List AV)⟩,some ⟨1,s⟩,none,some ⟨1,(A0 s (wZ (wS .i64 (wS .i64 (A3 [.agg s,.int .i64 a]+wS .i64 (A7 [.agg s,.int .i64 a])) - wS .i64 (A7 [.agg s,.int .i64 a])))) ((wZ (wS .i64 (A3 [.agg s,.int .i64 a]+wS .i64 (A7 [.agg s,.int .i64 a])))) - (wZ (wS .i64 (wS .i64 (A3 [.agg s,.int .i64 a]+wS .i64 (A7 [.agg s,.int .i64 a])) - wS .i64 (A7 [.agg s,.int .i64 a]))))))⟩])))∧(((C0 [.agg s,.int .i64 a]:Int)==0)=false→(!(((C0 [.agg s,.int .i64 a]:Int)==0)))=true∧(!(((C0 [.agg s,.int .i64 a]:Int)==0)))=true∧(!(((C0 [.agg s,.int .i64 a]:Int)==0)))=true∧R (.tup [.nils,.int .i64 (C0 [.agg s,.int .i64 a])]) [some ⟨1,([.slice false (.rw 1) 0 n,.int .i64 a]:List AV)⟩,some ⟨1,s⟩]))):=by kernel_rfl
def Aj (l:List AV) (a:Nat):Bool:=decide (a<l.length)&&decide (A2 l a≤1)
def R5 (xs:List AV):Bool:=match xs with
 | [.agg l,.int _ a]=>Aj l a.toNat&&(A2 l a.toNat==1)
 | _=>false
def W9 (xs:List AV):Int:=match xs with
 | [.agg l,.int _ a]=>if Aj l a.toNat then 0 else 4
 | _=>4
def V3 (xs:List AV):Int:=match xs with
 | [.agg l,.int _ a]=>if Aj l a.toNat then a+1 else a
 | _=>0
theorem flag23 (s:List AV) (n:Nat) (a:Int) (h:okRdU [.agg s,.ptr (.rw 0) n,.int .i64 a]=true):ACalls (za G B) 91 [.ptr (.rw 0) 0] [some ⟨1,[.slice false (.rw 1) 0 n,.int .i64 a]⟩,some ⟨1,s⟩]
  fun v' H'=>v'=.tup [.bool (R5 [.agg s,.int .i64 a]),.int .i64 (W9 [.agg s,.int .i64 a])]∧H'=[some ⟨1,[.slice false (.rw 1) 0 n,.int .i64 (V3 [.agg s,.int .i64 a])]⟩,some ⟨1,s⟩]:=by
 have ok:=E0.1 h;have hf:∀ j,A6 j s=true:=fun j=>B7 (G9 ok.b);have hp:=ok.pos;have hle:=ok.le;have hbig:=ok.big;have hlen:=ok.len
 have key:=C8 (C:=(za G B)) (fn:=Try.f91) (f:=91) (R:=fun v' H'=>v'=.tup [.bool (R5 [.agg s,.int .i64 a]),.int .i64 (W9 [.agg s,.int .i64 a])]∧H'=[some ⟨1,[.slice false (.rw 1) 0 n,.int .i64 (V3 [.agg s,.int .i64 a])]⟩,some ⟨1,s⟩])
  (dgQ G B) (by kernel_rfl) (by kernel_rfl) (by kernel_rfl) (fuel:=200) (n0:=10) (keep:=2) (args:=[.ptr (.rw 0) (.lit 0)]) (H:=[some ⟨1,.of [.slice false (.rw 1) (.lit 0) (.var 4 n),.int .i64 (.var 5 a)]⟩,some ⟨1,.var 6 s⟩]) (by
  rw [w23];have w1:wS .i64 ((n:Int) - a)=(n:Int) - a:=B5 (by omega);have w2:wS .i64 (a+1)=a+1:=B5 (by omega);have w3:wS .i64 (a+1 - 1)=a:=by rw [B5 (by omega)];omega
  rw [w1,w2,w3];refine ⟨fun h0=>?_,fun h0=>?_⟩
  ·have h0:=eq_of_beq h0
   have:Aj s a.toNat=false:=by simp [Aj];omega
   simp [R5,W9,V3,this]
  ·have h0:=ne_of_beq_false h0;have hl:a.toNat<s.length:=by omega
   obtain ⟨g1,g2,g3⟩:=Xq ok.b hl;have p0:decide ((0:Int)≤a)=true:=yI (by omega);have p1:decide (a<(n:Int))=true:=yI (by omega);refine ⟨p0,p1,g1,fun hc=>?_,fun hc=>⟨p0,p1,g1,?_⟩⟩
   ·have hc:=zR hc
    have:Aj s a.toNat=false:=by simp [Aj];omega
    simp [R5,W9,V3,this]
   ·have hc:=sJ hc
    have:Aj s a.toNat=true:=by simp [Aj];omega
    simp [R5,W9,V3,this])
 exact ACalls.keep (H:=[some ⟨1,[.slice false (.rw 1) 0 n,.int .i64 a]⟩,some ⟨1,s⟩]) key (by simp) (by simp [I1,A6,B0,hf]) (by simp [B0,A6]) (by simp)
theorem E1.reader {C:A1} {f:FuncId} {H:DHp} {i m:Nat} {n:EN} {a a':EI} {l:EL} {rest:List EV} {v:EV} (him:i≠m) (hi:H[i]?=some (some ⟨1,.of [.slice false (.rw m) (.lit 0) n,.int .i64 a]⟩)) (hm:H[m]?=some (some ⟨1,l⟩))
  (hf:∀ j,A6 j (vL C.G l)=true) (hr:A6 0 (vVs C.G rest)=true) (hv:B0 0 (vV C.G v)=true)
  (key:ACalls C f (.ptr (.rw 0) 0::vVs C.G rest) [some ⟨1,[.slice false (.rw 1) 0 (vN C.G n),.int .i64 (vI C.G a)]⟩,some ⟨1,vL C.G l⟩] fun v' H'=>v'=vV C.G v∧H'=[some ⟨1,[.slice false (.rw 1) 0 (vN C.G n),.int .i64 (vI C.G a')]⟩,some ⟨1,vL C.G l⟩]) :
  E1 C f (.ptr (.rw i) (.lit 0)::rest) H v [.set i ⟨1,.of [.slice false (.rw m) (.lit 0) n,.int .i64 a']⟩]:=by
 refine E1.fr (θ:=[i,m]) (by simp [him]) rfl (fun k b hk=>?_) (by simp only [A6,B0,zO];exact ⟨by simp,G2 (zA8 _) _ hr⟩) (by simp only [vVs,vV,vR,vN,rens,C2,B4 _ _ hr];rfl) key (by simp) (Sc (zA8 _) _ hv) (by simp [I1,hf,A6,B0]) (Hw _ _ hv).symm ?_
 ·match k with
  | 0=>simp at hk;subst hk;exact ⟨_,rfl,by simp [A6,B0],by simpa [I7,C6,vL,vVs,vV,vR,vN,rens,C2] using G4 (G:=C.G) hi⟩
  | 1=>simp at hk;subst hk;exact ⟨_,rfl,hf _,by simpa [I7,C6,B4 _ _ (hf 0)] using G4 (G:=C.G) hm⟩
  | k+2=>simp at hk
 ·have hs:=Cp (G:=C.G) hm;simp only [C6] at hs;simp only [List.map_cons,List.map_nil,acts,Hop.act,I6,C6,T6,lay,P9,I7,Option.map_some,B4 _ _ (hf 0),List.length_cons,List.length_nil,List.drop_succ_cons,List.drop_nil,List.append_nil,vL,vVs,vV,vR,vN,vI];rw [List.set_comm _ _ him,hs];simp [rens,C2,J5]
def flagR:DSum:=fun xs H=>match xs with
 | [.ptr (.rw i) (.lit 0)]=>match H[i]? with
  | some (some ⟨1,.of [.slice false (.rw m) (.lit 0) n,.int .i64 a]⟩)=>match H[m]? with
   | some (some ⟨1,l⟩)=>match Nat.beq i m with
    | true=>none
    | false=>some (.chk (.uf 1120 okRdU [.agg l,.ptr (.rw 0) n,.int .i64 a]) (.one (.tup [.bool (.uf 1125 R5 [.agg l,.int .i64 a]),.int .i64 (.uf 1126 W9 [.agg l,.int .i64 a])]) [.set i ⟨1,.of [.slice false (.rw m) (.lit 0) n,.int .i64 (.uf 1127 V3 [.agg l,.int .i64 a])]⟩]))
   | _=>none
  | _=>none
 | _=>none
theorem aO1 :DSumOk (za G B) 91 flagR:=by
 intro xs H o ho;simp only [flagR] at ho;split at ho
 ·rename_i i;split at ho
  ·rename_i m n a hi;split at ho
   ·rename_i l hm;split at ho
    ·simp at ho
    ·rename_i him;have him:i≠m:=fun h=>by rw [h,zA9] at him;simp at him
     simp only [zN] at ho;subst ho;intro h1;simp only [vB,vVs,vV,vR,vN] at h1;refine E1.reader (C:=(za G B)) (rest:=[]) him hi hm (fun j=>B7 (G9 (E0.1 h1).b)) rfl (by simp [vV,vVs,B0,A6]) ?_;simp only [vVs,vV,vB,vI];exact flag23 G B (vL G l) (vN G n) (vI G a) h1
   ·simp at ho
  ·simp at ho
 ·simp at ho
theorem kU {s:List AV} {t:Nat}:∀ (f k v j:Nat),Au s t f k=some (v,j)→t+k+j≤s.length
 | 0,_,_,_,h=>by simp [Au] at h
 | f+1,k,v,j,h=>by
  rw [Au] at h;split at h
  ·rename_i hl;split at h
   ·simp at h
   ·split at h
    ·simp at h;omega
    ·cases hr:Au s t f (k+1) with
     | none=>rw [hr] at h;simp at h
     | some p=>
      rw [hr] at h
      have:=kU f (k+1) p.1 p.2 hr
      simp at h;omega
  ·simp at h
theorem Hx {l:List AV} {n:Nat} {k:IntKind} {a:Int} (h:D8 l n a) (h0:C0 [.agg l,.int k a]=0):0≤A7 [.agg l,.int k a]∧a≤A3 [.agg l,.int k a]∧A3 [.agg l,.int k a]≤n:=by
 have hp:=h.pos;have hl:=h.len;simp only [C0,A7,A3] at h0 ⊢;cases hw:wrd l a.toNat with
 | none=>rw [hw] at h0;simp at h0
 | some p=>
  obtain ⟨v,j⟩:=p
  have:=kU _ _ _ _ hw
  simp only [hw];omega
def M6 (l:List AV) (n:Nat) (a m:Int):Bool:=decide (C0 [.agg l,.int .i64 a]=0)&&(decide (A7 [.agg l,.int .i64 a]≤m)&&decide (A7 [.agg l,.int .i64 a]≤(n:Int) - A3 [.agg l,.int .i64 a]))
def L7 (xs:List AV):Int:=match xs with
 | [.agg l,.ptr _ n,.int _ a,.int _ m]=>if C0 [.agg l,.int .i64 a]=0 then (if A7 [.agg l,.int .i64 a]≤m then (if A7 [.agg l,.int .i64 a]≤(n:Int) - A3 [.agg l,.int .i64 a] then 0 else 4) else 3) else C0 [.agg l,.int .i64 a]
 | _=>4
def I4 (xs:List AV):Nat:=match xs with
 | [.agg l,.ptr _ n,.int _ a,.int _ m]=>if M6 l n a m then (A7 [.agg l,.int .i64 a]).toNat else 0
 | _=>0
def J9 (xs:List AV):List AV:=match xs with
 | [.agg l,.ptr _ n,.int _ a,.int _ m]=>if M6 l n a m then A0 l (A3 [.agg l,.int .i64 a]).toNat (A7 [.agg l,.int .i64 a]).toNat else []
 | _=>[]
def D5 (xs:List AV):Int:=match xs with
 | [.agg l,.ptr _ n,.int _ a,.int _ m]=>if M6 l n a m then A3 [.agg l,.int .i64 a]+A7 [.agg l,.int .i64 a] else a
 | _=>0
theorem aQ3 (s:List AV) (n:Nat) (a m:Int) (h:okRdU [.agg s,.ptr (.rw 0) n,.int .i64 a]=true) (h40:n≤1099511627776) (hm:0≤m∧m≤9223372036854775807):ACalls (za G B) 89 [.ptr (.rw 0) 0,.int .i64 m] [some ⟨1,[.slice false (.rw 1) 0 n,.int .i64 a]⟩,some ⟨1,s⟩]
  fun v' H'=>(M6 s n a m=false∧v'=.tup [.nils,.int .i64 (L7 [.agg s,.ptr (.rw 0) n,.int .i64 a,.int .i64 m])]∧H'.take 4=[some ⟨1,[.slice false (.rw 1) 0 n,.int .i64 a]⟩,some ⟨1,s⟩])∨
   (M6 s n a m=true∧v'=.tup [.slice false (.rw 3) 0 (I4 [.agg s,.ptr (.rw 0) n,.int .i64 a,.int .i64 m]),.int .i64 0]∧H'.take 4=[some ⟨1,[.slice false (.rw 1) 0 n,.int .i64 (D5 [.agg s,.ptr (.rw 0) n,.int .i64 a,.int .i64 m])]⟩,some ⟨1,s⟩,none,some ⟨1,J9 [.agg s,.ptr (.rw 0) n,.int .i64 a,.int .i64 m]⟩]):=by
 have ok:=E0.1 h;have hp:=ok.pos;have hle:=ok.le;have hlen:=ok.len
 exact C8 (C:=(za G B)) (fn:=Try.f89) (f:=89) (R:=fun v' H'=>(M6 s n a m=false∧v'=.tup [.nils,.int .i64 (L7 [.agg s,.ptr (.rw 0) n,.int .i64 a,.int .i64 m])]∧H'=[some ⟨1,[.slice false (.rw 1) 0 n,.int .i64 a]⟩,some ⟨1,s⟩])∨
   (M6 s n a m=true∧v'=.tup [.slice false (.rw 3) 0 (I4 [.agg s,.ptr (.rw 0) n,.int .i64 a,.int .i64 m]),.int .i64 0]∧H'=[some ⟨1,[.slice false (.rw 1) 0 n,.int .i64 (D5 [.agg s,.ptr (.rw 0) n,.int .i64 a,.int .i64 m])]⟩,some ⟨1,s⟩,none,some ⟨1,J9 [.agg s,.ptr (.rw 0) n,.int .i64 a,.int .i64 m]⟩]))
  (dgQ G B) (by kernel_rfl) (by kernel_rfl) (by kernel_rfl) (fuel:=200) (n0:=10) (keep:=4) (args:=[.ptr (.rw 0) (.lit 0),.int .i64 (.var 7 m)]) (H:=[some ⟨1,.of [.slice false (.rw 1) (.lit 0) (.var 4 n),.int .i64 (.var 5 a)]⟩,some ⟨1,.var 6 s⟩]) (by
  rw [w22];have wm:wS .u64 m=m:=Bj (by omega);rw [wm];refine ⟨fun h0=>absurd (zR h0) (by omega),fun _=>⟨h,fun he=>?_,fun he=>?_⟩⟩
  ·have he:=eq_of_beq he;obtain ⟨b1,b2,b3⟩:=Hx (k:=.i64) ok he;refine ⟨fun hv=>?_,fun hv=>⟨by rw [he];rfl,?_⟩⟩
   ·have hv:=zR hv;exact .inl ⟨by simp [M6];omega,by simp only [L7,he,if_true];rw [if_neg (by omega)],rfl⟩
   ·have hv:=sJ hv;have w1:wS .i64 (A7 [.agg s,.int .i64 a])=A7 [.agg s,.int .i64 a]:=B5 (by omega);have w2:wS .i64 ((n:Int) - A3 [.agg s,.int .i64 a])=(n:Int) - A3 [.agg s,.int .i64 a]:=B5 (by omega);rw [w1,w2];refine ⟨fun hc=>?_,fun hc=>?_⟩
    ·have hc:=zR hc;exact .inl ⟨by simp [M6];omega,by simp only [L7,he,if_true];rw [if_pos (by omega),if_neg (by omega)],rfl⟩
    ·have hc:=sJ hc;have w3:wS .i64 (A3 [.agg s,.int .i64 a]+A7 [.agg s,.int .i64 a])=A3 [.agg s,.int .i64 a]+A7 [.agg s,.int .i64 a]:=B5 (by omega);have w4:wS .i64 (A3 [.agg s,.int .i64 a]+A7 [.agg s,.int .i64 a] - A7 [.agg s,.int .i64 a])=A3 [.agg s,.int .i64 a]:=by rw [B5 (by omega)];omega
     have w5:(A3 [.agg s,.int .i64 a]+A7 [.agg s,.int .i64 a]).toNat - (A3 [.agg s,.int .i64 a]).toNat=(A7 [.agg s,.int .i64 a]).toNat:=by omega
     have hok:M6 s n a m=true:=by simp [M6,he];omega
     rw [w3,w4,w5];exact ⟨yI (by omega),yI (by omega),yI (by omega),A8.2 (by omega),F9 (by have:=G9 ok.b;simp only [u8s,qD,A0] at this ⊢;exact fun v hv=>this v (List.mem_of_mem_drop (List.mem_of_mem_take hv))),A8.2 (by omega),.inr ⟨hok,by simp [I4,hok],by simp [D5,J9,hok]⟩⟩
  ·have he:=ne_of_beq_false he;have hb:(C0 [.agg s,.int .i64 a]==0)=false:=by simp [he]
   rw [hb]
   exact ⟨rfl,rfl,rfl,.inl ⟨by simp [M6,he],by simp [L7,he],rfl⟩⟩)
theorem Rb {xs:List AV} (h:∀ l r n k a k' m,xs=[.agg l,.ptr r n,.int k a,.int k' m]→u8s l=true) (j:Nat):A6 j (J9 xs)=true:=by
 unfold J9;split
 ·rename_i l r n k a k' m;have hl:=h l r n k a k' m rfl;split
  ·refine B7 ?_;simp only [u8s,qD,A0] at hl ⊢;exact fun v hv=>hl v (List.mem_of_mem_drop (List.mem_of_mem_take hv))
  ·rfl
 ·rfl
theorem bD5 (s:List AV) (n:Nat) (a m:Int) (h:okRdU [.agg s,.ptr (.rw 0) n,.int .i64 a]=true) (h40:n≤1099511627776) (hm:0≤m∧m≤9223372036854775807):ACalls (za G B) 89 [.ptr (.rw 0) 0,.int .i64 m] [some ⟨1,[.slice false (.rw 1) 0 n,.int .i64 a]⟩,some ⟨1,s⟩]
  fun v' H'=>v'=.tup [.slice true (.rw 2) 0 (I4 [.agg s,.ptr (.rw 0) n,.int .i64 a,.int .i64 m]),.int .i64 (L7 [.agg s,.ptr (.rw 0) n,.int .i64 a,.int .i64 m])]∧H'=[some ⟨1,[.slice false (.rw 1) 0 n,.int .i64 (D5 [.agg s,.ptr (.rw 0) n,.int .i64 a,.int .i64 m])]⟩,some ⟨1,s⟩,some ⟨1,J9 [.agg s,.ptr (.rw 0) n,.int .i64 a,.int .i64 m]⟩]:=by
 have ok:=E0.1 h;have hs:=G9 ok.b;have hf:∀ j,A6 j s=true:=fun j=>B7 hs;have hc:∀ j,A6 j (J9 [.agg s,.ptr (.rw 0) n,.int .i64 a,.int .i64 m])=true:=fun j=>Rb (fun l r n' k a' k' m' he=>by simp at he;rw [←he.1];exact hs) j
 have h1:=(aQ3 G B s n a m h h40 hm).view (K':=fun v' H'=>(M6 s n a m=false∧v'=.tup [.nils,.int .i64 (L7 [.agg s,.ptr (.rw 0) n,.int .i64 a,.int .i64 m])]∧H'=[some ⟨1,[.slice false (.rw 1) 0 n,.int .i64 a]⟩,some ⟨1,s⟩])∨
   (M6 s n a m=true∧v'=.tup [.slice false (.rw 2) 0 (I4 [.agg s,.ptr (.rw 0) n,.int .i64 a,.int .i64 m]),.int .i64 0]∧H'=[some ⟨1,[.slice false (.rw 1) 0 n,.int .i64 (D5 [.agg s,.ptr (.rw 0) n,.int .i64 a,.int .i64 m])]⟩,some ⟨1,s⟩,some ⟨1,J9 [.agg s,.ptr (.rw 0) n,.int .i64 a,.int .i64 m]⟩])) (fun v H' hk=>by
  rcases hk with ⟨g1,rfl,g3⟩ | ⟨g1,rfl,g3⟩
  ·refine ⟨_,_,.inl ⟨g1,rfl,rfl⟩,?_⟩
   have e:H'=[some ⟨1,[.slice false (.rw 1) 0 n,.int .i64 a]⟩,some ⟨1,s⟩]++H'.drop 4:=by
    have:=List.take_append_drop 4 H'
    rw [g3] at this;exact this.symm
   rw [e];exact C5.same (by simp) (by simp [I1,A6,B0,hf]) ⟨⟨by simp [B0,A6],rfl⟩,trivial⟩
  ·refine ⟨_,_,.inr ⟨g1,rfl,rfl⟩,?_⟩
   have e:H'=some ⟨1,[.slice false (.rw 1) 0 n,.int .i64 (D5 [.agg s,.ptr (.rw 0) n,.int .i64 a,.int .i64 m])]⟩::some ⟨1,s⟩::none::some ⟨1,J9 [.agg s,.ptr (.rw 0) n,.int .i64 a,.int .i64 m]⟩::H'.drop 4:=by
    have:=List.take_append_drop 4 H'
    rw [g3] at this;exact this.symm
   rw [e]
   exact C5.renM (θ:=[0,1,3]) (by simp) Vd (by decide) ⟨⟨by simp [A6,B0],by simp [rens,C2]⟩,⟨hf _,by rw [B4 _ _ (hf 0)];rfl⟩,⟨hc _,by rw [B4 _ _ (hc 0)];rfl⟩,trivial⟩ (by simp [A6,B0]) (by simp [rens,C2,wk]))
 have h2:=h1.nil (K':=fun v' H'=>∃ b,v'=.tup [.slice b (.rw 2) 0 (I4 [.agg s,.ptr (.rw 0) n,.int .i64 a,.int .i64 m]),.int .i64 (L7 [.agg s,.ptr (.rw 0) n,.int .i64 a,.int .i64 m])]∧H'=[some ⟨1,[.slice false (.rw 1) 0 n,.int .i64 (D5 [.agg s,.ptr (.rw 0) n,.int .i64 a,.int .i64 m])]⟩,some ⟨1,s⟩,some ⟨1,J9 [.agg s,.ptr (.rw 0) n,.int .i64 a,.int .i64 m]⟩]) 1 (fun v H' hk=>by
  rcases hk with ⟨g1,rfl,rfl⟩ | ⟨g1,rfl,rfl⟩
  ·refine .inr ⟨_,⟨true,rfl,?_⟩,Jm _,?_⟩
   ·simp [D5,J9,g1]
   ·have:I4 [.agg s,.ptr (.rw 0) n,.int .i64 a,.int .i64 m]=0:=by simp [I4,g1]
    rw [this];exact ⟨.inr ⟨rfl,rfl⟩,.inl rfl,trivial⟩
  ·have:L7 [.agg s,.ptr (.rw 0) n,.int .i64 a,.int .i64 m]=0:=by
    simp only [M6,zO,qC] at g1;simp only [L7,g1.1,if_true];rw [if_pos g1.2.1,if_pos g1.2.2]
   exact .inl ⟨false,by rw [this],rfl⟩)
 refine h2.conv fun v H' hk=>?_;obtain ⟨b,rfl,rfl⟩:=hk;refine ⟨_,⟨rfl,rfl⟩,fun ρ cv hv=>?_⟩;simp only [VR] at hv;obtain ⟨vs,e,hs⟩:=hv;simp only [VRs] at hs;obtain ⟨x,ys,e1,e2,e3⟩:=hs;simp only [VR,VRs];exact ⟨vs,e,x,ys,e1,by have:=Dj (ρ:=ρ) (v:=x) (mb:=b) (by simpa only [VR] using e2);simpa only [VR] using this,e3⟩
def bytesR:DSum:=fun xs H=>match xs with
 | [.ptr (.rw i) (.lit 0),.int .i64 m']=>match H[i]? with
  | some (some ⟨1,.of [.slice false (.rw m) (.lit 0) n,.int .i64 a]⟩)=>match H[m]? with
   | some (some ⟨1,l⟩)=>match Nat.beq i m with
    | true=>none
    | false=>some (.chk (.uf 1120 okRdU [.agg l,.ptr (.rw 0) n,.int .i64 a]) (.chk (.leN n (.lit 1099511627776)) (.chk (.cmp .leq (.lit 0) m') (.chk (.cmp .leq m' (.lit 9223372036854775807))
     (.one (.tup [.slice true (.rw H.length) (.lit 0) (.uf 1129 I4 [.agg l,.ptr (.rw 0) n,.int .i64 a,.int .i64 m']),.int .i64 (.uf 1128 L7 [.agg l,.ptr (.rw 0) n,.int .i64 a,.int .i64 m'])]) [.set i ⟨1,.of [.slice false (.rw m) (.lit 0) n,.int .i64 (.uf 1131 D5 [.agg l,.ptr (.rw 0) n,.int .i64 a,.int .i64 m'])]⟩,.new ⟨1,.uf 1130 J9 [.agg l,.ptr (.rw 0) n,.int .i64 a,.int .i64 m']⟩])))))
   | _=>none
  | _=>none
 | _=>none
theorem aC4 :DSumOk (za G B) 89 bytesR:=by
 intro xs H o ho;simp only [bytesR] at ho;split at ho
 ·rename_i i m';split at ho
  ·rename_i m n a hi;split at ho
   ·rename_i l hm;split at ho
    ·simp at ho
    ·rename_i him;have him:i≠m:=fun h=>by rw [h,zA9] at him;simp at him
     simp only [zN] at ho;subst ho;intro h1 h2 h3 h4;simp only [vB,vVs,vV,vR,vN,Ov,qC,vI] at h1 h2 h3 h4;have hu:=G9 (E0.1 h1).b;have hf:∀ j,A6 j (vL G l)=true:=fun j=>B7 hu;have key:=bD5 G B (vL G l) (vN G n) (vI G a) (vI G m') h1 (A8.1 h2) ⟨zR h3,zR h4⟩;have hc:∀ j,A6 j (J9 [.agg (vL G l),.ptr (.rw 0) (vN G n),.int .i64 (vI G a),.int .i64 (vI G m')])=true:=fun j=>Rb (fun l' r n' k a' k' m' he=>by simp at he;rw [←he.1];exact hu) j
     refine E1.fr (θ:=[i,m]) (by simp [him]) rfl (fun k b hk=>?_) (by simp [A6,B0]) (by simp [vVs,vV,vR,vN,rens,C2]) key (by simp) (by simp [B0,A6]) (by simp [I1,hf,hc,A6,B0]) (by simp [vV,vVs,vR,vN,vI,C2,rens,J5]) ?_
     ·match k with
      | 0=>simp at hk;subst hk;exact ⟨_,rfl,by simp [A6,B0],by simpa [I7,C6,vL,vVs,vV,vR,vN,rens,C2] using G4 (G:=G) hi⟩
      | 1=>simp at hk;subst hk;exact ⟨_,rfl,hf _,by simpa [I7,C6,B4 _ _ (hf 0)] using G4 (G:=G) hm⟩
      | k+2=>simp at hk
     ·have hs:=Cp (G:=G) hm;simp only [C6] at hs;simp only [List.map_cons,List.map_nil,acts,Hop.act,I6,C6,T6,lay,P9,I7,Option.map_some,B4 _ _ (hf 0),B4 _ _ (hc 0),List.length_cons,List.length_nil,List.drop_succ_cons,List.drop_zero,vL,vVs,vV,vR,vN,vI];rw [List.set_comm _ _ him,hs];simp [rens,C2,J5]
   ·simp at ho
  ·simp at ho
 ·simp at ho
end
theorem Us {s:List AV} {a:Nat} {k:IntKind} {n:Int} {r:List AV} (h:s.drop a=.int k n::r):a<s.length∧A2 s a=n∧s.drop (a+1)=r:=by
 have h1:s[a]?=some (.int k n):=by
  have:=congrArg (fun l:List AV=>l[0]?) h
  simpa [List.getElem?_drop] using this
 have h2:a<s.length:=by
  have:=(zP.1 h1).1;exact this
 refine ⟨h2,by simp [A2,h1],?_⟩;have h3:=List.drop_drop (i:=1) (j:=a) (l:=s);rw [←h3,h];rfl
theorem gA {s:List AV} {t:Nat}:∀ (f k v:Nat) (r:List AV),f+k=10→v*128^k≤18446744073709551615→v<128^f→(0<k→0<v)→s.drop (t+k)=A9 (Hi f v)++r→Au s t f k=some (v,(Hi f v).length)
 | 0,k,v,r,_,_,hv,h0,_=>by
  simp at hv;omega
 | f+1,k,v,r,hk,hb,hv,h0,hs=>by
  rw [Au];by_cases hl:v<128
  ·rw [Wt hl,Hb (by omega)] at hs;obtain ⟨g1,g2,g3⟩:=Us hs;rw [g2,if_pos g1]
   have:¬((k=9∧1<(v:Int).toNat)∨(0<k∧(v:Int).toNat=0)):=by
    rintro (⟨rfl,h⟩ | ⟨h,h'⟩)
    ·have e:128^9=9223372036854775808:=by decide
     rw [e] at hb;omega
    ·have:=h0 h;omega
   rw [if_neg this,if_pos (by omega),Wt hl];simp
  ·rw [mT hl] at hs ⊢
   have hs':s.drop (t+k)=.int .u8 ((v % 128+128:Nat):Int)::(A9 (Hi f (v / 128))++r):=by
    rw [hs,show UInt8.ofNat (v % 128+128)::Hi f (v / 128)=[UInt8.ofNat (v % 128+128)]++Hi f (v / 128) from rfl,Br,Hb (by omega)];rfl
   obtain ⟨g1,g2,g3⟩:=Us hs';rw [g2,if_pos g1]
   have:¬((k=9∧1<((v % 128+128:Nat):Int).toNat)∨(0<k∧((v % 128+128:Nat):Int).toNat=0)):=by
    rintro (⟨rfl,h⟩ | ⟨h,h'⟩)
    ·have e:128^9=9223372036854775808:=by decide
     rw [e] at hb;omega
    ·omega
   rw [if_neg this,if_neg (by omega)]
   have hp:v / 128*128^(k+1)≤v*128^k:=by
    rw [Nat.pow_succ,Nat.mul_comm (128^k) 128,←Nat.mul_assoc];exact Nat.mul_le_mul (Nat.div_mul_le_self v 128) (zA7 _)
   have:=gA f (k+1) (v / 128) r (by omega) (by omega) (by rw [Nat.div_lt_iff_lt_mul (by omega)];rw [Nat.pow_succ] at hv;exact hv) (fun _=>by omega) (by rw [←Nat.add_assoc];exact g3)
   rw [this];simp only [Option.map_some,List.length_cons,zN,xH,and_true];omega
theorem aE2 {s:List AV} {t v:Nat} {r:List AV} (hv:v≤18446744073709551615) (hs:s.drop t=A9 (Ix v)++r):wrd s t=some (v,(Ix v).length):=
 gA 10 0 v r rfl (by simpa using hv) (by have:=mG;omega) (fun h=>absurd h (by omega)) (by rw [Nat.add_zero];exact hs)
def progR:List (Nat×DSum):=[(86,readS),(91,flagR),(89,bytesR)]
theorem L8 (G:Nat→List AV) (B:Nat):P8 (za G B) progR:=.cons (mA G B) (.cons (aO1 G B) (.cons (aC4 G B) .nil))
theorem t63r (G:Nat→List AV) (s xs:List AV) (n c k:Nat) (a b:Int) (Q:Ex→List AV→Hp→Prop) (R:AV→Hp→Prop):vT G Q R (H4 (Dc Try.prog [61,64,70,85] progR [] 2) 300 20 2 (A5 Try.f63 0) 59 [0,2,6,7,8,9,10,11,12] [.ptr (.rw 0) (.lit 0),.func 64 [],.nils,.int .i64 (.lit 0),.int .i64 (.var 1 b),.int .i64 (.ofN (.var 2 c)),.int .i64 (.lit 0),.slice false (.rw 2) (.lit 0) (.var 3 k),.int .i64 (.ofN (.var 3 k))] [some ⟨1,.of [.slice false (.rw 1) (.lit 0) (.var 4 n),.int .i64 (.var 5 a)]⟩,some ⟨1,.var 6 s⟩,some ⟨4,.var 9 xs⟩])=(
  (decide (((k:Int):Int)<(c:Int))=true→okRdU [.agg s,.ptr (.rw 0) n,.int .i64 a]=true∧(((C0 [.agg s,.int .i64 a]:Int)==0)=true→(decide ((A7 [.agg s,.int .i64 a]:Int)>131072)=true→False)∧(decide ((A7 [.agg s,.int .i64 a]:Int)>131072)=false→okRdU [.agg s,.ptr (.rw 0) n,.int .i64 (A3 [.agg s,.int .i64 a])]=true∧(((C0 [.agg s,.int .i64 (A3 [.agg s,.int .i64 a])]:Int)==0)=true→(decide ((A7 [.agg s,.int .i64 (A3 [.agg s,.int .i64 a])]:Int)>131072)=true→False)∧(decide ((A7 [.agg s,.int .i64 (A3 [.agg s,.int .i64 a])]:Int)>131072)=false→okRdU [.agg s,.ptr (.rw 0) n,.int .i64 (A3 [.agg s,.int .i64 (A3 [.agg s,.int .i64 a])])]=true∧leB n 1099511627776=true∧decide ((0:Int)≤8192)=true∧decide ((8192:Int)≤9223372036854775807)=true∧(((L7 [.agg s,.ptr (.rw 0) n,.int .i64 (A3 [.agg s,.int .i64 (A3 [.agg s,.int .i64 a])]),.int .i64 8192]:Int)==0)=true→okRdU [.agg s,.ptr (.rw 0) n,.int .i64 (D5 [.agg s,.ptr (.rw 0) n,.int .i64 (A3 [.agg s,.int .i64 (A3 [.agg s,.int .i64 a])]),.int .i64 8192])]=true∧(((C0 [.agg s,.int .i64 (D5 [.agg s,.ptr (.rw 0) n,.int .i64 (A3 [.agg s,.int .i64 (A3 [.agg s,.int .i64 a])]),.int .i64 8192])]:Int)==0)=true→(decide ((A7 [.agg s,.int .i64 (D5 [.agg s,.ptr (.rw 0) n,.int .i64 (A3 [.agg s,.int .i64 (A3 [.agg s,.int .i64 a])]),.int .i64 8192])]:Int)>131072)=true→False)∧(decide ((A7 [.agg s,.int .i64 (D5 [.agg s,.ptr (.rw 0) n,.int .i64 (A3 [.agg s,.int .i64 (A3 [.agg s,.int .i64 a])]),.int .i64 8192])]:Int)>131072)=false→leB ((k+1)*48) 140737488355328=true∧Nat.beq (List.length xs) (k*4)=true∧
 Q .normal [.ptr (.rw 0) 0,.func 64 [],.nils,.int .i64 0,.int .i64 b,.int .i64 ((c:Int)),.int .i64 0,.slice false (.rw 8) 0 (k+1),.int .i64 (wS .i64 ((k:Int)+1))] [some ⟨1,([.slice false (.rw 1) 0 n,.int .i64 (A3 [.agg s,.int .i64 (D5 [.agg s,.ptr (.rw 0) n,.int .i64 (A3 [.agg s,.int .i64 (A3 [.agg s,.int .i64 a])]),.int .i64 8192])])]:List AV)⟩,some ⟨1,s⟩,none,some ⟨1,([.int .i64 (wS .i64 (A7 [.agg s,.int .i64 a])),.int .i64 (wS .i64 (A7 [.agg s,.int .i64 (A3 [.agg s,.int .i64 a])])),.slice true (.rw 5) 0 (I4 [.agg s,.ptr (.rw 0) n,.int .i64 (A3 [.agg s,.int .i64 (A3 [.agg s,.int .i64 a])]),.int .i64 8192]),.int .i64 (wS .i64 (A7 [.agg s,.int .i64 (D5 [.agg s,.ptr (.rw 0) n,.int .i64 (A3 [.agg s,.int .i64 (A3 [.agg s,.int .i64 a])]),.int .i64 8192])]))]:List AV)⟩,some ⟨1,([.int .i64 (wS .i64 (A7 [.agg s,.int .i64 a])),.int .i64 (wS .i64 (A7 [.agg s,.int .i64 (A3 [.agg s,.int .i64 a])])),.slice true (.rw 5) 0 (I4 [.agg s,.ptr (.rw 0) n,.int .i64 (A3 [.agg s,.int .i64 (A3 [.agg s,.int .i64 a])]),.int .i64 8192]),.int .i64 (wS .i64 (A7 [.agg s,.int .i64 (D5 [.agg s,.ptr (.rw 0) n,.int .i64 (A3 [.agg s,.int .i64 (A3 [.agg s,.int .i64 a])]),.int .i64 8192])]))]:List AV)⟩,some ⟨1,(J9 [.agg s,.ptr (.rw 0) n,.int .i64 (A3 [.agg s,.int .i64 (A3 [.agg s,.int .i64 a])]),.int .i64 8192])⟩,some ⟨1,([.int .i64 (wS .i64 (A7 [.agg s,.int .i64 a])),.int .i64 (wS .i64 (A7 [.agg s,.int .i64 (A3 [.agg s,.int .i64 a])])),.slice true (.rw 5) 0 (I4 [.agg s,.ptr (.rw 0) n,.int .i64 (A3 [.agg s,.int .i64 (A3 [.agg s,.int .i64 a])]),.int .i64 8192]),.int .i64 (wS .i64 (A7 [.agg s,.int .i64 (D5 [.agg s,.ptr (.rw 0) n,.int .i64 (A3 [.agg s,.int .i64 (A3 [.agg s,.int .i64 a])]),.int .i64 8192])]))]:List AV)⟩,some ⟨4,([.int .i64 (wS .i64 (A7 [.agg s,.int .i64 a])),.int .i64 (wS .i64 (A7 [.agg s,.int .i64 (A3 [.agg s,.int .i64 a])])),.slice true (.rw 5) 0 (I4 [.agg s,.ptr (.rw 0) n,.int .i64 (A3 [.agg s,.int .i64 (A3 [.agg s,.int .i64 a])]),.int .i64 8192]),.int .i64 (wS .i64 (A7 [.agg s,.int .i64 (D5 [.agg s,.ptr (.rw 0) n,.int .i64 (A3 [.agg s,.int .i64 (A3 [.agg s,.int .i64 a])]),.int .i64 8192])]))]:List AV)⟩,some ⟨4,(xs++([.int .i64 (wS .i64 (A7 [.agg s,.int .i64 a])),.int .i64 (wS .i64 (A7 [.agg s,.int .i64 (A3 [.agg s,.int .i64 a])])),.slice true (.rw 5) 0 (I4 [.agg s,.ptr (.rw 0) n,.int .i64 (A3 [.agg s,.int .i64 (A3 [.agg s,.int .i64 a])]),.int .i64 8192]),.int .i64 (wS .i64 (A7 [.agg s,.int .i64 (D5 [.agg s,.ptr (.rw 0) n,.int .i64 (A3 [.agg s,.int .i64 (A3 [.agg s,.int .i64 a])]),.int .i64 8192])]))]:List AV))⟩]))∧
 (((C0 [.agg s,.int .i64 (D5 [.agg s,.ptr (.rw 0) n,.int .i64 (A3 [.agg s,.int .i64 (A3 [.agg s,.int .i64 a])]),.int .i64 8192])]:Int)==0)=false→False))∧(((L7 [.agg s,.ptr (.rw 0) n,.int .i64 (A3 [.agg s,.int .i64 (A3 [.agg s,.int .i64 a])]),.int .i64 8192]:Int)==0)=false→False)))∧(((C0 [.agg s,.int .i64 (A3 [.agg s,.int .i64 a])]:Int)==0)=false→False)))∧(((C0 [.agg s,.int .i64 a]:Int)==0)=false→False))∧(decide (((k:Int):Int)<(c:Int))=false→Q (.exit 0) [.ptr (.rw 0) 0,.func 64 [],.nils,.int .i64 0,.int .i64 b,.int .i64 ((c:Int)),.int .i64 0,.slice false (.rw 2) 0 k,.int .i64 ((k:Int))] [some ⟨1,([.slice false (.rw 1) 0 n,.int .i64 a]:List AV)⟩,some ⟨1,s⟩,some ⟨4,xs⟩])):=by kernel_rfl
theorem t66r (G:Nat→List AV) (s xs:List AV) (n c k:Nat) (a b:Int) (Q:Ex→List AV→Hp→Prop) (R:AV→Hp→Prop):vT G Q R (H4 (Dc Try.prog [61,67,85,90] progR [] 2) 300 20 2 (A5 Try.f66 0) 59 [0,2,6,7,8,9,10,11,12] [.ptr (.rw 0) (.lit 0),.func 67 [],.nils,.int .i64 (.lit 0),.int .i64 (.var 1 b),.int .i64 (.ofN (.var 2 c)),.int .i64 (.lit 0),.slice false (.rw 2) (.lit 0) (.var 3 k),.int .i64 (.ofN (.var 3 k))] [some ⟨1,.of [.slice false (.rw 1) (.lit 0) (.var 4 n),.int .i64 (.var 5 a)]⟩,some ⟨1,.var 6 s⟩,some ⟨2,.var 9 xs⟩])=(
  (decide (((k:Int):Int)<(c:Int))=true→okRdU [.agg s,.ptr (.rw 0) n,.int .i64 a]=true∧(((C0 [.agg s,.int .i64 a]:Int)==0)=true→(decide ((A7 [.agg s,.int .i64 a]:Int)>131072)=true→False)∧(decide ((A7 [.agg s,.int .i64 a]:Int)>131072)=false→okRdU [.agg s,.ptr (.rw 0) n,.int .i64 (A3 [.agg s,.int .i64 a])]=true∧(((W9 [.agg s,.int .i64 (A3 [.agg s,.int .i64 a])]:Int)==0)=true→leB ((k+1)*16) 140737488355328=true∧Nat.beq (List.length xs) (k*2)=true∧Q .normal [.ptr (.rw 0) 0,.func 67 [],.nils,.int .i64 0,.int .i64 b,.int .i64 ((c:Int)),.int .i64 0,.slice false (.rw 6) 0 (k+1),.int .i64 (wS .i64 ((k:Int)+1))] [some ⟨1,([.slice false (.rw 1) 0 n,.int .i64 (V3 [.agg s,.int .i64 (A3 [.agg s,.int .i64 a])])]:List AV)⟩,some ⟨1,s⟩,none,some ⟨1,([.int .i64 (wS .i64 (A7 [.agg s,.int .i64 a])),.bool (R5 [.agg s,.int .i64 (A3 [.agg s,.int .i64 a])])]:List AV)⟩,some ⟨1,([.int .i64 (wS .i64 (A7 [.agg s,.int .i64 a])),.bool (R5 [.agg s,.int .i64 (A3 [.agg s,.int .i64 a])])]:List AV)⟩,some ⟨2,([.int .i64 (wS .i64 (A7 [.agg s,.int .i64 a])),.bool (R5 [.agg s,.int .i64 (A3 [.agg s,.int .i64 a])])]:List AV)⟩,some ⟨2,(xs++([.int .i64 (wS .i64 (A7 [.agg s,.int .i64 a])),.bool (R5 [.agg s,.int .i64 (A3 [.agg s,.int .i64 a])])]:List AV))⟩])∧(((W9 [.agg s,.int .i64 (A3 [.agg s,.int .i64 a])]:Int)==0)=false→False)))∧(((C0 [.agg s,.int .i64 a]:Int)==0)=false→False))∧(decide (((k:Int):Int)<(c:Int))=false→
 Q (.exit 0) [.ptr (.rw 0) 0,.func 67 [],.nils,.int .i64 0,.int .i64 b,.int .i64 ((c:Int)),.int .i64 0,.slice false (.rw 2) 0 k,.int .i64 ((k:Int))] [some ⟨1,([.slice false (.rw 1) 0 n,.int .i64 a]:List AV)⟩,some ⟨1,s⟩,some ⟨2,xs⟩])):=by kernel_rfl
theorem T2 {s u v:List AV} {t:Nat} (h:s.drop t=u++v):s.drop (t+u.length)=v:=by
 rw [←List.drop_drop,h,List.drop_left]
theorem Nj {s r:List AV} {t:Nat} {x:Int} (hx:X2 x=true) (h:s.drop t=fN x++r):C0 [.agg s,.int .i64 (t:Int)]=0∧A7 [.agg s,.int .i64 (t:Int)]=x∧A3 [.agg s,.int .i64 (t:Int)]=((t+(fN x).length:Nat):Int):=by
 have h0:=N5.1 hx;have e:wrd s t=some (x.toNat,(Ix x.toNat).length):=aE2 (r:=r) (by omega) h;have l:(fN x).length=(Ix x.toNat).length:=K9 _;simp only [C0,A7,A3,Int.toNat_natCast,e,l];exact ⟨trivial,by omega,trivial⟩
theorem rb_at {s d r:List AV} {t n M:Nat} (hd:d.length≤M) (ht:t≤n) (hn:s.length=n) (hb:n≤1099511627776) (h:s.drop t=fN (d.length:Int)++(d++r)):L7 [.agg s,.ptr (.rw 0) n,.int .i64 (t:Int),.int .i64 (M:Int)]=0∧I4 [.agg s,.ptr (.rw 0) n,.int .i64 (t:Int),.int .i64 (M:Int)]=d.length∧J9 [.agg s,.ptr (.rw 0) n,.int .i64 (t:Int),.int .i64 (M:Int)]=d∧D5 [.agg s,.ptr (.rw 0) n,.int .i64 (t:Int),.int .i64 (M:Int)]=((t+(fN (d.length:Int)).length+d.length:Nat):Int):=by
 have hl:n - t=(fN (d.length:Int)).length+(d.length+r.length):=by
  have:=congrArg List.length h
  rw [List.length_drop,hn,zA6,zA6] at this;exact this
 obtain ⟨e1,e2,e3⟩:=Nj (x:=(d.length:Int)) (N5.2 (by omega)) h
 have ok:M6 s n (t:Int) (M:Int)=true:=by
  unfold M6;rw [e1,e2,e3];simp only [zO,qC];exact ⟨trivial,by omega,by omega⟩
 have e4:=T2 h;refine ⟨?_,?_,?_,?_⟩
 ·simp only [L7,e1,e2,e3];rw [if_pos trivial,if_pos (by omega),if_pos (by omega)]
 ·simp only [I4,ok,e2,if_true];omega
 ·simp only [J9,ok,e2,e3,if_true,Int.toNat_natCast,A0,e4,List.take_left]
 ·simp only [D5,ok,e2,e3,if_true];omega
theorem rf_at {s r:List AV} {t:Nat} {b:Bool} (h:s.drop t=.int .u8 (Z1 [.bool b])::r):W9 [.agg s,.int .i64 (t:Int)]=0∧R5 [.agg s,.int .i64 (t:Int)]=b∧V3 [.agg s,.int .i64 (t:Int)]=((t+1:Nat):Int):=by
 obtain ⟨g1,g2,_⟩:=Us h
 have ok:Aj s t=true:=by
  simp only [Aj,g2,zO,qC];cases b<;>exact ⟨g1,by decide⟩
 simp only [W9,R5,V3,Int.toNat_natCast,ok,g2,if_true,Bool.true_and];refine ⟨trivial,?_,by omega⟩;cases b<;>decide
theorem aG {G:Nat→List AV} {cs:List AV} {k:Nat}:∀ {n:Nat},k<n→∃ t,B9 G cs n=B9 G cs k++(Fo G cs k++t)
 | n+1,h=>by
  by_cases e:k=n
  ·subst e;exact ⟨[],by rw [B9,List.append_nil]⟩
  ·obtain ⟨t,ht⟩:=aG (k:=k) (n:=n) (by omega);exact ⟨t++Fo G cs n,by rw [B9,ht];simp only [List.append_assoc]⟩
theorem Yb {ps:List AV} {k:Nat}:∀ {n:Nat},k<n→∃ t,B6 ps n=B6 ps k++(Ay ps k++t)
 | n+1,h=>by
  by_cases e:k=n
  ·subst e;exact ⟨[],by rw [B6,List.append_nil]⟩
  ·obtain ⟨t,ht⟩:=Yb (k:=k) (n:=n) (by omega);exact ⟨t++Ay ps n,by rw [B6,ht];simp only [List.append_assoc]⟩
theorem mB {s:List AV} {n t:Nat} (h8:E4 s=true) (hn:s.length=n) (hb:n≤1000000) (ht:t≤n):okRdU [.agg s,.ptr (.rw 0) n,.int .i64 (t:Int)]=true:=E0.2 ⟨h8,hn,by omega,by omega,by omega⟩
def oY (cs:List AV) (n:Nat):Prop:=∀ j,j<n→(0≤sA cs j∧sA cs j≤8192)∧(0≤sR cs j∧sR cs j≤7)∧0≤sZ cs j∧sZ cs j≤8192
theorem aX6 {s:Int} {cs ps:List AV} {n m:Nat} (h:K1 s cs n ps m=true):oY cs n:=fun j hj=>by
 have:=Q6.1 (Ie h j hj).2.2.2
 exact ⟨⟨this.2.1.1,this.2.1.2.1⟩,⟨by omega,this.2.2.1.2⟩,this.1.1,this.1.2.1⟩
end Go.Am
