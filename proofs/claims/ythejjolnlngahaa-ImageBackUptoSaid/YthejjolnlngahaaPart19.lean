/-
  Wire: a flag and bytes are read. Wire, plainly: what was written is read, for the image's seat.
-/
import Derived.Test.YthejjolnlngahaaPart18
import Derived.Test.YthejjolnlngahaaBase5
import Derived.TacticsInMore
import Derived.Test.YthejjolnlngahaaPart14
namespace Go.Am
open Go.Proofs
set_option maxRecDepth 100000
section
variable (G:Nat→List AV) (B:Nat)
def readQ:List (Nat×DSum):=[(86,readS)]
theorem aH4 :Q8 (⟨Try.prog,G,B⟩:A0) readQ:=.cons (mC G B) .nil
theorem dgQ :L6 (⟨Try.prog,G,B⟩:A0) (Dc Try.prog [92,87,88] readQ [] 2) []:=D7 (mix G B) (by kernel_rfl) (aH4 G B) .nil
theorem w23 (s:List AV) (n:Nat) (a:Int) (Q:Ex→List AV→Hp→Prop) (R:AV→Hp→Prop):vT G Q R (G0 (Dc Try.prog [92,87,88] readQ [] 2) 200 10 Try.f91 [.ptr (.rw 0) (.lit 0)] [some ⟨1,.of [.slice false (.rw 1) (.lit 0) (.var 4 n),.int .i64 (.var 5 a)]⟩,some ⟨1,.var 6 s⟩] 2)=(
  (((IntKind.wrap .i64 ((n:Int) - a):Int)==0)=true→R (.tup [.bool false,.int .i64 4]) [some ⟨1,([.slice false (.rw 1) 0 n,.int .i64 a]:List AV)⟩,some ⟨1,s⟩])∧(((IntKind.wrap .i64 ((n:Int) - a):Int)==0)=false→decide ((0:Int)≤a)=true∧decide ((a:Int)<(n:Int))=true∧isI .u8 s (Int.toNat a)=true∧(decide ((A1 s (Int.toNat a):Int)>1)=true→R (.tup [.bool false,.int .i64 4]) [some ⟨1,([.slice false (.rw 1) 0 n,.int .i64 a]:List AV)⟩,some ⟨1,s⟩])∧(decide ((A1 s (Int.toNat a):Int)>1)=false→decide ((0:Int)≤IntKind.wrap .i64 (IntKind.wrap .i64 (a+1) - 1))=true∧decide ((IntKind.wrap .i64 (IntKind.wrap .i64 (a+1) - 1):Int)<(n:Int))=true∧isI .u8 s (Int.toNat (IntKind.wrap .i64 (IntKind.wrap .i64 (a+1) - 1)))=true∧R (.tup [.bool (((A1 s (Int.toNat (IntKind.wrap .i64 (IntKind.wrap .i64 (a+1) - 1))):Int)==1)),.int .i64 0]) [some ⟨1,([.slice false (.rw 1) 0 n,.int .i64 (IntKind.wrap .i64 (a+1))]:List AV)⟩,some ⟨1,s⟩]))):=by kernel_rfl
theorem w22 (s:List AV) (n:Nat) (a m:Int) (Q:Ex→List AV→Hp→Prop) (R:AV→Hp→Prop):vT G Q R (G0 (Dc Try.prog [92,87,88] readQ [] 2) 200 10 Try.f89 [.ptr (.rw 0) (.lit 0),.int .i64 (.var 7 m)] [some ⟨1,.of [.slice false (.rw 1) (.lit 0) (.var 4 n),.int .i64 (.var 5 a)]⟩,some ⟨1,.var 6 s⟩] 4)=(
  (decide ((m:Int)<0)=true→R (.tup [.nils,.int .i64 2]) [some ⟨1,([.slice false (.rw 1) 0 n,.int .i64 a]:List AV)⟩,some ⟨1,s⟩])∧(decide ((m:Int)<0)=false→okRdU [.agg s,.ptr (.rw 0) n,.int .i64 a]=true∧(((D3 [.agg s,.int .i64 a]:Int)==0)=true→(decide ((B0 [.agg s,.int .i64 a]:Int)>IntKind.wrap .u64 m)=true→R (.tup [.nils,.int .i64 3]) [some ⟨1,([.slice false (.rw 1) 0 n,.int .i64 a]:List AV)⟩,some ⟨1,s⟩])∧(decide ((B0 [.agg s,.int .i64 a]:Int)>IntKind.wrap .u64 m)=false→((D3 [.agg s,.int .i64 a]:Int)==0)=true∧(decide ((IntKind.wrap .i64 (B0 [.agg s,.int .i64 a]):Int)>IntKind.wrap .i64 ((n:Int) - A5 [.agg s,.int .i64 a]))=true→R (.tup [.nils,.int .i64 4]) [some ⟨1,([.slice false (.rw 1) 0 n,.int .i64 a]:List AV)⟩,some ⟨1,s⟩])∧(decide ((IntKind.wrap .i64 (B0 [.agg s,.int .i64 a]):Int)>IntKind.wrap .i64 ((n:Int) - A5 [.agg s,.int .i64 a]))=false→decide ((0:Int)≤IntKind.wrap .i64 (IntKind.wrap .i64 (A5 [.agg s,.int .i64 a]+IntKind.wrap .i64 (B0 [.agg s,.int .i64 a])) - IntKind.wrap .i64 (B0 [.agg s,.int .i64 a])))=true∧decide ((IntKind.wrap .i64 (IntKind.wrap .i64 (A5 [.agg s,.int .i64 a]+IntKind.wrap .i64 (B0 [.agg s,.int .i64 a])) - IntKind.wrap .i64 (B0 [.agg s,.int .i64 a])):Int)≤IntKind.wrap .i64 (A5 [.agg s,.int .i64 a]+IntKind.wrap .i64 (B0 [.agg s,.int .i64 a])))=true∧decide ((IntKind.wrap .i64 (A5 [.agg s,.int .i64 a]+IntKind.wrap .i64 (B0 [.agg s,.int .i64 a])):Int)≤(n:Int))=true∧
 leB (Int.toNat (IntKind.wrap .i64 (IntKind.wrap .i64 (A5 [.agg s,.int .i64 a]+IntKind.wrap .i64 (B0 [.agg s,.int .i64 a])) - IntKind.wrap .i64 (B0 [.agg s,.int .i64 a])))+((Int.toNat (IntKind.wrap .i64 (A5 [.agg s,.int .i64 a]+IntKind.wrap .i64 (B0 [.agg s,.int .i64 a])))) - (Int.toNat (IntKind.wrap .i64 (IntKind.wrap .i64 (A5 [.agg s,.int .i64 a]+IntKind.wrap .i64 (B0 [.agg s,.int .i64 a])) - IntKind.wrap .i64 (B0 [.agg s,.int .i64 a])))))) (List.length s)=true∧cellsB (A9 s (Int.toNat (IntKind.wrap .i64 (IntKind.wrap .i64 (A5 [.agg s,.int .i64 a]+IntKind.wrap .i64 (B0 [.agg s,.int .i64 a])) - IntKind.wrap .i64 (B0 [.agg s,.int .i64 a])))) ((Int.toNat (IntKind.wrap .i64 (A5 [.agg s,.int .i64 a]+IntKind.wrap .i64 (B0 [.agg s,.int .i64 a])))) - (Int.toNat (IntKind.wrap .i64 (IntKind.wrap .i64 (A5 [.agg s,.int .i64 a]+IntKind.wrap .i64 (B0 [.agg s,.int .i64 a])) - IntKind.wrap .i64 (B0 [.agg s,.int .i64 a]))))))=true∧leB ((Int.toNat (IntKind.wrap .i64 (A5 [.agg s,.int .i64 a]+IntKind.wrap .i64 (B0 [.agg s,.int .i64 a])))) - (Int.toNat (IntKind.wrap .i64 (IntKind.wrap .i64 (A5 [.agg s,.int .i64 a]+IntKind.wrap .i64 (B0 [.agg s,.int .i64 a])) - IntKind.wrap .i64 (B0 [.agg s,.int .i64 a]))))) 140737488355328=true∧
 R (.tup [.slice false (.rw 3) 0 ((Int.toNat (IntKind.wrap .i64 (A5 [.agg s,.int .i64 a]+IntKind.wrap .i64 (B0 [.agg s,.int .i64 a])))) - (Int.toNat (IntKind.wrap .i64 (IntKind.wrap .i64 (A5 [.agg s,.int .i64 a]+IntKind.wrap .i64 (B0 [.agg s,.int .i64 a])) - IntKind.wrap .i64 (B0 [.agg s,.int .i64 a]))))),.int .i64 0]) [some ⟨1,([.slice false (.rw 1) 0 n,.int .i64 (IntKind.wrap .i64 (A5 [.agg s,.int .i64 a]+IntKind.wrap .i64 (B0 [.agg s,.int .i64 a])))]:List AV)⟩,some ⟨1,s⟩,none,some ⟨1,(A9 s (Int.toNat (IntKind.wrap .i64 (IntKind.wrap .i64 (A5 [.agg s,.int .i64 a]+IntKind.wrap .i64 (B0 [.agg s,.int .i64 a])) - IntKind.wrap .i64 (B0 [.agg s,.int .i64 a])))) ((Int.toNat (IntKind.wrap .i64 (A5 [.agg s,.int .i64 a]+IntKind.wrap .i64 (B0 [.agg s,.int .i64 a])))) - (Int.toNat (IntKind.wrap .i64 (IntKind.wrap .i64 (A5 [.agg s,.int .i64 a]+IntKind.wrap .i64 (B0 [.agg s,.int .i64 a])) - IntKind.wrap .i64 (B0 [.agg s,.int .i64 a]))))))⟩])))∧(((D3 [.agg s,.int .i64 a]:Int)==0)=false→(!(((D3 [.agg s,.int .i64 a]:Int)==0)))=true∧(!(((D3 [.agg s,.int .i64 a]:Int)==0)))=true∧(!(((D3 [.agg s,.int .i64 a]:Int)==0)))=true∧R (.tup [.nils,.int .i64 (D3 [.agg s,.int .i64 a])]) [some ⟨1,([.slice false (.rw 1) 0 n,.int .i64 a]:List AV)⟩,some ⟨1,s⟩]))):=by kernel_rfl
def Ma (l:List AV) (a:Nat):Bool:=decide (a<l.length)&&decide (A1 l a≤1)
def Ey (xs:List AV):Bool:=match xs with
 | [.agg l,.int _ a]=>Ma l a.toNat&&(A1 l a.toNat==1)
 | _=>false
def Ez (xs:List AV):Int:=match xs with
 | [.agg l,.int _ a]=>if Ma l a.toNat then 0 else 4
 | _=>4
def Ho (xs:List AV):Int:=match xs with
 | [.agg l,.int _ a]=>if Ma l a.toNat then a+1 else a
 | _=>0
theorem flag23 (s:List AV) (n:Nat) (a:Int) (h:okRdU [.agg s,.ptr (.rw 0) n,.int .i64 a]=true):ACalls (⟨Try.prog,G,B⟩:A0) 91 [.ptr (.rw 0) 0] [some ⟨1,[.slice false (.rw 1) 0 n,.int .i64 a]⟩,some ⟨1,s⟩]
  fun v' H'=>v'=.tup [.bool (Ey [.agg s,.int .i64 a]),.int .i64 (Ez [.agg s,.int .i64 a])]∧H'=[some ⟨1,[.slice false (.rw 1) 0 n,.int .i64 (Ho [.agg s,.int .i64 a])]⟩,some ⟨1,s⟩]:=by
 have ok:=J9.1 h;have hf:∀ j,A3 j s=true:=fun j=>C4 (O3 ok.b);have hp:=ok.pos;have hle:=ok.le;have hbig:=ok.big;have hlen:=ok.len
 have key:=C1 (C:=(⟨Try.prog,G,B⟩:A0)) (fn:=Try.f91) (f:=91) (R:=fun v' H'=>v'=.tup [.bool (Ey [.agg s,.int .i64 a]),.int .i64 (Ez [.agg s,.int .i64 a])]∧H'=[some ⟨1,[.slice false (.rw 1) 0 n,.int .i64 (Ho [.agg s,.int .i64 a])]⟩,some ⟨1,s⟩])
  (dgQ G B) (by kernel_rfl) (by kernel_rfl) (by kernel_rfl) (fuel:=200) (n0:=10) (keep:=2) (args:=[.ptr (.rw 0) (.lit 0)]) (H:=[some ⟨1,.of [.slice false (.rw 1) (.lit 0) (.var 4 n),.int .i64 (.var 5 a)]⟩,some ⟨1,.var 6 s⟩]) (by
  rw [w23];have w1:IntKind.wrap .i64 ((n:Int) - a)=(n:Int) - a:=B6 (by omega);have w2:IntKind.wrap .i64 (a+1)=a+1:=B6 (by omega);have w3:IntKind.wrap .i64 (a+1 - 1)=a:=by rw [B6 (by omega)];omega
  rw [w1,w2,w3];refine ⟨fun h0=>?_,fun h0=>?_⟩
  ·have h0:=eq_of_beq h0
   have:Ma s a.toNat=false:=by simp [Ma];omega
   simp [Ey,Ez,Ho,this]
  ·have h0:=ne_of_beq_false h0;have hl:a.toNat<s.length:=by omega
   obtain ⟨g1,g2,g3⟩:=Gb ok.b hl;have p0:decide ((0:Int)≤a)=true:=yM (by omega);have p1:decide (a<(n:Int))=true:=yM (by omega);refine ⟨p0,p1,g1,fun hc=>?_,fun hc=>⟨p0,p1,g1,?_⟩⟩
   ·have hc:=yL hc
    have:Ma s a.toNat=false:=by simp [Ma];omega
    simp [Ey,Ez,Ho,this]
   ·have hc:=yP hc
    have:Ma s a.toNat=true:=by simp [Ma];omega
    simp [Ey,Ez,Ho,this])
 exact ACalls.keep (H:=[some ⟨1,[.slice false (.rw 1) 0 n,.int .i64 a]⟩,some ⟨1,s⟩]) key (by simp) (by simp [H9,A3,A8,hf]) (by simp [A8,A3]) (by simp)
theorem E0.reader {C:A0} {f:FuncId} {H:DHp} {i m:Nat} {n:EN} {a a':EI} {l:EL} {rest:List EV} {v:EV} (him:i≠m) (hi:H[i]?=some (some ⟨1,.of [.slice false (.rw m) (.lit 0) n,.int .i64 a]⟩)) (hm:H[m]?=some (some ⟨1,l⟩))
  (hf:∀ j,A3 j (vL C.G l)=true) (hr:A3 0 (vVs C.G rest)=true) (hv:A8 0 (vV C.G v)=true)
  (key:ACalls C f (.ptr (.rw 0) 0::vVs C.G rest) [some ⟨1,[.slice false (.rw 1) 0 (vN C.G n),.int .i64 (vI C.G a)]⟩,some ⟨1,vL C.G l⟩] fun v' H'=>v'=vV C.G v∧H'=[some ⟨1,[.slice false (.rw 1) 0 (vN C.G n),.int .i64 (vI C.G a')]⟩,some ⟨1,vL C.G l⟩]) :
  E0 C f (.ptr (.rw i) (.lit 0)::rest) H v [.set i ⟨1,.of [.slice false (.rw m) (.lit 0) n,.int .i64 a']⟩]:=by
 refine E0.fr (θ:=[i,m]) (by simp [him]) rfl (fun k b hk=>?_) (by simp only [A3,A8,zN];exact ⟨by simp,G6 (zA2 _) _ hr⟩) (by simp only [vVs,vV,vR,vN,rens,C0,B9 _ _ hr];rfl) key (by simp) (Zx (zA2 _) _ hv) (by simp [H9,hf,A3,A8]) (Hq _ _ hv).symm ?_
 ·match k with
  | 0=>simp at hk;subst hk;exact ⟨_,rfl,by simp [A3,A8],by simpa [K3,D8,vL,vVs,vV,vR,vN,rens,C0] using I3 (G:=C.G) hi⟩
  | 1=>simp at hk;subst hk;exact ⟨_,rfl,hf _,by simpa [K3,D8,B9 _ _ (hf 0)] using I3 (G:=C.G) hm⟩
  | k+2=>simp at hk
 ·have hs:=Gd (G:=C.G) hm;simp only [D8] at hs;simp only [List.map_cons,List.map_nil,acts,Hop.act,J6,D8,X3,lay,R9,K3,Option.map_some,B9 _ _ (hf 0),List.length_cons,List.length_nil,List.drop_succ_cons,List.drop_nil,List.append_nil,vL,vVs,vV,vR,vN,vI];rw [List.set_comm _ _ him,hs];simp [rens,C0,N7]
def flagR:DSum:=fun xs H=>match xs with
 | [.ptr (.rw i) (.lit 0)]=>match H[i]? with
  | some (some ⟨1,.of [.slice false (.rw m) (.lit 0) n,.int .i64 a]⟩)=>match H[m]? with
   | some (some ⟨1,l⟩)=>match Nat.beq i m with
    | true=>none
    | false=>some (.chk (.uf 1120 okRdU [.agg l,.ptr (.rw 0) n,.int .i64 a]) (.one (.tup [.bool (.uf 1125 Ey [.agg l,.int .i64 a]),.int .i64 (.uf 1126 Ez [.agg l,.int .i64 a])]) [.set i ⟨1,.of [.slice false (.rw m) (.lit 0) n,.int .i64 (.uf 1127 Ho [.agg l,.int .i64 a])]⟩]))
   | _=>none
  | _=>none
 | _=>none
theorem aL1 :D4 (⟨Try.prog,G,B⟩:A0) 91 flagR:=by
 intro xs H o ho;simp only [flagR] at ho;split at ho
 ·rename_i i;split at ho
  ·rename_i m n a hi;split at ho
   ·rename_i l hm;split at ho
    ·simp at ho
    ·rename_i him;have him:i≠m:=fun h=>by rw [h,zA3] at him;simp at him
     simp only [zK] at ho;subst ho;intro h1;simp only [vB,vVs,vV,vR,vN] at h1;refine E0.reader (C:=(⟨Try.prog,G,B⟩:A0)) (rest:=[]) him hi hm (fun j=>C4 (O3 (J9.1 h1).b)) rfl (by simp [vV,vVs,A8,A3]) ?_;simp only [vVs,vV,vB,vI];exact flag23 G B (vL G l) (vN G n) (vI G a) h1
   ·simp at ho
  ·simp at ho
 ·simp at ho
theorem kV {s:List AV} {t:Nat}:∀ (f k v j:Nat),Eu s t f k=some (v,j)→t+k+j≤s.length
 | 0,_,_,_,h=>by simp [Eu] at h
 | f+1,k,v,j,h=>by
  rw [Eu] at h;split at h
  ·rename_i hl;split at h
   ·simp at h
   ·split at h
    ·simp at h;omega
    ·cases hr:Eu s t f (k+1) with
     | none=>rw [hr] at h;simp at h
     | some p=>
      rw [hr] at h
      have:=kV f (k+1) p.1 p.2 hr
      simp at h;omega
  ·simp at h
theorem mD {l:List AV} {n:Nat} {k:IntKind} {a:Int} (h:J2 l n a) (h0:D3 [.agg l,.int k a]=0):0≤B0 [.agg l,.int k a]∧a≤A5 [.agg l,.int k a]∧A5 [.agg l,.int k a]≤n:=by
 have hp:=h.pos;have hl:=h.len;simp only [D3,B0,A5] at h0 ⊢;cases hw:wrd l a.toNat with
 | none=>rw [hw] at h0;simp at h0
 | some p=>
  obtain ⟨v,j⟩:=p
  have:=kV _ _ _ _ hw
  simp only [hw];omega
def Cq (l:List AV) (n:Nat) (a m:Int):Bool:=decide (D3 [.agg l,.int .i64 a]=0)&&(decide (B0 [.agg l,.int .i64 a]≤m)&&decide (B0 [.agg l,.int .i64 a]≤(n:Int) - A5 [.agg l,.int .i64 a]))
def Az (xs:List AV):Int:=match xs with
 | [.agg l,.ptr _ n,.int _ a,.int _ m]=>if D3 [.agg l,.int .i64 a]=0 then (if B0 [.agg l,.int .i64 a]≤m then (if B0 [.agg l,.int .i64 a]≤(n:Int) - A5 [.agg l,.int .i64 a] then 0 else 4) else 3) else D3 [.agg l,.int .i64 a]
 | _=>4
def S8 (xs:List AV):Nat:=match xs with
 | [.agg l,.ptr _ n,.int _ a,.int _ m]=>if Cq l n a m then (B0 [.agg l,.int .i64 a]).toNat else 0
 | _=>0
def W5 (xs:List AV):List AV:=match xs with
 | [.agg l,.ptr _ n,.int _ a,.int _ m]=>if Cq l n a m then A9 l (A5 [.agg l,.int .i64 a]).toNat (B0 [.agg l,.int .i64 a]).toNat else []
 | _=>[]
def L0 (xs:List AV):Int:=match xs with
 | [.agg l,.ptr _ n,.int _ a,.int _ m]=>if Cq l n a m then A5 [.agg l,.int .i64 a]+B0 [.agg l,.int .i64 a] else a
 | _=>0
theorem aN0 (s:List AV) (n:Nat) (a m:Int) (h:okRdU [.agg s,.ptr (.rw 0) n,.int .i64 a]=true) (h40:n≤1099511627776) (hm:0≤m∧m≤9223372036854775807):ACalls (⟨Try.prog,G,B⟩:A0) 89 [.ptr (.rw 0) 0,.int .i64 m] [some ⟨1,[.slice false (.rw 1) 0 n,.int .i64 a]⟩,some ⟨1,s⟩]
  fun v' H'=>(Cq s n a m=false∧v'=.tup [.nils,.int .i64 (Az [.agg s,.ptr (.rw 0) n,.int .i64 a,.int .i64 m])]∧H'.take 4=[some ⟨1,[.slice false (.rw 1) 0 n,.int .i64 a]⟩,some ⟨1,s⟩])∨
   (Cq s n a m=true∧v'=.tup [.slice false (.rw 3) 0 (S8 [.agg s,.ptr (.rw 0) n,.int .i64 a,.int .i64 m]),.int .i64 0]∧H'.take 4=[some ⟨1,[.slice false (.rw 1) 0 n,.int .i64 (L0 [.agg s,.ptr (.rw 0) n,.int .i64 a,.int .i64 m])]⟩,some ⟨1,s⟩,none,some ⟨1,W5 [.agg s,.ptr (.rw 0) n,.int .i64 a,.int .i64 m]⟩]):=by
 have ok:=J9.1 h;have hp:=ok.pos;have hle:=ok.le;have hlen:=ok.len
 exact C1 (C:=(⟨Try.prog,G,B⟩:A0)) (fn:=Try.f89) (f:=89) (R:=fun v' H'=>(Cq s n a m=false∧v'=.tup [.nils,.int .i64 (Az [.agg s,.ptr (.rw 0) n,.int .i64 a,.int .i64 m])]∧H'=[some ⟨1,[.slice false (.rw 1) 0 n,.int .i64 a]⟩,some ⟨1,s⟩])∨
   (Cq s n a m=true∧v'=.tup [.slice false (.rw 3) 0 (S8 [.agg s,.ptr (.rw 0) n,.int .i64 a,.int .i64 m]),.int .i64 0]∧H'=[some ⟨1,[.slice false (.rw 1) 0 n,.int .i64 (L0 [.agg s,.ptr (.rw 0) n,.int .i64 a,.int .i64 m])]⟩,some ⟨1,s⟩,none,some ⟨1,W5 [.agg s,.ptr (.rw 0) n,.int .i64 a,.int .i64 m]⟩]))
  (dgQ G B) (by kernel_rfl) (by kernel_rfl) (by kernel_rfl) (fuel:=200) (n0:=10) (keep:=4) (args:=[.ptr (.rw 0) (.lit 0),.int .i64 (.var 7 m)]) (H:=[some ⟨1,.of [.slice false (.rw 1) (.lit 0) (.var 4 n),.int .i64 (.var 5 a)]⟩,some ⟨1,.var 6 s⟩]) (by
  rw [w22];have wm:IntKind.wrap .u64 m=m:=Iu (by omega);rw [wm];refine ⟨fun h0=>absurd (yL h0) (by omega),fun _=>⟨h,fun he=>?_,fun he=>?_⟩⟩
  ·have he:=eq_of_beq he;obtain ⟨b1,b2,b3⟩:=mD (k:=.i64) ok he;refine ⟨fun hv=>?_,fun hv=>⟨by rw [he];rfl,?_⟩⟩
   ·have hv:=yL hv;exact .inl ⟨by simp [Cq];omega,by simp only [Az,he,if_true];rw [if_neg (by omega)],rfl⟩
   ·have hv:=yP hv;have w1:IntKind.wrap .i64 (B0 [.agg s,.int .i64 a])=B0 [.agg s,.int .i64 a]:=B6 (by omega);have w2:IntKind.wrap .i64 ((n:Int) - A5 [.agg s,.int .i64 a])=(n:Int) - A5 [.agg s,.int .i64 a]:=B6 (by omega);rw [w1,w2];refine ⟨fun hc=>?_,fun hc=>?_⟩
    ·have hc:=yL hc;exact .inl ⟨by simp [Cq];omega,by simp only [Az,he,if_true];rw [if_pos (by omega),if_neg (by omega)],rfl⟩
    ·have hc:=yP hc;have w3:IntKind.wrap .i64 (A5 [.agg s,.int .i64 a]+B0 [.agg s,.int .i64 a])=A5 [.agg s,.int .i64 a]+B0 [.agg s,.int .i64 a]:=B6 (by omega);have w4:IntKind.wrap .i64 (A5 [.agg s,.int .i64 a]+B0 [.agg s,.int .i64 a] - B0 [.agg s,.int .i64 a])=A5 [.agg s,.int .i64 a]:=by rw [B6 (by omega)];omega
     have w5:(A5 [.agg s,.int .i64 a]+B0 [.agg s,.int .i64 a]).toNat - (A5 [.agg s,.int .i64 a]).toNat=(B0 [.agg s,.int .i64 a]).toNat:=by omega
     have hok:Cq s n a m=true:=by simp [Cq,he];omega
     rw [w3,w4,w5];exact ⟨yM (by omega),yM (by omega),yM (by omega),B2.2 (by omega),L8 (by have:=O3 ok.b;simp only [u8s,xM,A9] at this ⊢;exact fun v hv=>this v (List.mem_of_mem_drop (List.mem_of_mem_take hv))),B2.2 (by omega),.inr ⟨hok,by simp [S8,hok],by simp [L0,W5,hok]⟩⟩
  ·have he:=ne_of_beq_false he;have hb:(D3 [.agg s,.int .i64 a]==0)=false:=by simp [he]
   rw [hb]
   exact ⟨rfl,rfl,rfl,.inl ⟨by simp [Cq,he],by simp [Az,he],rfl⟩⟩)
theorem mE {xs:List AV} (h:∀ l r n k a k' m,xs=[.agg l,.ptr r n,.int k a,.int k' m]→u8s l=true) (j:Nat):A3 j (W5 xs)=true:=by
 unfold W5;split
 ·rename_i l r n k a k' m;have hl:=h l r n k a k' m rfl;split
  ·refine C4 ?_;simp only [u8s,xM,A9] at hl ⊢;exact fun v hv=>hl v (List.mem_of_mem_drop (List.mem_of_mem_take hv))
  ·rfl
 ·rfl
theorem bA6 (s:List AV) (n:Nat) (a m:Int) (h:okRdU [.agg s,.ptr (.rw 0) n,.int .i64 a]=true) (h40:n≤1099511627776) (hm:0≤m∧m≤9223372036854775807):ACalls (⟨Try.prog,G,B⟩:A0) 89 [.ptr (.rw 0) 0,.int .i64 m] [some ⟨1,[.slice false (.rw 1) 0 n,.int .i64 a]⟩,some ⟨1,s⟩]
  fun v' H'=>v'=.tup [.slice true (.rw 2) 0 (S8 [.agg s,.ptr (.rw 0) n,.int .i64 a,.int .i64 m]),.int .i64 (Az [.agg s,.ptr (.rw 0) n,.int .i64 a,.int .i64 m])]∧H'=[some ⟨1,[.slice false (.rw 1) 0 n,.int .i64 (L0 [.agg s,.ptr (.rw 0) n,.int .i64 a,.int .i64 m])]⟩,some ⟨1,s⟩,some ⟨1,W5 [.agg s,.ptr (.rw 0) n,.int .i64 a,.int .i64 m]⟩]:=by
 have ok:=J9.1 h;have hs:=O3 ok.b;have hf:∀ j,A3 j s=true:=fun j=>C4 hs;have hc:∀ j,A3 j (W5 [.agg s,.ptr (.rw 0) n,.int .i64 a,.int .i64 m])=true:=fun j=>mE (fun l r n' k a' k' m' he=>by simp at he;rw [←he.1];exact hs) j
 have h1:=(aN0 G B s n a m h h40 hm).view (K':=fun v' H'=>(Cq s n a m=false∧v'=.tup [.nils,.int .i64 (Az [.agg s,.ptr (.rw 0) n,.int .i64 a,.int .i64 m])]∧H'=[some ⟨1,[.slice false (.rw 1) 0 n,.int .i64 a]⟩,some ⟨1,s⟩])∨
   (Cq s n a m=true∧v'=.tup [.slice false (.rw 2) 0 (S8 [.agg s,.ptr (.rw 0) n,.int .i64 a,.int .i64 m]),.int .i64 0]∧H'=[some ⟨1,[.slice false (.rw 1) 0 n,.int .i64 (L0 [.agg s,.ptr (.rw 0) n,.int .i64 a,.int .i64 m])]⟩,some ⟨1,s⟩,some ⟨1,W5 [.agg s,.ptr (.rw 0) n,.int .i64 a,.int .i64 m]⟩])) (fun v H' hk=>by
  rcases hk with ⟨g1,rfl,g3⟩ | ⟨g1,rfl,g3⟩
  ·refine ⟨_,_,.inl ⟨g1,rfl,rfl⟩,?_⟩
   have e:H'=[some ⟨1,[.slice false (.rw 1) 0 n,.int .i64 a]⟩,some ⟨1,s⟩]++H'.drop 4:=by
    have:=List.take_append_drop 4 H'
    rw [g3] at this;exact this.symm
   rw [e];exact C2.same (by simp) (by simp [H9,A3,A8,hf]) ⟨⟨by simp [A8,A3],rfl⟩,trivial⟩
  ·refine ⟨_,_,.inr ⟨g1,rfl,rfl⟩,?_⟩
   have e:H'=some ⟨1,[.slice false (.rw 1) 0 n,.int .i64 (L0 [.agg s,.ptr (.rw 0) n,.int .i64 a,.int .i64 m])]⟩::some ⟨1,s⟩::none::some ⟨1,W5 [.agg s,.ptr (.rw 0) n,.int .i64 a,.int .i64 m]⟩::H'.drop 4:=by
    have:=List.take_append_drop 4 H'
    rw [g3] at this;exact this.symm
   rw [e]
   exact C2.renM (θ:=[0,1,3]) (by simp) Vk (by decide) ⟨⟨by simp [A3,A8],by simp [rens,C0]⟩,⟨hf _,by rw [B9 _ _ (hf 0)];rfl⟩,⟨hc _,by rw [B9 _ _ (hc 0)];rfl⟩,trivial⟩ (by simp [A3,A8]) (by simp [rens,C0,wk]))
 have h2:=h1.nil (K':=fun v' H'=>∃ b,v'=.tup [.slice b (.rw 2) 0 (S8 [.agg s,.ptr (.rw 0) n,.int .i64 a,.int .i64 m]),.int .i64 (Az [.agg s,.ptr (.rw 0) n,.int .i64 a,.int .i64 m])]∧H'=[some ⟨1,[.slice false (.rw 1) 0 n,.int .i64 (L0 [.agg s,.ptr (.rw 0) n,.int .i64 a,.int .i64 m])]⟩,some ⟨1,s⟩,some ⟨1,W5 [.agg s,.ptr (.rw 0) n,.int .i64 a,.int .i64 m]⟩]) 1 (fun v H' hk=>by
  rcases hk with ⟨g1,rfl,rfl⟩ | ⟨g1,rfl,rfl⟩
  ·refine .inr ⟨_,⟨true,rfl,?_⟩,Fv _,?_⟩
   ·simp [L0,W5,g1]
   ·have:S8 [.agg s,.ptr (.rw 0) n,.int .i64 a,.int .i64 m]=0:=by simp [S8,g1]
    rw [this];exact ⟨.inr ⟨rfl,rfl⟩,.inl rfl,trivial⟩
  ·have:Az [.agg s,.ptr (.rw 0) n,.int .i64 a,.int .i64 m]=0:=by
    simp only [Cq,zN,xE] at g1;simp only [Az,g1.1,if_true];rw [if_pos g1.2.1,if_pos g1.2.2]
   exact .inl ⟨false,by rw [this],rfl⟩)
 refine h2.conv fun v H' hk=>?_;obtain ⟨b,rfl,rfl⟩:=hk;refine ⟨_,⟨rfl,rfl⟩,fun ρ cv hv=>?_⟩;simp only [VR] at hv;obtain ⟨vs,e,hs⟩:=hv;simp only [VRs] at hs;obtain ⟨x,ys,e1,e2,e3⟩:=hs;simp only [VR,VRs];exact ⟨vs,e,x,ys,e1,by have:=T1 (ρ:=ρ) (v:=x) (mb:=b) (by simpa only [VR] using e2);simpa only [VR] using this,e3⟩
def bytesR:DSum:=fun xs H=>match xs with
 | [.ptr (.rw i) (.lit 0),.int .i64 m']=>match H[i]? with
  | some (some ⟨1,.of [.slice false (.rw m) (.lit 0) n,.int .i64 a]⟩)=>match H[m]? with
   | some (some ⟨1,l⟩)=>match Nat.beq i m with
    | true=>none
    | false=>some (.chk (.uf 1120 okRdU [.agg l,.ptr (.rw 0) n,.int .i64 a]) (.chk (.leN n (.lit 1099511627776)) (.chk (.cmp .leq (.lit 0) m') (.chk (.cmp .leq m' (.lit 9223372036854775807))
     (.one (.tup [.slice true (.rw H.length) (.lit 0) (.uf 1129 S8 [.agg l,.ptr (.rw 0) n,.int .i64 a,.int .i64 m']),.int .i64 (.uf 1128 Az [.agg l,.ptr (.rw 0) n,.int .i64 a,.int .i64 m'])]) [.set i ⟨1,.of [.slice false (.rw m) (.lit 0) n,.int .i64 (.uf 1131 L0 [.agg l,.ptr (.rw 0) n,.int .i64 a,.int .i64 m'])]⟩,.new ⟨1,.uf 1130 W5 [.agg l,.ptr (.rw 0) n,.int .i64 a,.int .i64 m']⟩])))))
   | _=>none
  | _=>none
 | _=>none
theorem aA6 :D4 (⟨Try.prog,G,B⟩:A0) 89 bytesR:=by
 intro xs H o ho;simp only [bytesR] at ho;split at ho
 ·rename_i i m';split at ho
  ·rename_i m n a hi;split at ho
   ·rename_i l hm;split at ho
    ·simp at ho
    ·rename_i him;have him:i≠m:=fun h=>by rw [h,zA3] at him;simp at him
     simp only [zK] at ho;subst ho;intro h1 h2 h3 h4;simp only [vB,vVs,vV,vR,vN,Sp,xE,vI] at h1 h2 h3 h4;have hu:=O3 (J9.1 h1).b;have hf:∀ j,A3 j (vL G l)=true:=fun j=>C4 hu;have key:=bA6 G B (vL G l) (vN G n) (vI G a) (vI G m') h1 (B2.1 h2) ⟨yL h3,yL h4⟩;have hc:∀ j,A3 j (W5 [.agg (vL G l),.ptr (.rw 0) (vN G n),.int .i64 (vI G a),.int .i64 (vI G m')])=true:=fun j=>mE (fun l' r n' k a' k' m' he=>by simp at he;rw [←he.1];exact hu) j
     refine E0.fr (θ:=[i,m]) (by simp [him]) rfl (fun k b hk=>?_) (by simp [A3,A8]) (by simp [vVs,vV,vR,vN,rens,C0]) key (by simp) (by simp [A8,A3]) (by simp [H9,hf,hc,A3,A8]) (by simp [vV,vVs,vR,vN,vI,C0,rens,N7]) ?_
     ·match k with
      | 0=>simp at hk;subst hk;exact ⟨_,rfl,by simp [A3,A8],by simpa [K3,D8,vL,vVs,vV,vR,vN,rens,C0] using I3 (G:=G) hi⟩
      | 1=>simp at hk;subst hk;exact ⟨_,rfl,hf _,by simpa [K3,D8,B9 _ _ (hf 0)] using I3 (G:=G) hm⟩
      | k+2=>simp at hk
     ·have hs:=Gd (G:=G) hm;simp only [D8] at hs;simp only [List.map_cons,List.map_nil,acts,Hop.act,J6,D8,X3,lay,R9,K3,Option.map_some,B9 _ _ (hf 0),B9 _ _ (hc 0),List.length_cons,List.length_nil,List.drop_succ_cons,List.drop_zero,vL,vVs,vV,vR,vN,vI];rw [List.set_comm _ _ him,hs];simp [rens,C0,N7]
   ·simp at ho
  ·simp at ho
 ·simp at ho
end
def progR:List (Nat×DSum):=[(86,readS),(91,flagR),(89,bytesR)]
theorem U3 (G:Nat→List AV) (B:Nat):Q8 (⟨Try.prog,G,B⟩:A0) progR:=.cons (mC G B) (.cons (aL1 G B) (.cons (aA6 G B) .nil))
theorem t63r (G:Nat→List AV) (s xs:List AV) (n c k:Nat) (a b:Int) (Q:Ex→List AV→Hp→Prop) (R:AV→Hp→Prop):vT G Q R (G3 (Dc Try.prog [61,64,70,85] progR [] 2) 300 20 2 (A2 Try.f63 0) 59 [0,2,6,7,8,9,10,11,12] [.ptr (.rw 0) (.lit 0),.func 64 [],.nils,.int .i64 (.lit 0),.int .i64 (.var 1 b),.int .i64 (.ofN (.var 2 c)),.int .i64 (.lit 0),.slice false (.rw 2) (.lit 0) (.var 3 k),.int .i64 (.ofN (.var 3 k))] [some ⟨1,.of [.slice false (.rw 1) (.lit 0) (.var 4 n),.int .i64 (.var 5 a)]⟩,some ⟨1,.var 6 s⟩,some ⟨4,.var 9 xs⟩])=(
  (decide (((k:Int):Int)<(c:Int))=true→okRdU [.agg s,.ptr (.rw 0) n,.int .i64 a]=true∧(((D3 [.agg s,.int .i64 a]:Int)==0)=true→(decide ((B0 [.agg s,.int .i64 a]:Int)>131072)=true→False)∧(decide ((B0 [.agg s,.int .i64 a]:Int)>131072)=false→okRdU [.agg s,.ptr (.rw 0) n,.int .i64 (A5 [.agg s,.int .i64 a])]=true∧(((D3 [.agg s,.int .i64 (A5 [.agg s,.int .i64 a])]:Int)==0)=true→(decide ((B0 [.agg s,.int .i64 (A5 [.agg s,.int .i64 a])]:Int)>131072)=true→False)∧(decide ((B0 [.agg s,.int .i64 (A5 [.agg s,.int .i64 a])]:Int)>131072)=false→okRdU [.agg s,.ptr (.rw 0) n,.int .i64 (A5 [.agg s,.int .i64 (A5 [.agg s,.int .i64 a])])]=true∧leB n 1099511627776=true∧decide ((0:Int)≤8192)=true∧decide ((8192:Int)≤9223372036854775807)=true∧(((Az [.agg s,.ptr (.rw 0) n,.int .i64 (A5 [.agg s,.int .i64 (A5 [.agg s,.int .i64 a])]),.int .i64 8192]:Int)==0)=true→okRdU [.agg s,.ptr (.rw 0) n,.int .i64 (L0 [.agg s,.ptr (.rw 0) n,.int .i64 (A5 [.agg s,.int .i64 (A5 [.agg s,.int .i64 a])]),.int .i64 8192])]=true∧(((D3 [.agg s,.int .i64 (L0 [.agg s,.ptr (.rw 0) n,.int .i64 (A5 [.agg s,.int .i64 (A5 [.agg s,.int .i64 a])]),.int .i64 8192])]:Int)==0)=true→(decide ((B0 [.agg s,.int .i64 (L0 [.agg s,.ptr (.rw 0) n,.int .i64 (A5 [.agg s,.int .i64 (A5 [.agg s,.int .i64 a])]),.int .i64 8192])]:Int)>131072)=true→False)∧(decide ((B0 [.agg s,.int .i64 (L0 [.agg s,.ptr (.rw 0) n,.int .i64 (A5 [.agg s,.int .i64 (A5 [.agg s,.int .i64 a])]),.int .i64 8192])]:Int)>131072)=false→leB ((k+1)*48) 140737488355328=true∧Nat.beq (List.length xs) (k*4)=true∧
 Q .normal [.ptr (.rw 0) 0,.func 64 [],.nils,.int .i64 0,.int .i64 b,.int .i64 ((c:Int)),.int .i64 0,.slice false (.rw 8) 0 (k+1),.int .i64 (IntKind.wrap .i64 ((k:Int)+1))] [some ⟨1,([.slice false (.rw 1) 0 n,.int .i64 (A5 [.agg s,.int .i64 (L0 [.agg s,.ptr (.rw 0) n,.int .i64 (A5 [.agg s,.int .i64 (A5 [.agg s,.int .i64 a])]),.int .i64 8192])])]:List AV)⟩,some ⟨1,s⟩,none,some ⟨1,([.int .i64 (IntKind.wrap .i64 (B0 [.agg s,.int .i64 a])),.int .i64 (IntKind.wrap .i64 (B0 [.agg s,.int .i64 (A5 [.agg s,.int .i64 a])])),.slice true (.rw 5) 0 (S8 [.agg s,.ptr (.rw 0) n,.int .i64 (A5 [.agg s,.int .i64 (A5 [.agg s,.int .i64 a])]),.int .i64 8192]),.int .i64 (IntKind.wrap .i64 (B0 [.agg s,.int .i64 (L0 [.agg s,.ptr (.rw 0) n,.int .i64 (A5 [.agg s,.int .i64 (A5 [.agg s,.int .i64 a])]),.int .i64 8192])]))]:List AV)⟩,some ⟨1,([.int .i64 (IntKind.wrap .i64 (B0 [.agg s,.int .i64 a])),.int .i64 (IntKind.wrap .i64 (B0 [.agg s,.int .i64 (A5 [.agg s,.int .i64 a])])),.slice true (.rw 5) 0 (S8 [.agg s,.ptr (.rw 0) n,.int .i64 (A5 [.agg s,.int .i64 (A5 [.agg s,.int .i64 a])]),.int .i64 8192]),.int .i64 (IntKind.wrap .i64 (B0 [.agg s,.int .i64 (L0 [.agg s,.ptr (.rw 0) n,.int .i64 (A5 [.agg s,.int .i64 (A5 [.agg s,.int .i64 a])]),.int .i64 8192])]))]:List AV)⟩,some ⟨1,(W5 [.agg s,.ptr (.rw 0) n,.int .i64 (A5 [.agg s,.int .i64 (A5 [.agg s,.int .i64 a])]),.int .i64 8192])⟩,some ⟨1,([.int .i64 (IntKind.wrap .i64 (B0 [.agg s,.int .i64 a])),.int .i64 (IntKind.wrap .i64 (B0 [.agg s,.int .i64 (A5 [.agg s,.int .i64 a])])),.slice true (.rw 5) 0 (S8 [.agg s,.ptr (.rw 0) n,.int .i64 (A5 [.agg s,.int .i64 (A5 [.agg s,.int .i64 a])]),.int .i64 8192]),.int .i64 (IntKind.wrap .i64 (B0 [.agg s,.int .i64 (L0 [.agg s,.ptr (.rw 0) n,.int .i64 (A5 [.agg s,.int .i64 (A5 [.agg s,.int .i64 a])]),.int .i64 8192])]))]:List AV)⟩,some ⟨4,([.int .i64 (IntKind.wrap .i64 (B0 [.agg s,.int .i64 a])),.int .i64 (IntKind.wrap .i64 (B0 [.agg s,.int .i64 (A5 [.agg s,.int .i64 a])])),.slice true (.rw 5) 0 (S8 [.agg s,.ptr (.rw 0) n,.int .i64 (A5 [.agg s,.int .i64 (A5 [.agg s,.int .i64 a])]),.int .i64 8192]),.int .i64 (IntKind.wrap .i64 (B0 [.agg s,.int .i64 (L0 [.agg s,.ptr (.rw 0) n,.int .i64 (A5 [.agg s,.int .i64 (A5 [.agg s,.int .i64 a])]),.int .i64 8192])]))]:List AV)⟩,some ⟨4,(xs++([.int .i64 (IntKind.wrap .i64 (B0 [.agg s,.int .i64 a])),.int .i64 (IntKind.wrap .i64 (B0 [.agg s,.int .i64 (A5 [.agg s,.int .i64 a])])),.slice true (.rw 5) 0 (S8 [.agg s,.ptr (.rw 0) n,.int .i64 (A5 [.agg s,.int .i64 (A5 [.agg s,.int .i64 a])]),.int .i64 8192]),.int .i64 (IntKind.wrap .i64 (B0 [.agg s,.int .i64 (L0 [.agg s,.ptr (.rw 0) n,.int .i64 (A5 [.agg s,.int .i64 (A5 [.agg s,.int .i64 a])]),.int .i64 8192])]))]:List AV))⟩]))∧
 (((D3 [.agg s,.int .i64 (L0 [.agg s,.ptr (.rw 0) n,.int .i64 (A5 [.agg s,.int .i64 (A5 [.agg s,.int .i64 a])]),.int .i64 8192])]:Int)==0)=false→False))∧(((Az [.agg s,.ptr (.rw 0) n,.int .i64 (A5 [.agg s,.int .i64 (A5 [.agg s,.int .i64 a])]),.int .i64 8192]:Int)==0)=false→False)))∧(((D3 [.agg s,.int .i64 (A5 [.agg s,.int .i64 a])]:Int)==0)=false→False)))∧(((D3 [.agg s,.int .i64 a]:Int)==0)=false→False))∧(decide (((k:Int):Int)<(c:Int))=false→Q (.exit 0) [.ptr (.rw 0) 0,.func 64 [],.nils,.int .i64 0,.int .i64 b,.int .i64 ((c:Int)),.int .i64 0,.slice false (.rw 2) 0 k,.int .i64 ((k:Int))] [some ⟨1,([.slice false (.rw 1) 0 n,.int .i64 a]:List AV)⟩,some ⟨1,s⟩,some ⟨4,xs⟩])):=by kernel_rfl
theorem t66r (G:Nat→List AV) (s xs:List AV) (n c k:Nat) (a b:Int) (Q:Ex→List AV→Hp→Prop) (R:AV→Hp→Prop):vT G Q R (G3 (Dc Try.prog [61,67,85,90] progR [] 2) 300 20 2 (A2 Try.f66 0) 59 [0,2,6,7,8,9,10,11,12] [.ptr (.rw 0) (.lit 0),.func 67 [],.nils,.int .i64 (.lit 0),.int .i64 (.var 1 b),.int .i64 (.ofN (.var 2 c)),.int .i64 (.lit 0),.slice false (.rw 2) (.lit 0) (.var 3 k),.int .i64 (.ofN (.var 3 k))] [some ⟨1,.of [.slice false (.rw 1) (.lit 0) (.var 4 n),.int .i64 (.var 5 a)]⟩,some ⟨1,.var 6 s⟩,some ⟨2,.var 9 xs⟩])=(
  (decide (((k:Int):Int)<(c:Int))=true→okRdU [.agg s,.ptr (.rw 0) n,.int .i64 a]=true∧(((D3 [.agg s,.int .i64 a]:Int)==0)=true→(decide ((B0 [.agg s,.int .i64 a]:Int)>131072)=true→False)∧(decide ((B0 [.agg s,.int .i64 a]:Int)>131072)=false→okRdU [.agg s,.ptr (.rw 0) n,.int .i64 (A5 [.agg s,.int .i64 a])]=true∧(((Ez [.agg s,.int .i64 (A5 [.agg s,.int .i64 a])]:Int)==0)=true→leB ((k+1)*16) 140737488355328=true∧Nat.beq (List.length xs) (k*2)=true∧Q .normal [.ptr (.rw 0) 0,.func 67 [],.nils,.int .i64 0,.int .i64 b,.int .i64 ((c:Int)),.int .i64 0,.slice false (.rw 6) 0 (k+1),.int .i64 (IntKind.wrap .i64 ((k:Int)+1))] [some ⟨1,([.slice false (.rw 1) 0 n,.int .i64 (Ho [.agg s,.int .i64 (A5 [.agg s,.int .i64 a])])]:List AV)⟩,some ⟨1,s⟩,none,some ⟨1,([.int .i64 (IntKind.wrap .i64 (B0 [.agg s,.int .i64 a])),.bool (Ey [.agg s,.int .i64 (A5 [.agg s,.int .i64 a])])]:List AV)⟩,some ⟨1,([.int .i64 (IntKind.wrap .i64 (B0 [.agg s,.int .i64 a])),.bool (Ey [.agg s,.int .i64 (A5 [.agg s,.int .i64 a])])]:List AV)⟩,some ⟨2,([.int .i64 (IntKind.wrap .i64 (B0 [.agg s,.int .i64 a])),.bool (Ey [.agg s,.int .i64 (A5 [.agg s,.int .i64 a])])]:List AV)⟩,some ⟨2,(xs++([.int .i64 (IntKind.wrap .i64 (B0 [.agg s,.int .i64 a])),.bool (Ey [.agg s,.int .i64 (A5 [.agg s,.int .i64 a])])]:List AV))⟩])∧(((Ez [.agg s,.int .i64 (A5 [.agg s,.int .i64 a])]:Int)==0)=false→False)))∧(((D3 [.agg s,.int .i64 a]:Int)==0)=false→False))∧(decide (((k:Int):Int)<(c:Int))=false→
 Q (.exit 0) [.ptr (.rw 0) 0,.func 67 [],.nils,.int .i64 0,.int .i64 b,.int .i64 ((c:Int)),.int .i64 0,.slice false (.rw 2) 0 k,.int .i64 ((k:Int))] [some ⟨1,([.slice false (.rw 1) 0 n,.int .i64 a]:List AV)⟩,some ⟨1,s⟩,some ⟨2,xs⟩])):=by kernel_rfl
theorem t63 (G:Nat→List AV) (q:List AV→Bool) (s:List AV) (n c k:Nat) (a a2 b:Int) (Q:Ex→List AV→Hp→Prop) (R:AV→Hp→Prop):vT G Q R (G0 (Dc Try.prog [87,88] progR [D6 2515 q 0 59 [0,2,6,7,8,9,10,11,12] (.one (.exit 0) [.ptr (.rw 0) (.lit 0),.func 64 [],.nils,.int .i64 (.lit 0),.int .i64 (.var 8 b),.int .i64 (.ofN (.var 2 c)),.int .i64 (.lit 0),.slice false (.ro (.var 24 k)) (.lit 0) (.var 2 c),.int .i64 (.ofN (.var 2 c))] [some ⟨1,.of [.slice false (.rw 1) (.lit 0) (.var 4 n),.int .i64 (.var 7 a2)]⟩,some ⟨1,.var 6 s⟩,none])] 2) 300 20 Try.f63 [.ptr (.rw 0) (.lit 0),.int .i64 (.lit 8),.func 64 []] [some ⟨1,.of [.slice false (.rw 1) (.lit 0) (.var 4 n),.int .i64 (.var 5 a)]⟩,some ⟨1,.var 6 s⟩] 2)=(
  okRdU [.agg s,.ptr (.rw 0) n,.int .i64 a]=true∧(((D3 [.agg s,.int .i64 a]:Int)==0)=true→(decide ((B0 [.agg s,.int .i64 a]:Int)>8)=true→q [.agg ([.ptr (.rw 0) 0,.func 64 [],.nils,.int .i64 0,.int .i64 a,.int .i64 0,.int .i64 3,.slice false (.rw 2) 0 0,.int .i64 0]:List AV),.agg ([.tup [.int .i64 1,.agg ([.slice false (.rw 1) 0 n,.int .i64 (A5 [.agg s,.int .i64 a])]:List AV)],.tup [.int .i64 1,.agg s],.tup [.int .i64 4,.agg ([]:List AV)]]:List AV)]=true∧R (.tup [.slice false (.ro k) 0 c,.int .i64 0]) [some ⟨1,([.slice false (.rw 1) 0 n,.int .i64 a2]:List AV)⟩,some ⟨1,s⟩])∧(decide ((B0 [.agg s,.int .i64 a]:Int)>8)=false→((D3 [.agg s,.int .i64 a]:Int)==0)=true∧q [.agg ([.ptr (.rw 0) 0,.func 64 [],.nils,.int .i64 0,.int .i64 a,.int .i64 (IntKind.wrap .i64 (B0 [.agg s,.int .i64 a])),.int .i64 0,.slice false (.rw 2) 0 0,.int .i64 0]:List AV),.agg ([.tup [.int .i64 1,.agg ([.slice false (.rw 1) 0 n,.int .i64 (A5 [.agg s,.int .i64 a])]:List AV)],.tup [.int .i64 1,.agg s],.tup [.int .i64 4,.agg ([]:List AV)]]:List AV)]=true∧R (.tup [.slice false (.ro k) 0 c,.int .i64 0]) [some ⟨1,([.slice false (.rw 1) 0 n,.int .i64 a2]:List AV)⟩,some ⟨1,s⟩]))∧(((D3 [.agg s,.int .i64 a]:Int)==0)=false→(!(((D3 [.agg s,.int .i64 a]:Int)==0)))=true∧q [.agg ([.ptr (.rw 0) 0,.func 64 [],.nils,.int .i64 0,.int .i64 a,.int .i64 0,.int .i64 (D3 [.agg s,.int .i64 a]),.slice false (.rw 2) 0 0,.int .i64 0]:List AV),.agg ([.tup [.int .i64 1,.agg ([.slice false (.rw 1) 0 n,.int .i64 (A5 [.agg s,.int .i64 a])]:List AV)],.tup [.int .i64 1,.agg s],.tup [.int .i64 4,.agg ([]:List AV)]]:List AV)]=true∧
 R (.tup [.slice false (.ro k) 0 c,.int .i64 0]) [some ⟨1,([.slice false (.rw 1) 0 n,.int .i64 a2]:List AV)⟩,some ⟨1,s⟩])):=by kernel_rfl
theorem t66 (G:Nat→List AV) (q:List AV→Bool) (s:List AV) (n c k:Nat) (a a2 b:Int) (Q:Ex→List AV→Hp→Prop) (R:AV→Hp→Prop):vT G Q R (G0 (Dc Try.prog [87,88] progR [D6 2515 q 0 59 [0,2,6,7,8,9,10,11,12] (.one (.exit 0) [.ptr (.rw 0) (.lit 0),.func 67 [],.nils,.int .i64 (.lit 0),.int .i64 (.var 8 b),.int .i64 (.ofN (.var 2 c)),.int .i64 (.lit 0),.slice false (.ro (.var 24 k)) (.lit 0) (.var 2 c),.int .i64 (.ofN (.var 2 c))] [some ⟨1,.of [.slice false (.rw 1) (.lit 0) (.var 4 n),.int .i64 (.var 7 a2)]⟩,some ⟨1,.var 6 s⟩,none])] 2) 300 20 Try.f66 [.ptr (.rw 0) (.lit 0),.int .i64 (.lit 512),.func 67 []] [some ⟨1,.of [.slice false (.rw 1) (.lit 0) (.var 4 n),.int .i64 (.var 5 a)]⟩,some ⟨1,.var 6 s⟩] 2)=(
  okRdU [.agg s,.ptr (.rw 0) n,.int .i64 a]=true∧(((D3 [.agg s,.int .i64 a]:Int)==0)=true→(decide ((B0 [.agg s,.int .i64 a]:Int)>512)=true→q [.agg ([.ptr (.rw 0) 0,.func 67 [],.nils,.int .i64 0,.int .i64 a,.int .i64 0,.int .i64 3,.slice false (.rw 2) 0 0,.int .i64 0]:List AV),.agg ([.tup [.int .i64 1,.agg ([.slice false (.rw 1) 0 n,.int .i64 (A5 [.agg s,.int .i64 a])]:List AV)],.tup [.int .i64 1,.agg s],.tup [.int .i64 2,.agg ([]:List AV)]]:List AV)]=true∧R (.tup [.slice false (.ro k) 0 c,.int .i64 0]) [some ⟨1,([.slice false (.rw 1) 0 n,.int .i64 a2]:List AV)⟩,some ⟨1,s⟩])∧(decide ((B0 [.agg s,.int .i64 a]:Int)>512)=false→((D3 [.agg s,.int .i64 a]:Int)==0)=true∧q [.agg ([.ptr (.rw 0) 0,.func 67 [],.nils,.int .i64 0,.int .i64 a,.int .i64 (IntKind.wrap .i64 (B0 [.agg s,.int .i64 a])),.int .i64 0,.slice false (.rw 2) 0 0,.int .i64 0]:List AV),.agg ([.tup [.int .i64 1,.agg ([.slice false (.rw 1) 0 n,.int .i64 (A5 [.agg s,.int .i64 a])]:List AV)],.tup [.int .i64 1,.agg s],.tup [.int .i64 2,.agg ([]:List AV)]]:List AV)]=true∧R (.tup [.slice false (.ro k) 0 c,.int .i64 0]) [some ⟨1,([.slice false (.rw 1) 0 n,.int .i64 a2]:List AV)⟩,some ⟨1,s⟩]))∧(((D3 [.agg s,.int .i64 a]:Int)==0)=false→(!(((D3 [.agg s,.int .i64 a]:Int)==0)))=true∧q [.agg ([.ptr (.rw 0) 0,.func 67 [],.nils,.int .i64 0,.int .i64 a,.int .i64 0,.int .i64 (D3 [.agg s,.int .i64 a]),.slice false (.rw 2) 0 0,.int .i64 0]:List AV),.agg ([.tup [.int .i64 1,.agg ([.slice false (.rw 1) 0 n,.int .i64 (A5 [.agg s,.int .i64 a])]:List AV)],.tup [.int .i64 1,.agg s],.tup [.int .i64 2,.agg ([]:List AV)]]:List AV)]=true∧
 R (.tup [.slice false (.ro k) 0 c,.int .i64 0]) [some ⟨1,([.slice false (.rw 1) 0 n,.int .i64 a2]:List AV)⟩,some ⟨1,s⟩])):=by kernel_rfl
theorem qO {ρ:Env} {r:Ref} {o n:Nat} {v cv:AV} {c:Value} (h:VR ρ (.tup [.slice false r o n,v]) c):VR ρ (.tup [.slice true r o n,v]) c:=by
 simp only [VR] at h ⊢;obtain ⟨vs,e,hs⟩:=h;simp only [VRs] at hs;obtain ⟨x,ys,e1,e2,e3⟩:=hs;simp only [VRs];exact ⟨vs,e,x,ys,e1,by have:=T1 (ρ:=ρ) (v:=x) (mb:=false) (by simpa only [VR] using e2);simpa only [VR] using this,e3⟩
open Classical in
noncomputable def Hy (s:List AV) (N:Nat) (a:Int) (rest:List AV):List AV→Bool:=fun xs=>decide (xs=[.agg s,.ptr (.rw 0) N,.int .i64 a,.agg rest])
open Crc
theorem iQ {s:List AV} {N:Nat} {a:Int} {rest:List AV}:Hy s N a rest [.agg s,.ptr (.rw 0) N,.int .i64 a,.agg rest]=true:=by simp [Hy]
def aH (G:Nat→List AV) (s:Int) (cs:List AV) (n:Nat) (ps:List AV) (m:Nat):List AV:=fN s++(fN (n:Int)++(I5 G cs n++(fN (m:Int)++G5 ps m)))
theorem jB {G:Nat→List AV} {s:Int} {cs ps:List AV} {n m:Nat}:Y9 G s cs n ps m=Uz++aH G s cs n ps m:=by
 simp only [Y9,aH,List.append_assoc]
theorem Z0 {a b:List AV}:I9 (a++b)=(I9 a&&I9 b):=by simp only [I9,List.all_append]
theorem Of:∀ (a:List UInt8),I9 (B3 a)=true
 | []=>rfl
 | x::a=>by
  have:=Of a
  have h:=x.toNat_lt;simp only [I9,B3,List.map_cons,List.all_cons,zN] at this ⊢;refine ⟨?_,this⟩;simp only [b8,zN,xE];omega
theorem bB3 {b:List Nat} (h:Ao b):I9 (O2 b)=true:=by
 simp only [I9,O2,List.all_map,xM];intro x hx
 have:=h x hx
 simp only [Function.comp,b8,zN,xE];omega
theorem qY {G:Nat→List AV} {cs:List AV}:∀ {n:Nat},(∀ j,j<n→I9 (N4 G cs j)=true)→I9 (I5 G cs n)=true
 | 0,_=>rfl
 | n+1,h=>by
  rw [I5,Z0,qY (n:=n) fun j hj=>h j (by omega),Lt,Y2];simp only [Z0,fN,Of,h n (by omega),Bool.and_self]
theorem mK {ps:List AV}:∀ {n:Nat},I9 (G5 ps n)=true
 | 0=>rfl
 | n+1=>by
  rw [G5,Z0,mK (n:=n),Js,Dg,Z0,fN,Of];cases hP ps n<;>decide
theorem qS {G:Nat→List AV} {s:Int} {ks kp n m:Nat} (hb:T2 G ks kp n m):I9 (aH G s (G ks) n (G kp) m)=true:=by
 simp only [aH,Z0,fN,Of,mK,Bool.and_true,Bool.true_and];refine qY fun j hj=>?_;obtain ⟨b,h1,h2⟩:=hb.dat j hj;rw [h2];exact bB3 h1
theorem aL2 {G:Nat→List AV} {s:Int} {cs ps:List AV} {n m:Nat}:F5 G s cs n ps m=Uz++(aH G s cs n ps m++Ev (Bu (Y9 G s cs n ps m))):=by
 rw [F5,jB,List.append_assoc]
open Go.RowKit
def o58 : Oper := { dst := some 5, op := .call { callee := .builtin .recover, args := #[], argTypes := #[] }, type := 20, pos := "image.go:125", after := #[], guard := none }
def q58 : Oper := { dst := some 7, op := .binOp .eql 20 (.tmp 5) (.const .nilIface) 20, type := 4, pos := "image.go:125", after := #[], guard := none }
def p58 : Oper := { dst := some 2, op := .assign (.tmp 5), type := 20, pos := "image.go:125", after := #[], guard := none }
noncomputable def z58:Code:=match C6 Try.f58 with | .seq _ (.block _ (.seq _ (.cond _ _ z)))=>z | _=>.skip
theorem aA9:C6 Try.f58=.seq (.region 0 #[o58] false) (.block 0 (.seq (.region 3 #[q58] false) (.cond (.tmp 7) (.region 4 #[p58] false) z58))):=by kernel_rfl
theorem xO {a:Act} {w:World}:(execOp a.eval o58).run Try.prog w=.ok .recover w:=rfl
theorem idle58 (x y:Value) (w:World):CallsDIn Fence.wide 0 Try.prog 58 #[x,y] .returning w fun e u' w'=>e=.returned (.tuple #[])∧u'=.returning∧w'=w:=by
 refine callsDIn_of_wpSIn (fn:=Try.f58) (c:=C6 Try.f58) (by kernel_rfl) (by kernel_rfl) trivial fun c₀ cs hu=>?_;rw [aA9];have hnt:Try.f58.ntmps=12:=by kernel_rfl
 have hres:Try.f58.results=#[]:=by kernel_rfl
 rw [hnt];apply wpSIn_seq;apply wpSIn_region;have hr:recoverD (c₀::cs)=none:=by simp [recoverD,hu]
 have e0:List.range (#[o58]:Array Oper).size=[0]:=rfl;rw [e0];unfold wpOpsSIn;have e1:(#[o58]:Array Oper)[0]?=some o58:=rfl;rw [e1];refine ⟨fun _ _=>trivial,?_⟩;rw [if_pos (by rfl),xO];simp only [hr];unfold wpOpsSIn;show Exit.thenS _ _ .normal _ _ _;unfold Exit.thenS;refine wpSIn_of_wpIn rfl (wpIn_block (wpIn_seq (wpIn_region_list ?_)));simp [wpListIn,Oper.wpIn,q58,o58,go_sem];refine wpIn_cond_true (by simp [Act.eval,Array.replicate]) (wpIn_region_list ?_);simp [wpListIn,Oper.wpIn,p58,go_sem,Exit.inBlock];cases c₀;simp_all [bodyPostS,results,hres]
def oA : Oper := { dst := some 2, op := .alloc 25, type := 0, pos := "image.go:123", after := #[], guard := none }
def Us : Oper := { dst := some 3, op := .alloc 29, type := 0, pos := "image.go:123", after := #[], guard := none }
def oC : Oper := { dst := some 7, op := .makeFunc (.func 58) #[] #[.tmp 2, .tmp 3], type := 1, pos := "image.go:124", after := #[], guard := none }
def oD : Oper := { dst := none, op := .defer { callee := .value (.tmp 7), args := #[], argTypes := #[] }, type := 0, pos := "image.go:124", after := #[{ on := 0, ground := .data }], guard := none }
theorem body29:C6 Try.f29=.seq (.region 0 #[oA,Us] false) (.seq (.region 1 #[oC,oD] false) (J5 (J5 (C6 Try.f29)))):=by kernel_rfl
theorem wA (G:Nat→List AV) (B:Nat) {F:Fr} {H:Hp}:G7 (⟨Try.prog,G,B⟩:A0) F H oA.op=some (true,.ptr (.rw H.length) 0,.new ⟨1,[.int .i64 0,.nils,.nils]⟩):=by kernel_rfl
theorem wB9 (G:Nat→List AV) (B:Nat) {F:Fr} {H:Hp}:G7 (⟨Try.prog,G,B⟩:A0) F H Us.op=some (true,.ptr (.rw H.length) 0,.new ⟨1,[.int .i64 0]⟩):=by kernel_rfl
theorem pC {F:Fr} {x y:AV} (hx:F.getD 2 .undef=x) (hy:F.getD 3 .undef=y):F8 Try.prog F oC.op=some (true,.func 58 [x,y]):=by
 subst hx hy;kernel_rfl
theorem AP.lvd {C:A0} {m:Nat} {ρ:Env} {w:World} {N:Nat} {live:List Nat} {Q:Ex→List AV→Hp→Prop} {Q':Post} {e:Exit} {a':Act} {w':World} (h:AP C m ρ w (lv N live Q) e a' w') (hq:∀ e vs H',Q e vs H'→Q' e (fl N live vs) H'):AP C m ρ w Q' e a' w':=by
 obtain ⟨ae,ρ',F',H',rfl,h2,h3,h4,h5,h6⟩:=h;obtain ⟨h7,h8⟩:=U6 h2;exact ⟨ae,ρ',_,H',rfl,hq _ _ _ h8,h3,h4,Mc h5 (yV h7),h6⟩
theorem idleD {cs:Array Value} (h:cs.size=2):Idle Try.prog ⟨.fn (.func 58) cs,#[]⟩:=by
 have he:Qw Try.prog 58:=⟨Try.f58,C6 Try.f58,by kernel_rfl,by kernel_rfl,by kernel_rfl⟩;refine ⟨.func 58,cs,58,#[]++cs,rfl,fun w=>⟨?_,?_⟩⟩
 ·show (invoke (.fn (.func 58) cs) #[]).run Try.prog w=_;simp only [invoke];exact Cd he _ w
 ·have e:(#[]++cs:Array Value)=#[cs[0],cs[1]]:=by
   apply Array.ext (by simp [h]);intro i h1 h2;simp at h2
   match i,h2 with
   | 0,_=>simp
   | 1,_=>simp
  rw [e];exact idle58 _ _ w
def Rl (j:Nat) (q:List AV→Bool) (x:EV):DSum:=fun xs H=>match xs with
 | [.slice false (.rw i) (.lit 0) n]=>match H[i]? with
  | some (some ⟨1,l⟩)=>some (.chk (.uf j q [.agg l,.ptr (.rw 0) n]) (.one x []))
  | _=>none
 | _=>none
open Classical in
noncomputable def nJ (s:List AV) (N:Nat):List AV→Bool:=fun xs=>decide (xs=[.agg s,.ptr (.rw 0) N])
theorem iR {s:List AV} {N:Nat}:nJ s N [.agg s,.ptr (.rw 0) N]=true:=by simp [nJ]
theorem aU6 {C:A0} {f j:Nat} {q:List AV→Bool} {x:EV} {s:List AV} {N:Nat} (hq:q=nJ s N) (hu:u8s s=true) (hv:A8 0 (vV C.G x)=true)
  (key:ACalls C f [.slice false (.rw 0) 0 N] [some ⟨1,s⟩] fun v' H'=>v'=vV C.G x∧H'=[some ⟨1,s⟩]):D4 C f (Rl j q x):=by
 intro xs H o ho;simp only [Rl] at ho;split at ho
 ·rename_i i n;split at ho
  ·rename_i l hm;simp only [zK] at ho;subst ho;intro h1;simp only [vB,vVs,vV,vR,vN,vL,hq,nJ,xE,List.cons.injEq,AV.agg.injEq,AV.ptr.injEq,true_and,and_true] at h1;obtain ⟨e1,e2⟩:=h1;have hf:∀ j,A3 j s=true:=fun j=>C4 hu;have hs:=I3 (G:=C.G) hm;simp only [D8,e1] at hs;refine E0.fr (θ:=[i]) (by simp) rfl (fun k b hk=>?_) (by simp [A3,A8]) (by simp [vVs,vV,vR,vN,rens,C0,e2]) key (by simp) (Zx (zA2 _) _ hv) (by simp [H9,hf]) (Hq _ _ hv).symm ?_
   ·match k with
    | 0=>simp at hk;subst hk;exact ⟨_,rfl,hf _,by simpa [K3,B9 _ _ (hf 0)] using hs⟩
    | k+1=>simp at hk
   ·simp only [List.map_nil,acts,X3,lay,R9,K3,Option.map_some,B9 _ _ (hf 0),List.length_cons,List.length_nil,List.drop_succ_cons,List.drop_nil,List.append_nil];obtain ⟨h2,h3⟩:=zQ.1 hs;rw [←h3,List.set_getElem_self]
  ·simp at ho
 ·simp at ho
end Go.Am
