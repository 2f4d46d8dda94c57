/-
  Images moved: what is handed in. Images moved: what is handed in, told anew, and what the moves come to
-/
import Derived.Test.YthejjolnlngahaaPart14
import Derived.Test.YthejjolnlngahaaBase5
import Derived.Test.YthejjolnlngahaaPart25
namespace Go.Am
open Go.ChangeShapes Go.WideShapes Go.ChangeAt Go.RowKit Go.Proofs
set_option maxRecDepth 100000
def wG (L:List RoE) (cs:List AV) (j:Nat):Prop:=cs[j*4+2]?=some .nils∨∃ k b,k<L.length∧cs[j*4+2]?=some (.slice false (.ro k) 0 b.length)∧GL L k=O2 b∧Ao b
structure Nc (L:List RoE) (ks c kp q:Nat):Prop where
 sec:∀ j,j<c→(∃ x,(GL L ks)[j*4]?=some (.int .i64 x))∧(∃ x,(GL L ks)[j*4+1]?=some (.int .i64 x))∧wG L (GL L ks) j∧∃ x,(GL L ks)[j*4+3]?=some (.int .i64 x)
 pls:Q4 (GL L kp) q=true
 len:(GL L kp).length=q*2
 flat:(GL L kp).all plA=true
section
variable {H:Type} {L:List RoE} {a:AV} {d:DataW H} {cs:List AV}
theorem im_dat {n:Nat} (h:G4 Try.prog L (n+2) 37 [a] d):a=.nils∨∃ k b,k<L.length∧a=.slice false (.ro k) 0 (List.length b)∧GL L k=O2 b∧Ao b:=by
 rcases G4.asSlice (e:=5) (by kernel_rfl) h with ⟨h1,_⟩ | ⟨k,ds,sp,en,h1,h2,h3,h4,h5,h6⟩
 ·simp only [List.cons.injEq,and_true] at h1;exact .inl h1
 ·simp only [List.cons.injEq,and_true] at h1;subst h1;rw [show Try.prog.cellsOf 5=1 by kernel_rfl,Nat.mul_one] at h4
  have key:∀ j,j<en.cells.length→∃ i:Nat,en.cells[j]?=some (.int .u8 (i:Int))∧i<256:=fun j hj=>by
   have h7:=h6 j ds[j] (yO (by omega));rw [show Try.prog.cellsOf 5=1 by kernel_rfl,Nat.mul_one] at h7;obtain ⟨i,g1,g2,_⟩:=G4.asInt (k:=.u8) (by kernel_rfl) h7;have w:=wf_u8 g2;refine ⟨i.toNat,?_,by omega⟩;rw [Int.toNat_of_nonneg w.1];exact mR g1
  refine .inr ⟨k,en.cells.map fun v=>match v with | .int _ x=>x.toNat | _=>0,(zQ.1 h3).1,by rw [List.length_map,h4],?_,?_⟩
  ·rw [cW h3];unfold O2;rw [List.map_map];refine List.ext_getElem? fun j=>?_;rw [sH];by_cases hj:j<en.cells.length
   ·obtain ⟨i,e1,_⟩:=key j hj;rw [e1];show _=some (AV.int .u8 (((i:Int).toNat:Nat):Int));rw [Int.toNat_natCast]
   ·rw [qK (by omega)];rfl
  ·intro x hx;obtain ⟨v,hv,rfl⟩:=List.mem_map.1 hx;obtain ⟨j,hj⟩:=List.getElem?_of_mem hv;obtain ⟨i,e1,e2⟩:=key j (zQ.1 hj).1;rw [hj] at e1;obtain rfl:=Option.some.inj e1;show (i:Int).toNat<256;rw [Int.toNat_natCast];exact e2
theorem aK8 {n:Nat} (h:G4 Try.prog L (n+4) 22 [a] d):∃ k c,(∀ (ρ:Env) v,VR ρ a v→VR ρ (.slice true (.ro k) 0 c) v)∧∀ j,j<c→(∃ x,(GL L k)[j*4]?=some (.int .i64 x))∧(∃ x,(GL L k)[j*4+1]?=some (.int .i64 x))∧wG L (GL L k) j∧∃ x,(GL L k)[j*4+3]?=some (.int .i64 x):=by
 rcases G4.asSlice (e:=45) (by kernel_rfl) h with ⟨h1,_⟩ | ⟨k,ds,sp,en,h1,h2,h3,h4,h5,h6⟩
 ·simp only [List.cons.injEq,and_true] at h1;subst h1;exact ⟨L.length,0,fun ρ v hv=>Ll _ _ hv,fun j hj=>absurd hj (Nat.not_lt_zero j)⟩
 ·simp only [List.cons.injEq,and_true] at h1;subst h1;have hz:Try.prog.cellsOf 45=4:=by kernel_rfl
  rw [hz] at h4 h6;refine ⟨k,ds.length,fun ρ v hv=>T1 hv,fun j hj=>?_⟩;have h7:=h6 j ds[j] (yO hj);obtain ⟨x,e1,_⟩:=G4.fldInt (i:=0) (o:=0) (t:=3) (k:=.i64) (by kernel_rfl) (by kernel_rfl) (by kernel_rfl) h7;obtain ⟨r,e2,_⟩:=G4.fldInt (i:=1) (o:=1) (t:=3) (k:=.i64) (by kernel_rfl) (by kernel_rfl) (by kernel_rfl) h7;obtain ⟨_,e3⟩:=G4.fld (i:=2) (o:=2) (t:=37) (by kernel_rfl) h7;obtain ⟨z,e4,_⟩:=G4.fldInt (i:=3) (o:=3) (t:=3) (k:=.i64) (by kernel_rfl) (by kernel_rfl) (by kernel_rfl) h7;rw [rS (by omega)] at e1 e2 e4
  rw [show Try.prog.cellsOf 37=1 by kernel_rfl] at e3;rw [cW h3];have hlt:j*4+2<en.cells.length:=by rw [h4];omega
  have e5:((((en.cells.drop (j*4)).take 4).drop 2).take 1)=[en.cells[j*4+2]]:=by
   refine List.ext_getElem? fun i=>?_
   match i with
   | 0=>rw [qL,if_pos (by omega),List.getElem?_drop,qL,if_pos (by omega),List.getElem?_drop,yO (by omega)];rfl
   | i+1=>rw [qL,if_neg (by omega)];rfl
  rw [e5] at e3;refine ⟨⟨x,e1⟩,⟨r,e2⟩,?_,z,e4⟩;unfold wG;rw [yO hlt];rcases im_dat (n:=n) e3 with g | ⟨k',b,g1,g2,g3,g4⟩
  ·exact .inl (by rw [g])
  ·exact .inr ⟨k',b,g1,by rw [g2],g3,g4⟩
theorem im_in {n:Nat} (h:G4 Try.prog L (n+5) 25 cs d):∃ s k c kp q,(∀ (ρ:Env) vs,VRs ρ cs vs→VRs ρ [.int .i64 s,.slice true (.ro k) 0 c,.slice true (.ro kp) 0 q] vs)∧Nc L k c kp q:=by
 obtain ⟨s,e1,_⟩:=G4.fldInt (i:=0) (o:=0) (t:=3) (k:=.i64) (by kernel_rfl) (by kernel_rfl) (by kernel_rfl) h;obtain ⟨_,e2⟩:=G4.fld (i:=1) (o:=1) (t:=22) (by kernel_rfl) h;obtain ⟨_,e3⟩:=G4.fld (i:=2) (o:=2) (t:=23) (by kernel_rfl) h
 have hl:cs.length=3:=by
  have:=G4.flen (i:=0) (o:=0) (t:=3) (by kernel_rfl) h
  rwa [show Try.prog.cellsOf 25=3 by kernel_rfl] at this
 rw [show Try.prog.cellsOf 22=1 by kernel_rfl] at e2;rw [show Try.prog.cellsOf 23=1 by kernel_rfl] at e3
 match cs,hl with
 | [x,y,z],_=>
  simp at e1;subst e1;obtain ⟨kp,q,v2,o3,o4,o5⟩:=im_pls (n:=n+1) (by simpa using e3);obtain ⟨k,c,v1,o1⟩:=aK8 (n:=n) (by simpa using e2);refine ⟨s,k,c,kp,q,fun ρ vs hv=>?_,⟨o1,o4,o3,o5⟩⟩;simp only [VRs] at hv ⊢;obtain ⟨w1,t1,r1,q1,w2,t2,r2,q2,w3,t3,r3,q3,q4⟩:=hv;exact ⟨w1,t1,r1,q1,w2,t2,r2,v1 ρ w2 q2,w3,t3,r3,v2 ρ w3 q3,q4⟩
end
theorem yT {cs:List AV}:∀ i,i≤20→(0≤Ns cs i∧Ns cs i≤99999*(i:Int))∧∀ j,j<i→((sN cs j:Int)≤Ns cs i∨99999≤Ns cs i)
 | 0,_=>⟨⟨Int.le_refl _,by show (0:Int)≤_;omega⟩,fun j hj=>absurd hj (Nat.not_lt_zero j)⟩
 | i+1,h=>by
  obtain ⟨⟨h1,h2⟩,h3⟩:=yT (cs:=cs) i (by omega)
  have e:Ns cs (i+1)=Ns cs i+(if 99999<(sN cs i:Int) then 99999 else (sN cs i:Int)):=by
   show IntKind.wrap .i64 (Ns cs i+(if 99999<(sN cs i:Int) then 99999 else (sN cs i:Int)))=_;refine B6 ?_
   split<;>omega
  rw [e];refine ⟨⟨?_,?_⟩,fun j hj=>?_⟩
  ·split<;>omega
  ·split<;>omega
  ·by_cases hji:j<i
   ·have:=h3 j hji
    split<;>omega
   ·have:j=i:=by omega
    subst this
    split<;>omega
theorem aJ5 {cs:List AV} {n m:Nat} (h:Aa cs n m=false):∀ j,j<n→sN cs j≤60000:=fun j hj=>by
 obtain ⟨h20,_⟩:=fA h;unfold Aa at h;simp only [Bool.or_eq_false_iff,decide_eq_false_iff_not] at h;have h3:=h.2.2;rw [Nat.min_eq_left h20] at h3
 have:=(yT (cs:=cs) n h20).2 j hj
 omega
section
variable (L:List RoE) (ks c kp q z:Nat)
def Jf (cs:List AV) (e j:Nat):Nat:=match cs[j*4+2]? with
 | some (.slice _ (.ro k) _ _)=>k
 | _=>e
def K8:List AV:=D2 (GL L ks) c (dK (Jf (GL L ks) L.length) (GL L ks))
end
section
variable {L:List RoE} {ks c kp q z:Nat}
theorem Vp {j b:Nat} (hj:j<c) (hb:b<4):(K8 L ks c)[j*4+b]?=some (Ty (GL L ks) (dK (Jf (GL L ks) L.length) (GL L ks)) j b):=P9 (f:=Ty (GL L ks) (dK (Jf (GL L ks) L.length) (GL L ks))) hj hb
theorem cK {j:Nat} (hj:j<c):sA (K8 L ks c) j=sA (GL L ks) j∧sR (K8 L ks c) j=sR (GL L ks) j∧sZ (K8 L ks c) j=sZ (GL L ks) j∧C8 (K8 L ks c) (j*4+2)=Jf (GL L ks) L.length j∧E9 (K8 L ks c) (j*4+2)=0∧sN (K8 L ks c) j=sN (GL L ks) j:=by
 have e0:=Vp (L:=L) (ks:=ks) hj (b:=0) (by omega);have e1:=Vp (L:=L) (ks:=ks) hj (b:=1) (by omega);have e2:=Vp (L:=L) (ks:=ks) hj (b:=2) (by omega);have e3:=Vp (L:=L) (ks:=ks) hj (b:=3) (by omega);rw [Nat.add_zero] at e0;refine ⟨?_,?_,?_,?_,?_,?_⟩
 ·show A1 (K8 L ks c) (j*4)=_;unfold A1;rw [e0];rfl
 ·show A1 (K8 L ks c) (j*4+1)=_;unfold A1;rw [e1];rfl
 ·show A1 (K8 L ks c) (j*4+3)=_;unfold A1;rw [e3];rfl
 ·unfold C8;rw [e2];rfl
 ·unfold E9;rw [e2];rfl
 ·show C7 (K8 L ks c) (j*4+2)=_;unfold C7;rw [e2];rfl
theorem mL {l:List AV} (h:l.all plA=true):cellsB l=true∧A3 0 l=true∧∀ v∈l,H7 v=true∧∀ σ,sb σ 0 v=v:=by
 rw [xM] at h;refine ⟨?_,?_,fun v hv=>?_⟩
 ·unfold cellsB;rw [xM];intro v hv
  have:=h v hv
  unfold plA at this;split at this<;>first | rfl | cases this
 ·rw [L2,xM];intro v hv
  have:=h v hv
  unfold plA at this;split at this<;>first | rfl | cases this
 ·have:=h v hv
  unfold plA at this;split at this<;>first | exact ⟨rfl,fun σ=>by simp [sb]⟩ | cases this
end
structure Bw (L:List RoE) (ks c kp:Nat) (G:Nat→List AV):Prop where
 lo:∀ k,k<L.length→(GL L k).all Fc=true→G k=GL L k
 lo':∀ k,k<L.length→(GL L k).all Fc=false→G k=[]
 z:G L.length=[]
 s:G (L.length+1)=K8 L ks c
 p:G (L.length+2)=GL L kp
section
variable {L:List RoE} {ks c kp q:Nat} {G:Nat→List AV}
theorem Bw.dat (N:Bw L ks c kp G) (h:Nc L ks c kp q) {j:Nat} (hj:j<c):∃ b,Ao b∧b.length=sN (GL L ks) j∧G (Jf (GL L ks) L.length j)=O2 b∧GL L (Jf (GL L ks) L.length j)=O2 b:=by
 obtain ⟨_,_,hd,_⟩:=h.sec j hj;rcases hd with e | ⟨k,b,g1,g2,g3,g4⟩
 ·have e1:Jf (GL L ks) L.length j=L.length:=by unfold Jf;rw [e]
  have e2:sN (GL L ks) j=0:=by
   show C7 (GL L ks) (j*4+2)=0;unfold C7;rw [e]
  refine ⟨[],fun x hx=>by simp at hx,e2.symm,?_,?_⟩
  ·rw [e1,N.z];rfl
  ·rw [e1,pM (zA1 _)];rfl
 ·have e1:Jf (GL L ks) L.length j=k:=by unfold Jf;rw [g2]
  have e2:sN (GL L ks) j=b.length:=by
   show C7 (GL L ks) (j*4+2)=_;unfold C7;rw [g2]
  refine ⟨b,g4,e2.symm,?_,by rw [e1,g3]⟩;rw [e1,N.lo k g1 (by rw [g3];exact cN),g3]
theorem Bw.dl (N:Bw L ks c kp G) (h:Nc L ks c kp q) {j:Nat} (hj:j<c):∃ b,Ao b∧b.length=sN (GL L ks) j∧G (C8 (K8 L ks c) (j*4+2))=O2 b∧N4 G (K8 L ks c) j=O2 b∧N4 (GL L) (K8 L ks c) j=O2 b:=by
 obtain ⟨b,h1,h2,h3,h4⟩:=N.dat h hj;obtain ⟨_,_,_,a1,a2,a3⟩:=cK (L:=L) (ks:=ks) hj;have a3:C7 (K8 L ks c) (j*4+2)=sN (GL L ks) j:=a3;have e:A9 (O2 b) 0 (sN (GL L ks) j)=O2 b:=J3 (by rw [Ga,h2]);refine ⟨b,h1,h2,by rw [a1];exact h3,?_,?_⟩
 ·unfold N4;rw [a1,a2,a3,h3,e]
 ·unfold N4;rw [a1,a2,a3,h4,e]
theorem Bw.db (N:Bw L ks c kp G) (h:Nc L ks c kp q) {j:Nat} (hj:j<c):dB G (K8 L ks c) j=dB (GL L) (K8 L ks c) j:=by
 obtain ⟨b,_,_,_,e1,e2⟩:=N.dl h hj;rw [Oc e1,Oc e2]
theorem Bw.imIs (N:Bw L ks c kp G) (h:Nc L ks c kp q) (hm:Aa (K8 L ks c) c q=false):T2 G (L.length+1) (L.length+2) c q∧Gx G (L.length+1) (L.length+2) c q:=by
 obtain ⟨h20,h1000⟩:=fA hm;have hlen:=aJ5 hm;have hsec:I6 (K8 L ks c) c=true:=by unfold K8;rw [lT];exact Tz
 have dt:=fun j hj=>N.dl h (j:=j) hj;have flatS:A3 0 (K8 L ks c)=true:=Pq fun j hj=>rfl
 have hcl:cellsB (K8 L ks c)=true:=by
  unfold cellsB;rw [xM];intro v hv;unfold K8 D2 M7 at hv;obtain ⟨j,hj,rfl⟩:=List.mem_map.1 hv;have hb:j % 4<4:=Nat.mod_lt _ (by omega);generalize j % 4=b at hb
  match b,hb with
  | 0,_=>rfl
  | 1,_=>rfl
  | 2,_=>rfl
  | 3,_=>rfl
 have hl:(K8 L ks c).length=c*4:=Pp;obtain ⟨p1,p2,_⟩:=mL h.flat;refine ⟨⟨by rw [N.s];exact hsec,by rw [N.p];exact h.pls,Dp.2 ⟨⟨by rw [N.s];exact hsec,?_⟩,?_,?_⟩,fun j hj=>?_⟩,⟨?_,fun j hj=>?_,fun j hj=>?_,?_⟩⟩
 ·rw [N.s];refine L1.2 ⟨⟨B2.2 (by omega),?_⟩,by omega,?_⟩
  ·rw [J3 hl];exact hcl
  ·rw [J3 hl];exact flatS
 ·rw [N.p];refine L1.2 ⟨⟨B2.2 (by rw [h.len];omega),?_⟩,by omega,?_⟩
  ·rw [J3 h.len];exact p1
  ·rw [J3 h.len];exact p2
 ·intro j hj;rw [N.s];obtain ⟨b,_,b2,b3,b4,_⟩:=dt j hj;obtain ⟨_,_,_,_,a2,a3⟩:=cK (L:=L) (ks:=ks) hj;have hn:=hlen j hj;rw [b3,a2];have e:(O2 b).length=sN (K8 L ks c) j:=by rw [Ga,b2,a3]
  refine L1.2 ⟨⟨B2.2 (by rw [e];omega),?_⟩,by omega,?_⟩
  ·rw [Nat.mul_one,J3 e];unfold cellsB;rw [xM];intro v hv;obtain ⟨x,_,rfl⟩:=List.mem_map.1 hv;rfl
  ·rw [Nat.mul_one,J3 e];exact Zw
 ·rw [N.s];obtain ⟨b,b1,_,_,b4,_⟩:=dt j hj;exact ⟨b,b1,b4⟩
 ·rw [N.s];refine J0 fun a b ha hb=>?_;obtain ⟨a1,a2,a3,a4,a5,a6⟩:=cK (L:=L) (ks:=ks) ha
  match b,hb with
  | 0,_=>show AV.int .i64 (sA (GL L ks) a)=.int .i64 (sA (K8 L ks c) a);rw [a1]
  | 1,_=>show AV.int .i64 (sR (GL L ks) a)=.int .i64 (sR (K8 L ks c) a);rw [a2]
  | 2,_=>
   show dK (Jf (GL L ks) L.length) (GL L ks) a=dR (K8 L ks c) a;unfold dK dR;rw [a4,a5,a6]
  | 3,_=>show AV.int .i64 (sZ (GL L ks) a)=.int .i64 (sZ (K8 L ks c) a);rw [a3]
 ·rw [N.s];exact (cK (L:=L) (ks:=ks) hj).2.2.2.2.1
 ·rw [N.s];obtain ⟨b,_,_,b3,b4,_⟩:=dt j hj;rw [b3,b4]
 ·rw [N.p]
  have:=yB h.pls (Nat.le_of_eq h.len.symm)
  rwa [J3 h.len] at this
def Tv (L:List RoE) (ks kp ka:Nat) (k:Nat):Option Nat:=if k≤L.length then some k else if k=L.length+1 then some ks else if k=L.length+2 then some kp else if k=L.length+3 then some ka else none
theorem Bw.told {ka:Nat} (N:Bw L ks c kp G) (h:Nc L ks c kp q) (ha:G (L.length+3)=[]∨G (L.length+3)=GL L ka∧∀ v∈GL L ka,H7 v=true∧∀ σ,sb σ 0 v=v):Told (Tv L ks kp ka) (GL L) G:=by
  have σk:∀ k,k≤L.length→σS (Tv L ks kp ka) k=(.ro k,0):=fun k hk=>by unfold σS Tv;rw [if_pos hk]
  intro k k1 hs j v hv;unfold Tv at hs;by_cases h1:k≤L.length
  · rw [if_pos h1] at hs;obtain rfl:=Option.some.inj hs;by_cases h2:k<L.length
    · cases hu:(GL L k).all Fc with
      | true=>
        rw [N.lo k h2 hu] at hv;have hm:=rM hv;rw [xM] at hu
        have:=hu v hm
        unfold Fc at this;split at this
        · exact ⟨_,hv,rfl,fun ρ cv h=>by simpa [sb] using h⟩
        · cases this
      | false=>
        rw [N.lo' k h2 hu] at hv;simp at hv
    · have:k=L.length:=by omega
      subst this;rw [N.z] at hv;simp at hv
  · rw [if_neg h1] at hs;by_cases h2:k=L.length+1
    · rw [if_pos h2] at hs;obtain rfl:=Option.some.inj hs;subst h2;rw [N.s] at hv;have hl:(K8 L ks c).length=c*4:=Pp;have hj:j<c*4:=by rw [←hl];exact (zQ.1 hv).1
      obtain ⟨g1,g2,g3⟩:=Xo hj;have e:=Vp (L:=L) (ks:=ks) g1 g2;rw [← g3, hv] at e;obtain rfl:=Option.some.inj e;obtain ⟨⟨x,q0⟩,⟨r,q1⟩,q2,y,q3⟩:=h.sec _ g1;generalize j / 4=a at *;generalize j % 4=b at *;subst g3
      match b,g2 with
      | 0,_=>
        have e:A1 (GL L ks) (a*4)=x:=by unfold A1;rw [q0]
        refine ⟨_,q0,rfl,fun ρ cv h=>?_⟩;show VR ρ (sb _ 0 (.int .i64 (A1 (GL L ks) (a*4)))) cv;rw [e];simpa [sb] using h
      | 1,_=>
        have e:A1 (GL L ks) (a*4+1)=r:=by unfold A1;rw [q1]
        refine ⟨_,q1,rfl,fun ρ cv h=>?_⟩;show VR ρ (sb _ 0 (.int .i64 (A1 (GL L ks) (a*4+1)))) cv;rw [e];simpa [sb] using h
      | 2,_=>
        rcases q2 with e | ⟨k',b,w1,w2,w3,w4⟩
        · refine ⟨_,e,rfl,fun ρ cv h=>?_⟩;show VR ρ (sb _ 0 (dK (Jf (GL L ks) L.length) (GL L ks) a)) cv;have e1:Jf (GL L ks) L.length a=L.length:=by unfold Jf;rw [e]
          have e2:sN (GL L ks) a=0:=by
            show C7 (GL L ks) (a*4+2)=0;unfold C7;rw [e]
          unfold dK;rw [e1,e2];simp only [sb,σk _ (zA1 _),Nat.zero_add];exact Ll _ _ h
        · refine ⟨_,w2,rfl,fun ρ cv h=>?_⟩;show VR ρ (sb _ 0 (dK (Jf (GL L ks) L.length) (GL L ks) a)) cv;have e1:Jf (GL L ks) L.length a=k':=by unfold Jf;rw [w2]
          have e2:sN (GL L ks) a=b.length:=by
            show C7 (GL L ks) (a*4+2)=_;unfold C7;rw [w2]
          unfold dK;rw [e1,e2];simp only [sb,σk _ (Nat.le_of_lt w1),Nat.zero_add];exact T1 h
      | 3,_=>
        have e:A1 (GL L ks) (a*4+3)=y:=by unfold A1;rw [q3]
        refine ⟨_,q3,rfl,fun ρ cv h=>?_⟩;show VR ρ (sb _ 0 (.int .i64 (A1 (GL L ks) (a*4+3)))) cv;rw [e];simpa [sb] using h
    · rw [if_neg h2] at hs;by_cases h3:k=L.length+2
      · rw [if_pos h3] at hs;obtain rfl:=Option.some.inj hs;subst h3;rw [N.p] at hv;obtain ⟨_,_,p3⟩:=mL h.flat;obtain ⟨n1,n2⟩:=p3 v (rM hv);exact ⟨v,hv,n1,fun ρ cv h=>by rw [n2];exact h⟩
      · rw [if_neg h3] at hs;by_cases h4:k=L.length+3
        · rw [if_pos h4] at hs;obtain rfl:=Option.some.inj hs;subst h4;rcases ha with e | ⟨e,ha⟩
          · rw [e] at hv;simp at hv
          · rw [e] at hv;obtain ⟨n1,n2⟩:=ha v (rM hv);exact ⟨v,hv,n1,fun ρ cv h=>by rw [n2];exact h⟩
        · rw [if_neg h4] at hs;cases hs
end
open Crc
theorem bk_no (G:Nat→List AV) (B:Nat) (ks kp n m:Nat) (s by0 by1 x0 x1:Int) (hs:I6 (G ks) n=true) (h:Aa (G ks) n m=false→T2 G ks kp n m∧E8 s (G ks) n (G kp) m=false):ACalls (⟨Try.prog,G,B⟩:A0) 9 [.agg [.int .i64 s,.slice true (.ro ks) 0 n,.slice true (.ro kp) 0 m],.agg [.int .i64 by0,.int .i64 by1],.agg [.int .i64 x0,.int .i64 x1]] [] fun v _=>v=.bool true:=by
 have hsU:secOkU [.agg (G ks),.int .i64 (n:Int)]=true:=by simpa only [secOkU,F9] using hs
 have l9:B5 (C6 Try.f9)=[]:=by kernel_rfl
 obtain ⟨q6,s21,e6⟩:=Rk (C:=(⟨Try.prog,G,B⟩:A0)) (f:=21) (j:=2546) (o:=(.one (.bool (.var 20 false)) [])) (q:=(D9 [.agg [.int .i64 s,.slice true (.ro ks) 0 n,.slice true (.ro kp) 0 m]] [])) (Aa (G ks) n m=false) fun hmu=>by
  obtain ⟨hb,hy⟩:=h hmu;obtain ⟨hn,hm⟩:=fA hmu;have u1:S5 [.agg (G ks),.int .i64 (n:Int)]=true:=L9.2 ⟨hb.sec,by omega⟩;have u2:Jr [.agg (G kp),.int .i64 (m:Int)]=true:=Z3.2 ⟨hb.pls,by omega⟩;exact Hn (v0:=.bool false) rfl (by have:=mZ G B ks n kp m s u1 u2;rw [hy] at this;exact this) rfl rfl (by simp) rfl
 have key:=C1 (C:=(⟨Try.prog,G,B⟩:A0)) (K:=(Dc Try.prog [16] [(10,muchS),(11,trueS),(21,X6 2546 q6 (.one (.bool (.var 20 false)) [])),(28,Dw 2547 ((fun _=>false)) (.var 21 [])),(29,Rl 2548 ((fun _=>false)) (.tup [(.agg (.of [.int .i64 (.lit 0),.nils,.nils])),.int .i64 (.lit 4)])),(13,s13 ((fun _=>false)) ((fun _=>false)) ((fun _=>false)) ((fun _=>false)) (.one (.tup [.agg (.of [.int .i64 (.var 1 s),.slice true (.ro (.var 24 ks)) (.lit 0) (.var 3 n),.slice true (.ro (.var 25 kp)) (.lit 0) (.var 4 m)]),.int .i64 (.lit 0)]) []) (.tst (.var 10 false) (.one (.tup [(.agg (.of [.int .i64 (.var 14 0),.slice true (.ro (.var 26 0)) (.lit 0) (.var 3 n),.slice true (.ro (.var 27 0)) (.lit 0) (.var 4 m)])),.int .i64 (.lit 0)]) []) (.one (.tup [(.agg (.of [.int .i64 (.lit 0),.nils,.nils])),.int .i64 (.lit 2)]) [])) (.tst (.var 11 false) (.one (.tup [(.agg (.of [.int .i64 (.var 15 0),.slice true (.ro (.var 28 0)) (.lit 0) (.var 3 n),.slice true (.ro (.var 29 0)) (.lit 0) (.var 4 m)])),.int .i64 (.lit 0)]) []) (.one (.tup [(.agg (.of [.int .i64 (.lit 0),.nils,.nils])),.int .i64 (.lit 2)]) [])) (.one (.tup [(.agg (.of [.int .i64 (.var 15 0),.slice true (.ro (.var 28 0)) (.lit 0) (.var 3 n),.slice true (.ro (.var 29 0)) (.lit 0) (.var 4 m)])),.int .i64 (.lit 0)]) [])),(15,Wh G),(32,X6 2545 ((fun _=>false)) (.one (.bool (.lit true)) []))] [] 0)) (R:=fun v _=>v=.bool true) (by rw [l9];exact D7 (K6 G B) (by kernel_rfl) (.cons (mW G B) (.cons (lG G B) (.cons s21 (.cons dS (.cons rF (.cons (xL Pr Pr Pr Pr) (.cons (gZ G B) (.cons Pr .nil)))))))) .nil) (fuel:=500) (n0:=20) (f:=9) (fn:=Try.f9) (args:=[.agg (.of [.int .i64 (.var 1 s),.slice true (.ro (.var 24 ks)) (.lit 0) (.var 3 n),.slice true (.ro (.var 25 kp)) (.lit 0) (.var 4 m)]),.agg (.of [.int .i64 (.var 2 by0),.int .i64 (.var 5 by1)]),.agg (.of [.int .i64 (.var 6 x0),.int .i64 (.var 7 x1)])]) (H:=[]) (keep:=0) (by kernel_rfl) (by kernel_rfl) (by kernel_rfl) (by
  rw [aB0,Zb]
  exact ⟨hsU,fun _=>rfl,fun hmu=>⟨by rw [e6 hmu];exact C5,fun h=>(by cases h),fun _=>rfl⟩⟩)
 exact key.monoK fun v H h=>h
section
variable (L:List RoE) (ks c kp:Nat) (X:Nat→List AV)
def GX (k:Nat):List AV:=
 if k<L.length then (if (GL L k).all Fc=true then GL L k else [])
 else if k=L.length+1 then K8 L ks c
 else if k=L.length+2 then GL L kp
 else if L.length+3≤k then X (k - (L.length+3))
 else []
end
section
variable {L:List RoE} {ks c kp q:Nat} {X:Nat→List AV}
theorem cV:Bw L ks c kp (GX L ks c kp X) where
 lo k hk hu:=by unfold GX;rw [if_pos hk,if_pos hu]
 lo' k hk hu:=by unfold GX;rw [if_pos hk,if_neg (by rw [hu];decide)]
 z:=by unfold GX;rw [if_neg (by omega),if_neg (by omega),if_neg (by omega),if_neg (by omega)]
 s:=by unfold GX;rw [if_neg (by omega),if_pos rfl]
 p:=by unfold GX;rw [if_neg (by omega),if_neg (by omega),if_pos rfl]
theorem Hb {i:Nat}:GX L ks c kp X (L.length+3+i)=X i:=by
 unfold GX;rw [if_neg (by omega),if_neg (by omega),if_neg (by omega),if_pos (by omega),show L.length+3+i - (L.length+3)=i by omega]
theorem Bw.db0 {G:Nat→List AV} (N:Bw L ks c kp G) (h:Nc L ks c kp q):dB0 G (K8 L ks c) c=dB0 (GL L) (K8 L ks c) c:=by
 funext j;unfold dB0;by_cases hj:j<c
 ·rw [if_pos hj,if_pos hj,N.db h hj]
 ·rw [if_neg hj,if_neg hj]
theorem Bw.file {G:Nat→List AV} (N:Bw L ks c kp G) (h:Nc L ks c kp q) {s:Int} {ps:List AV} {m:Nat}:F5 G s (K8 L ks c) c ps m=F5 (GL L) s (K8 L ks c) c ps m:=by
 have e:∀ n,n≤c→I5 G (K8 L ks c) n=I5 (GL L) (K8 L ks c) n:=fun n=>by
  induction n with
  | zero=>intro _;rfl
  | succ n ih=>
   intro hn;obtain ⟨b,_,_,_,e1,e2⟩:=N.dl h (j:=n) (by omega);rw [I5,I5,ih (by omega),Lt,Lt,e1,e2]
 have eb:Y9 G s (K8 L ks c) c ps m=Y9 (GL L) s (K8 L ks c) c ps m:=by unfold Y9;rw [e c (zA1 _)]
 unfold F5;rw [eb]
end
section
variable (L:List RoE) (ks c kp q:Nat) (s:Int) (z0 z1:Nat) (x0 x1:Int)
def lB:List AV:=(F5 (GL L) s (K8 L ks c) c (GL L kp) q).set (Qk x0 (F5 (GL L) s (K8 L ks c) c (GL L kp) q).length) (.int .u8 (Sz x1))
def XB:Nat→List AV
 | 0=>[]
 | 1=>Q3 (shS (K8 L ks c) z0 c) (K8 L ks c) c (dK (fun j=>L.length+3+(j+7)) (K8 L ks c))
 | 2=>G2 (shF (GL L kp) z0 q) (GL L kp) q
 | 3=>Q3 (shS (K8 L ks c) (z0+z1) c) (K8 L ks c) c (dK (fun j=>L.length+3+(j+8+7)) (K8 L ks c))
 | 4=>G2 (shF (GL L kp) (z0+z1) q) (GL L kp) q
 | 5=>M6 (rzT (lB L ks c kp q s x0 x1)) (rzN (lB L ks c kp q s x0 x1)) (d1 (rzT (lB L ks c kp q s x0 x1)) (rzA (lB L ks c kp q s x0 x1))) (fun j=>L.length+3+(j+16+7)) (rzn (lB L ks c kp q s x0 x1))
 | 6=>R8 (rzT (lB L ks c kp q s x0 x1)) (d1 (rzT (lB L ks c kp q s x0 x1)) (rzX (lB L ks c kp q s x0 x1))) (rzm (lB L ks c kp q s x0 x1))
 | k+7=>if k<8 then O2 (J7 (dB0 (GL L) (K8 L ks c) c) (K8 L ks c) c z0 (GL L kp) q k) else if k<16 then O2 (J7 (dB0 (GL L) (K8 L ks c) c) (K8 L ks c) c (z0+z1) (GL L kp) q (k - 8)) else dD (rzT (lB L ks c kp q s x0 x1)) (rzN (lB L ks c kp q s x0 x1)) (B4 (rzT (lB L ks c kp q s x0 x1)) (rzN (lB L ks c kp q s x0 x1)) (d1 (rzT (lB L ks c kp q s x0 x1)) (rzA (lB L ks c kp q s x0 x1))) (k - 16))
end
section
variable {L:List RoE} {ks c kp q:Nat} {s:Int} {z0 z1:Nat} {x0 x1:Int}
theorem XB_mv0 (I:Nc L ks c kp q):Mv (GX L ks c kp (XB L ks c kp q s z0 z1 x0 x1)) (L.length+1) (L.length+2) c q z0 (L.length+3+1) (L.length+3+2) fun j=>L.length+3+(j+7):=by
 have N:Bw L ks c kp (GX L ks c kp (XB L ks c kp q s z0 z1 x0 x1)):=cV;refine ⟨fun j hj=>?_,?_,?_⟩
 ·rw [N.s,N.p,N.db0 I,Hb];exact if_pos hj
 ·rw [N.s,Hb];rfl
 ·rw [N.p,Hb];rfl
theorem XB_mv3 (I:Nc L ks c kp q):Mv (GX L ks c kp (XB L ks c kp q s z0 z1 x0 x1)) (L.length+1) (L.length+2) c q (z0+z1) (L.length+3+3) (L.length+3+4) fun j=>L.length+3+(j+8+7):=by
 have N:Bw L ks c kp (GX L ks c kp (XB L ks c kp q s z0 z1 x0 x1)):=cV;refine ⟨fun j hj=>?_,?_,?_⟩
 ·rw [N.s,N.p,N.db0 I,Hb,XB,if_neg (by omega),if_pos (by omega),Nat.add_sub_cancel]
 ·rw [N.s,Hb];rfl
 ·rw [N.p,Hb];rfl
theorem XB_rz:jF (GX L ks c kp (XB L ks c kp q s z0 z1 x0 x1)) (L.length+3+5) (L.length+3+6) (fun j=>L.length+3+(j+16+7)) (lB L ks c kp q s x0 x1):=by
 refine ⟨fun j hj=>?_,?_,?_⟩
 ·rw [Hb,XB,if_neg (by omega),if_neg (by omega),Nat.add_sub_cancel]
 ·rw [Hb];rfl
 ·rw [Hb];rfl
theorem bk_gx (B:Nat) (s by0 by1 x0 x1:Int) (I:Nc L ks c kp q):ACalls ⟨Try.prog,GX L ks c kp (XB L ks c kp q s (Int.toNat by0) (Int.toNat by1) x0 x1),B⟩ 9 [.agg [.int .i64 s,.slice true (.ro (L.length+1)) 0 c,.slice true (.ro (L.length+2)) 0 q],.agg [.int .i64 by0,.int .i64 by1],.agg [.int .i64 x0,.int .i64 x1]] [] fun v _=>v=.bool true:=by
 have N:=cV (L:=L) (ks:=ks) (c:=c) (kp:=kp) (X:=XB L ks c kp q s (Int.toNat by0) (Int.toNat by1) x0 x1);have M1:=XB_mv0 (s:=s) (z0:=Int.toNat by0) (z1:=Int.toNat by1) (x0:=x0) (x1:=x1) I;have M3:=XB_mv3 (s:=s) (z0:=Int.toNat by0) (z1:=Int.toNat by1) (x0:=x0) (x1:=x1) I;have R:=XB_rz (L:=L) (ks:=ks) (c:=c) (kp:=kp) (q:=q) (s:=s) (z0:=Int.toNat by0) (z1:=Int.toNat by1) (x0:=x0) (x1:=x1);have e0:=Hb (L:=L) (ks:=ks) (c:=c) (kp:=kp) (X:=XB L ks c kp q s (Int.toNat by0) (Int.toNat by1) x0 x1) (i:=0);rw [show XB L ks c kp q s (Int.toNat by0) (Int.toNat by1) x0 x1 0=[] from rfl] at e0
 generalize GX L ks c kp (XB L ks c kp q s (Int.toNat by0) (Int.toNat by1) x0 x1)=G at *
 have eL:lB L ks c kp q s x0 x1=(F5 G s (G (L.length+1)) c (G (L.length+2)) q).set (Qk x0 (F5 G s (G (L.length+1)) c (G (L.length+2)) q).length) (.int .u8 (Sz x1)):=by
  rw [N.s,N.p,N.file I];rfl
 rw [eL] at R;have w:=N.imIs I;have sec:I6 (G (L.length+1)) c=true:=by rw [N.s];unfold K8;rw [lT];exact Tz
 by_cases hm:Aa (K8 L ks c) c q=false∧E8 s (G (L.length+1)) c (G (L.length+2)) q=true
 ·obtain ⟨hm,hy⟩:=hm;obtain ⟨hb,hw⟩:=w hm;exact bk_yes G B (L.length+1) (L.length+2) _ _ _ _ c q _ _ _ s by0 by1 x0 x1 _ _ _ ⟨hb,hw,hy,M1,M3⟩ e0 (by rw [N.s];exact hm) R
 ·refine bk_no G B (L.length+1) (L.length+2) c q s by0 by1 x0 x1 sec fun h=>?_;rw [N.s] at h;refine ⟨(w h).1,?_⟩;cases e:E8 s (G (L.length+1)) c (G (L.length+2)) q with
  | false=>rfl
  | true=>exact absurd ⟨h,e⟩ hm
end
end Go.Am
