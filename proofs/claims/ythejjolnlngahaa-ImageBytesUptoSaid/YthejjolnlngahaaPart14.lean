/-
  Images: the document's Same, whatever it is handed. ImageOf: the law's pieces ahead of its drawn region.
-/
import Derived.Test.YthejjolnlngahaaPart13
import Derived.Test.YthejjolnlngahaaBase5
import Derived.Test.YthejjolnlngahaaBase3
import Derived.Test.YthejjolnlngahaaProg
import Derived.Test.YthejjolnlngahaaPart8
import Derived.Test.YthejjolnlngahaaBase6
import Derived.Test.YthejjolnlngahaaPart7
namespace Go.Am
open Go.Proofs
set_option maxRecDepth 100000
def sameN:DSum:=fun args _=>match args with
 | [.agg (.of [.int .i64 s,.nils,.nils]),.agg (.of [.int .i64 sv,.nils,.nils])]=>some (.one (.bool (.cmp .eql s sv)) [])
 | _=>none
theorem rG (G:Nat→List AV) (B:Nat):C5 (⟨Try.prog,G,B⟩:A2) 15 sameN:=by
 intro args H o ho;unfold sameN at ho;split at ho
 ·rename_i s sv;simp only [Option.some.injEq] at ho;subst ho;refine E0.rdN (C:=(⟨Try.prog,G,B⟩:A2)) (σ:=fun _=>(.ro 0,0)) (G':=fun _=>[]) (args0:=[.agg [.int .i64 (vI G s),.slice true (.ro 0) 0 0,.slice true (.ro 0) 0 0],.agg [.int .i64 (vI G sv),.slice true (.ro 0) 0 0,.slice true (.ro 0) 0 0]]) (fun k=>.inl rfl) rfl (fun ρ vs hvs=>?_) (fun B'=>?_) ⟨rfl,rfl⟩
  ·simp only [vVs,vV,vL,sbs,sb,VRs,VR,Nat.add_zero] at hvs ⊢;obtain ⟨v,vs',e,⟨ws,e2,w1,t1,e3,k1,w2,t2,e4,k2,w3,t3,e5,k3,k4⟩,v',vs2,e6,⟨us,e7,u1,z1,e8,l1,u2,zz2,e9,l2,u3,z3,e10,l3,l4⟩,k6⟩:=hvs
   have nl:∀ {w:Value},VR ρ .nils w→N4 ρ true (.ro 0) 0 0 w:=fun {w} h=>by
    have:=Hu 0 0 h
    simpa only [VR] using this
   exact ⟨v,vs',e,⟨ws,e2,w1,t1,e3,k1,w2,t2,e4,nl (by simpa only [VR] using k2),w3,t3,e5,nl (by simpa only [VR] using k3),k4⟩,v',vs2,e6,⟨us,e7,u1,z1,e8,l1,u2,zz2,e9,nl (by simpa only [VR] using l2),u3,z3,e10,nl (by simpa only [VR] using l3),l4⟩,k6⟩
  ·refine (Mm (fun _=>[]) B' (vI G s) (vI G sv) 0 0 0 0 0 0 0 0 rfl rfl rfl rfl).monoK fun v _ e=>?_;rw [e];show AV.bool ((vI G s==vI G sv)&&true)=.bool (vI G s==vI G sv);rw [Bool.and_true]
 ·simp at ho
def orS (s t:DSum):DSum:=fun args H=>match s args H with
 | some o=>some o
 | none=>t args H
theorem C5.or {C:A2} {f:FuncId} {s t:DSum} (hs:C5 C f s) (ht:C5 C f t):C5 C f (orS s t):=by
 intro args H o ho;unfold orS at ho;split at ho
 ·rename_i o' h;simp only [Option.some.injEq] at ho;subst ho;exact hs _ _ _ h
 ·exact ht _ _ _ ho
def Lg (G:Nat→List AV):DSum:=orS same1S (orS sameN (aZ G))
theorem Ol (G:Nat→List AV) (B:Nat):C5 (⟨Try.prog,G,B⟩:A2) 15 (Lg G):=(nP G B).or ((rG G B).or (nR G B))
end Go.Am
namespace Go.Am
open Go.Proofs
set_option maxRecDepth 100000
def trueS:DSum:=fun args _=>match args with
 | []=>some (.one (.bool (.lit true)) [])
 | _=>none
end Go.Am
namespace Go.Am
open Go.Proofs
set_option maxRecDepth 100000
end Go.Am
namespace Go.Am
open Go.Proofs
set_option maxRecDepth 100000
end Go.Am
namespace Go.Am
open Go.Proofs
set_option maxRecDepth 100000
end Go.Am
namespace Go.Proofs.Ythejjolnlngahaa
open Go.Am Go.RowKit
set_option maxRecDepth 100000
theorem oZ (G:Nat→List AV) (B:Nat):vc (Kc ⟨Try.prog,G,B⟩) 3000 0 (.code (B4 Try.f11)) (J1 Try.f11 []) [] (J6 ⟨Try.prog,G,B⟩ Try.f11 fun v _=>chk (isT v) True)=True:=by kernel_rfl
theorem known_call (G:Nat→List AV) (B:Nat):ACalls ⟨Try.prog,G,B⟩ 11 [] [] fun v _=>v=.bool true:=
 closed_run (C:=⟨Try.prog,G,B⟩) (by kernel_rfl) (fn:=Try.f11) (by kernel_rfl) (by kernel_rfl) (by kernel_rfl) 3000 (oZ G B)
end Go.Proofs.Ythejjolnlngahaa
namespace Go.Am
open Go.Proofs
set_option maxRecDepth 100000
def plA:AV→Bool
 | .int _ _=>true
 | .bool _=>true
 | _=>false
theorem Ag {l:List AV} {n:Nat} (h:l.length=n):A7 l 0 n=l:=by
 unfold A7;rw [List.drop_zero,List.take_of_length_le (by omega)]
theorem Xu {cs:List AV} {n m:Nat} (h:Z8 cs n m=false):n≤20∧m≤1000:=by
 unfold Z8 at h;simp only [Bool.or_eq_false_iff,decide_eq_false_iff_not] at h;omega
theorem Ss (G:Nat→List AV) (B:Nat):C5 (⟨Try.prog,G,B⟩:A2) 11 trueS:=by
 intro args H o ho;unfold trueS at ho;split at ho
 ·simp only [Option.some.injEq] at ho;subst ho;exact E0.of (gI fun G B=>Go.Proofs.Ythejjolnlngahaa.known_call G B) (by simp only [true_sum,vVs,vV,vB,List.map_nil])
 ·simp at ho
end Go.Am
namespace Go.Am
open Go.Proofs
set_option maxRecDepth 100000
def O8 (j:Nat) (q:List AV→Bool) (o:Outs):DSum:=fun args _=>some (.chk (.uf j q [.agg (.of args),.agg (.of [])]) o)
theorem Er {C:A2} {f j:Nat} {vs0:List AV} {v0:AV} {x:EV} {q:List AV→Bool} (hq:q=F8 vs0 []) (h:ACalls C f vs0 [] fun v _=>v=v0) (ha:A4 0 vs0=true) (hv:A8 0 v0=true) (hu:v0≠.undef) (e1:vV C.G x=v0):C5 C f (O8 j q (.one x [])):=by
 intro args H o' ho;simp only [O8,Option.some.injEq] at ho;subst ho;intro h1;have h1:q [.agg (vVs C.G args),.agg (P2 [])]=true:=h1;rw [hq] at h1;obtain ⟨e,_⟩:=Rk h1;exact E0.ro0 (by rw [e,e1];exact ACalls.drop0 h hv hu) (by rw [e];exact ha) (by rw [e1];exact hv)
end Go.Am
namespace Go.Am
open Go.Proofs
set_option maxRecDepth 100000
theorem Zg {G:Nat→List AV} {s:Int} {cs ps:List AV} {n m:Nat}:Dn G s cs n ps m s cs n ps m=true:=by
 unfold Dn kU kH;rw [Nat.beq_refl,Nat.beq_refl];have e1:G9 (Bo ps ps) m=true:=K7.2 fun j _=>by unfold Bo;simp
 have e2:G9 (S6 G cs cs) n=true:=K7.2 fun j _=>by unfold S6;simp
 rw [e1,e2];simp
theorem fS {b:List Nat}:u8s (Av b)=true:=by
 unfold u8s;rw [List.all_eq_true];intro v hv;obtain ⟨x,_,rfl⟩:=List.mem_map.1 hv;rfl
theorem dat_im {G:Nat→List AV} {ks kp n m:Nat} (hb:Eh G ks kp n m):Gi G (G ks) n=true:=K7.2 fun j hj=>by
 obtain ⟨_,_,hd⟩:=Hs.1 hb.cp;have hc:=(Dh.1 (hd j hj)).1.1;rw [Nat.mul_one] at hc;obtain ⟨b,_,b2⟩:=hb.dat j hj;unfold Bh;rw [b2,fS,Bool.and_true];exact hc
end Go.Am
namespace Go.Am
open Go.Proofs
set_option maxRecDepth 100000
theorem Ut {C:A2} {f j:Nat} {o:Outs}:C5 C f (O8 j (fun _=>false) o):=by
 intro args H o' ho;simp only [O8,Option.some.injEq] at ho;subst ho;intro h;exact absurd h (by simp [vB])
end Go.Am
namespace Go.Am
open Go.Proofs
set_option maxRecDepth 100000
end Go.Am
namespace Go.Am
open Go.Proofs
set_option maxRecDepth 100000
theorem dat_at {G:Nat→List AV} {ks kp n m j:Nat} (hb:Eh G ks kp n m) (hw:W0 G ks kp n m) (hj:j<n):G (C9 (G ks) (j*4+2))=Av (dB G (G ks) j)∧(dB G (G ks) j).length=sN (G ks) j∧fR (dB G (G ks) j)∧E5 (G ks) (j*4+2)=0:=by
 obtain ⟨b,h1,h2⟩:=hb.dat j hj;have h3:=yU hb j hj;have h4:=dB_eq h2;unfold dB0 at h3;rw [if_pos hj] at h3;refine ⟨by rw [hw.dat j hj,h2,h4],h3,by rw [h4];exact h1,hw.off j hj⟩
end Go.Am
namespace Go.Am
open Go.Proofs
set_option maxRecDepth 100000
end Go.Am
namespace Go.Am
open Go.Proofs
set_option maxRecDepth 100000
end Go.Am
namespace Go.Am
open Go.Proofs
set_option maxRecDepth 100000
end Go.Am
namespace Go.Am
open Go.Proofs
set_option maxRecDepth 100000
end Go.Am
namespace Go.Am
open Go.Proofs
set_option maxRecDepth 100000
end Go.Am
namespace Go.Am
open Go.Proofs
set_option maxRecDepth 100000
end Go.Am
namespace Go.Am
open Go.Proofs
set_option maxRecDepth 100000
end Go.Am
namespace Go.Am
open Go.Proofs
set_option maxRecDepth 100000
end Go.Am
namespace Go.Am
open Go.Proofs
set_option maxRecDepth 100000
end Go.Am
namespace Go.Am
open Go.Proofs
set_option maxRecDepth 100000
def pgB (G:Nat→List AV) (cs:List AV) (k i:Nat):List Nat:=(List.range 256).map fun q=>bN (dB G cs k) (256*i+q)
end Go.Am
namespace Go.Am
open Go.Proofs
set_option maxRecDepth 100000
end Go.Am
namespace Go.Am
open Go.Proofs
set_option maxRecDepth 100000
end Go.Am
namespace Go.Am
open Go.Proofs
set_option maxRecDepth 100000
end Go.Am
namespace Go.Am
open Go.Proofs
set_option maxRecDepth 100000
def pgN (cs:List AV) (k:Nat):Nat:=((sE cs k - sA cs k).toNat+255) / 256
def pgT (cs:List AV):Nat→Nat
 | 0=>0
 | k+1=>pgT cs k+pgN cs k
def nmS (cs:List AV) (k:Nat):Nat→List AV
 | 0=>[]
 | i+1=>nmS cs k i++[.int .i64 (sA cs k / 256+(i:Int))]
def nmL (cs:List AV):Nat→List AV
 | 0=>[]
 | k+1=>nmL cs k++nmS cs k (pgN cs k)
def wtS (g:Nat) (cs:List AV) (k:Nat):Nat→List AV
 | 0=>[]
 | i+1=>wtS g cs k i++[.int .i64 (sR cs k),.slice false (.ro (g+(pgT cs k+i))) 0 256]
def wtL (g:Nat) (cs:List AV):Nat→List AV
 | 0=>[]
 | k+1=>wtL g cs k++wtS g cs k (pgN cs k)
end Go.Am
namespace Go.Am
open Go.Proofs
set_option maxRecDepth 100000
end Go.Am
namespace Go.Am
open Go.Proofs
set_option maxRecDepth 100000
end Go.Am
namespace Go.Am
open Go.Proofs
set_option maxRecDepth 100000
end Go.Am
namespace Go.Am
open Go.Proofs
set_option maxRecDepth 100000
end Go.Am
namespace Go.Am
open Go.Proofs
set_option maxRecDepth 100000
end Go.Am
namespace Go.Am
open Go.Proofs
set_option maxRecDepth 100000
end Go.Am
namespace Go.Am
open Go.Proofs
set_option maxRecDepth 100000
end Go.Am
namespace Go.Am
open Go.Proofs
set_option maxRecDepth 100000
end Go.Am
namespace Go.Am
open Go.Proofs
set_option maxRecDepth 100000
end Go.Am
namespace Go.Am
open Go.Proofs
set_option maxRecDepth 100000
end Go.Am
namespace Go.Am
open Go.Proofs
set_option maxRecDepth 100000
end Go.Am
namespace Go.Am
open Go.Proofs
set_option maxRecDepth 100000
end Go.Am
namespace Go.Am
open Go.Proofs
set_option maxRecDepth 100000
end Go.Am
namespace Go.Am
open Go.Proofs
set_option maxRecDepth 100000
end Go.Am
namespace Go.Am
open Go.Proofs
set_option maxRecDepth 100000
end Go.Am
namespace Go.Am
open Go.Proofs
set_option maxRecDepth 100000
end Go.Am
namespace Go.Am
open Go.Proofs
set_option maxRecDepth 100000
end Go.Am
namespace Go.Am
open Go.Proofs
set_option maxRecDepth 100000
end Go.Am
namespace Go.Am
open Go.Proofs
set_option maxRecDepth 100000
end Go.Am
namespace Go.Am
open Go.Proofs
set_option maxRecDepth 100000
end Go.Am
namespace Go.Am
open Go.Proofs
set_option maxRecDepth 100000
end Go.Am
namespace Go.Am
open Go.Proofs
set_option maxRecDepth 100000
end Go.Am
namespace Go.Am
open Go.Proofs
set_option maxRecDepth 100000
def progP:List (Nat×DSum):=[(56,Xr false),(71,Xr true),(82,Wn false),(72,Wn true),(83,flagS),(73,flagS),(55,joinP)]
theorem t52 (G:Nat→List AV) (a r y:Int) (k o l:Nat) (Q:Ex→List AV→Hp→Prop) (R:AV→Hp→Prop):vT G Q R (G6 (Dc Try.prog [] progP [] 0) 300 20 Try.f52 [.agg (.of [.int .i64 (.var 11 a),.int .i64 (.var 12 r),.slice true (.ro (.var 13 k)) (.var 14 o) (.var 15 l),.int .i64 (.var 16 y)])] [] 8)=(
  inU64 [.int .u64 (IntKind.wrap .u64 (a))]=true∧inU64 [.int .u64 (IntKind.wrap .u64 (r))]=true∧leB (l) (1099511627776)=true∧leB (o+l) (List.length (G (k)))=true∧u8s (G (k))=true∧u8s (A7 (G (k)) (o) (l))=true∧inU64 [.int .u64 (IntKind.wrap .u64 (y))]=true∧Nat.beq (List.length (A3 (A1 [.int .u64 (IntKind.wrap .u64 (a))]))) (List.length (A1 [.int .u64 (IntKind.wrap .u64 (a))]))=true∧Nat.beq (List.length (A3 (A1 [.int .u64 (IntKind.wrap .u64 (r))]))) (List.length (A1 [.int .u64 (IntKind.wrap .u64 (r))]))=true∧Nat.beq (List.length ((A3 (A1 [.int .u64 (((l:Nat):Int))]))++(A7 (G (k)) (o) (l)))) (List.length (A1 [.int .u64 (((l:Nat):Int))])+l)=true∧Nat.beq (List.length (A3 (A1 [.int .u64 (IntKind.wrap .u64 (y))]))) (List.length (A1 [.int .u64 (IntKind.wrap .u64 (y))]))=true∧u8s (A3 (A1 [.int .u64 (IntKind.wrap .u64 (a))]))=true∧u8s (A3 (A1 [.int .u64 (IntKind.wrap .u64 (r))]))=true∧u8s ((A3 (A1 [.int .u64 (((l:Nat):Int))]))++(A7 (G (k)) (o) (l)))=true∧u8s (A3 (A1 [.int .u64 (IntKind.wrap .u64 (y))]))=true∧leB (List.length (A1 [.int .u64 (IntKind.wrap .u64 (a))])+List.length (A1 [.int .u64 (IntKind.wrap .u64 (r))])+(List.length (A1 [.int .u64 (((l:Nat):Int))])+l)+List.length (A1 [.int .u64 (IntKind.wrap .u64 (y))])) (1099511627776)=true∧
 R (.slice false (.rw 6) (0) (List.length ((((A3 (A1 [.int .u64 (IntKind.wrap .u64 (a))]))++(A3 (A1 [.int .u64 (IntKind.wrap .u64 (r))])))++((A3 (A1 [.int .u64 (((l:Nat):Int))]))++(A7 (G (k)) (o) (l))))++(A3 (A1 [.int .u64 (IntKind.wrap .u64 (y))]))))) [some ⟨1,([.int .i64 (a),.int .i64 (r),.slice true (.ro (k)) (o) (l),.int .i64 (y)]:List AV)⟩,some ⟨1,(A3 (A1 [.int .u64 (IntKind.wrap .u64 (a))]))⟩,some ⟨1,(A3 (A1 [.int .u64 (IntKind.wrap .u64 (r))]))⟩,some ⟨1,((A3 (A1 [.int .u64 (((l:Nat):Int))]))++(A7 (G (k)) (o) (l)))⟩,some ⟨1,(A3 (A1 [.int .u64 (IntKind.wrap .u64 (y))]))⟩,some ⟨1,([.slice false (.rw 1) (0) (List.length (A1 [.int .u64 (IntKind.wrap .u64 (a))])),.slice false (.rw 2) (0) (List.length (A1 [.int .u64 (IntKind.wrap .u64 (r))])),.slice false (.rw 3) (0) (List.length (A1 [.int .u64 (((l:Nat):Int))])+l),.slice false (.rw 4) (0) (List.length (A1 [.int .u64 (IntKind.wrap .u64 (y))]))]:List AV)⟩,some ⟨1,((((A3 (A1 [.int .u64 (IntKind.wrap .u64 (a))]))++(A3 (A1 [.int .u64 (IntKind.wrap .u64 (r))])))++((A3 (A1 [.int .u64 (((l:Nat):Int))]))++(A7 (G (k)) (o) (l))))++(A3 (A1 [.int .u64 (IntKind.wrap .u64 (y))])))⟩]):=by kernel_rfl
theorem t54 (G:Nat→List AV) (a:Int) (h:Bool) (Q:Ex→List AV→Hp→Prop) (R:AV→Hp→Prop):vT G Q R (G6 (Dc Try.prog [] progP [] 0) 300 20 Try.f54 [.agg (.of [.int .i64 (.var 11 a),.bool (.var 12 h)])] [] 6)=(
  inU64 [.int .u64 (IntKind.wrap .u64 (a))]=true∧Nat.beq (List.length (A3 (A1 [.int .u64 (IntKind.wrap .u64 (a))]))) (List.length (A1 [.int .u64 (IntKind.wrap .u64 (a))]))=true∧Nat.beq (List.length ([.int .u8 (U1 [.bool (h)])]:List AV)) (1)=true∧u8s (A3 (A1 [.int .u64 (IntKind.wrap .u64 (a))]))=true∧u8s ([.int .u8 (U1 [.bool (h)])]:List AV)=true∧leB (List.length (A1 [.int .u64 (IntKind.wrap .u64 (a))])+1) (1099511627776)=true∧R (.slice false (.rw 4) (0) (List.length ((A3 (A1 [.int .u64 (IntKind.wrap .u64 (a))]))++([.int .u8 (U1 [.bool (h)])]:List AV)))) [some ⟨1,([.int .i64 (a),.bool (h)]:List AV)⟩,some ⟨1,(A3 (A1 [.int .u64 (IntKind.wrap .u64 (a))]))⟩,some ⟨1,([.int .u8 (U1 [.bool (h)])]:List AV)⟩,some ⟨1,([.slice false (.rw 1) (0) (List.length (A1 [.int .u64 (IntKind.wrap .u64 (a))])),.slice false (.rw 2) (0) (1)]:List AV)⟩,some ⟨1,((A3 (A1 [.int .u64 (IntKind.wrap .u64 (a))]))++([.int .u8 (U1 [.bool (h)])]:List AV))⟩]):=by kernel_rfl
end Go.Am
namespace Go.Am
open Go.Proofs
set_option maxRecDepth 100000
theorem Ak (G:Nat→List AV) (B:Nat):P6 (⟨Try.prog,G,B⟩:A2) progP:=.cons (Rb (num9 G B)) (.cons (Rb (vD G B)) (.cons (aF (bytes8 G B)) (.cons (aF (yZ G B)) (.cons (eY (flag15 G B)) (.cons (eY (flag16 G B)) (.cons (tF G B) .nil))))))
def fN (x:Int):List AV:=A3 (Fm x.toNat)
def O7 (a r:Int) (d:List AV) (y:Int):List AV:=((fN a++fN r)++(fN (d.length:Int)++d))++fN y
def V7 (a:Int) (h:Bool):List AV:=fN a++[.int .u8 (U1 [.bool h])]
def S2 (x:Int):Bool:=decide (0≤x)&&decide (x≤9223372036854775807)
theorem K4 {x:Int}:S2 x=true↔0≤x∧x≤9223372036854775807:=by simp [S2]
theorem Di {x:Int} (h:S2 x=true):IntKind.wrap .u64 x=x:=Fw (by have:=K4.1 h;omega)
theorem Z9 {x:Int} (h:S2 x=true):inU64 [.int .u64 x]=true:=by
 have:=K4.1 h
 simp only [inU64,Bool.and_eq_true,decide_eq_true_eq];omega
theorem Yz:∀ (a:List UInt8),u8s (A3 a)=true
 | []=>rfl
 | x::a=>by
  have:=Yz a
  simp only [u8s,A3,List.map_cons,List.all_cons,Bq,Bool.true_and] at this ⊢;exact this
theorem J9 (x:Int):u8s (fN x)=true:=Yz _
theorem K6 (x:Int):(fN x).length≤10:=by unfold fN;rw [I5];exact Zu _
theorem Id {a r y:Int} {d:List AV} (h:u8s d=true):u8s (O7 a r d y)=true:=by simp only [O7,C3,J9,h,Bool.and_self]
theorem Zf {a r y:Int} {d:List AV}:(O7 a r d y).length≤d.length+40:=by
 have h1:=K6 a;have h2:=K6 r;have h3:=K6 (d.length:Int);have h4:=K6 y;simp only [O7,List.length_append];omega
theorem Ih {a:Int} {h:Bool}:u8s (V7 a h)=true:=by simp only [V7,C3,J9,Bool.true_and];rfl
theorem Zn {a:Int} {h:Bool}:(V7 a h).length≤11:=by
 have:=K6 a
 simp only [V7,List.length_append,List.length_cons,List.length_nil];omega
theorem mC {f:FuncId} {args:List AV} {C:A2} {mb:Bool} {q m:Nat} {cs:List AV} (hc:u8s cs=true) (h:ACalls C f args [] fun v' H'=>v'=.slice mb (.rw q) 0 m∧H'[q]?=some (some ⟨1,cs⟩)) :
  ACalls C f args [] fun v' H'=>v'=.slice mb (.rw 0) 0 m∧H'=[some ⟨1,cs⟩]:=by
 refine h.view fun v H' ⟨e1,e2⟩=>⟨_,_,⟨rfl,rfl⟩,?_⟩;have hl:=(List.getElem?_eq_some_iff.1 e2).1;rw [e1];exact C2.renM (θ:=[q]) (by simp) (fun i hi=>absurd hi (by simp)) (by simp) ⟨⟨B7 hc,by rw [B5 _ _ (B7 (k:=0) hc)];exact e2⟩,trivial⟩ (by simp [A4,A8]) (by simp [rens,C1,wk])
theorem xE (G:Nat→List AV) (B:Nat) (a r y:Int) (k o l:Nat) (ha:S2 a=true) (hr:S2 r=true) (hy:S2 y=true) (hl:l≤1099511627000) (ho:o+l≤(G k).length) (hu:u8s (G k)=true):ACalls (⟨Try.prog,G,B⟩:A2) 52 [.agg [.int .i64 a,.int .i64 r,.slice true (.ro k) o l,.int .i64 y]] [] fun v H=>v=.slice false (.rw 0) 0 (O7 a r (A7 (G k) o l) y).length∧H=[some ⟨1,O7 a r (A7 (G k) o l) y⟩]:=by
 have hd:(A7 (G k) o l).length=l:=by simp only [A7,List.length_take,List.length_drop];omega
 have hud:u8s (A7 (G k) o l)=true:=by
  unfold u8s at hu ⊢;rw [List.all_eq_true] at hu ⊢;intro v hv;exact hu v (List.mem_of_mem_drop (List.mem_of_mem_take hv))
 have e:=Id (a:=a) (r:=r) (y:=y) hud;refine mC (q:=6) e ?_
 have key:=C7 (C:=(⟨Try.prog,G,B⟩:A2)) (f:=52) (fn:=Try.f52) (K:=Dc Try.prog [] progP [] 0) (R:=fun v H=>v=.slice false (.rw 6) 0 (O7 a r (A7 (G k) o l) y).length∧∃ H0,H=H0++[some ⟨1,O7 a r (A7 (G k) o l) y⟩]∧H0.length=6) (by rw [show loopsOf (B4 Try.f52)=[] by kernel_rfl];exact D3 (mix G B) (by kernel_rfl) (Ak G B) .nil) (by kernel_rfl) (by kernel_rfl) (by kernel_rfl) (fuel:=300) (n0:=20) (keep:=8) (args:=[.agg (.of [.int .i64 (.var 11 a),.int .i64 (.var 12 r),.slice true (.ro (.var 13 k)) (.var 14 o) (.var 15 l),.int .i64 (.var 16 y)])]) (H:=[]) (by
  rw [t52,Di ha,Di hr,Di hy];have h1:=K6 a;have h2:=K6 r;have h3:=K6 (l:Int);have h4:=K6 y;have eq:∀ x:Int,A3 (A1 [.int .u64 x])=fN x:=fun x=>rfl;have el:∀ x:Int,(A1 [.int .u64 x]).length=(fN x).length:=fun x=>(I5 _).symm;simp only [eq,el];have e5:((fN a++fN r)++(fN (l:Int)++A7 (G k) o l))++fN y=O7 a r (A7 (G k) o l) y:=by unfold O7;rw [hd]
  rw [e5];refine ⟨Z9 ha,Z9 hr,A6.2 (by omega),A6.2 ho,hu,hud,Z9 hy,Nat.beq_refl _,Nat.beq_refl _,?_,Nat.beq_refl _,J9 _,J9 _,?_,J9 _,A6.2 (by omega),rfl,[_,_,_,_,_,_],rfl,rfl⟩
  ·rw [List.length_append,hd];exact Nat.beq_refl _
  ·rw [C3,J9,hud];rfl)
 refine key.monoK fun v H ⟨h1,H0,h2,h3⟩=>⟨h1,?_⟩;have h4:(H.take 8)[6]?=some (some ⟨1,O7 a r (A7 (G k) o l) y⟩):=by rw [h2,List.getElem?_append_right (by omega),h3];rfl
 rwa [List.getElem?_take,if_pos (by omega)] at h4
theorem pl_lay (G:Nat→List AV) (B:Nat) (a:Int) (h:Bool) (ha:S2 a=true):ACalls (⟨Try.prog,G,B⟩:A2) 54 [.agg [.int .i64 a,.bool h]] [] fun v H=>v=.slice false (.rw 0) 0 (V7 a h).length∧H=[some ⟨1,V7 a h⟩]:=by
 refine mC (q:=4) Ih ?_
 have key:=C7 (C:=(⟨Try.prog,G,B⟩:A2)) (f:=54) (fn:=Try.f54) (K:=Dc Try.prog [] progP [] 0) (R:=fun v H=>v=.slice false (.rw 4) 0 (V7 a h).length∧∃ H0,H=H0++[some ⟨1,V7 a h⟩]∧H0.length=4) (by rw [show loopsOf (B4 Try.f54)=[] by kernel_rfl];exact D3 (mix G B) (by kernel_rfl) (Ak G B) .nil) (by kernel_rfl) (by kernel_rfl) (by kernel_rfl) (fuel:=300) (n0:=20) (keep:=6) (args:=[.agg (.of [.int .i64 (.var 11 a),.bool (.var 12 h)])]) (H:=[]) (by
  rw [t54,Di ha];have h1:=K6 a;have eq:∀ x:Int,A3 (A1 [.int .u64 x])=fN x:=fun x=>rfl;have el:∀ x:Int,(A1 [.int .u64 x]).length=(fN x).length:=fun x=>(I5 _).symm;simp only [eq,el]
  exact ⟨Z9 ha,Nat.beq_refl _,rfl,J9 _,rfl,A6.2 (by omega),rfl,[_,_,_,_],rfl,rfl⟩)
 refine key.monoK fun v H ⟨h1,H0,h2,h3⟩=>⟨h1,?_⟩;have h4:(H.take 6)[4]?=some (some ⟨1,V7 a h⟩):=by rw [h2,List.getElem?_append_right (by omega),h3];rfl
 rwa [List.getElem?_take,if_pos (by omega)] at h4
def cM (G:Nat→List AV):List AV→Bool:=fun xs=>match xs with
 | [.int _ a,.int _ r,.slice _ (.ro k) o l,.int _ y]=>S2 a&&(S2 r&&(S2 y&&(leB l 1099511627000&&(leB (o+l) (G k).length&&u8s (G k)))))
 | _=>false
def R8 (G:Nat→List AV):List AV→List AV:=fun xs=>match xs with
 | [.int _ a,.int _ r,.slice _ (.ro k) o l,.int _ y]=>O7 a r (A7 (G k) o l) y
 | _=>[]
def kV:List AV→Bool:=fun xs=>match xs with
 | [.int _ a,.bool _]=>S2 a
 | _=>false
def Cj:List AV→List AV:=fun xs=>match xs with
 | [.int _ a,.bool h]=>V7 a h
 | _=>[]
def lF (G:Nat→List AV):DSum:=fun xs H=>match xs with
 | [.agg (.of [.int .i64 a,.int .i64 r,.slice m (.ro k) o l,.int .i64 y])]=>some (.chk (.uf 2501 (cM G) [.int .i64 a,.int .i64 r,.slice m (.ro k) o l,.int .i64 y]) (.one (.slice false (.rw H.length) (.lit 0) (.len (.uf 2502 (R8 G) [.int .i64 a,.int .i64 r,.slice m (.ro k) o l,.int .i64 y]))) [.new ⟨1,.uf 2502 (R8 G) [.int .i64 a,.int .i64 r,.slice m (.ro k) o l,.int .i64 y]⟩]))
 | _=>none
theorem tB (G:Nat→List AV) (B:Nat):C5 (⟨Try.prog,G,B⟩:A2) 52 (lF G):=by
 intro xs H o ho;unfold lF at ho;split at ho
 ·rename_i a r m k off l y;simp only [Option.some.injEq] at ho;subst ho;intro hb;simp only [vB,vVs,vV,vR,cM,Bool.and_eq_true] at hb;obtain ⟨h1,h2,h3,h4,h5,h6⟩:=hb;have key:=xE G B (vI G a) (vI G r) (vI G y) (vN G k) (vN G off) (vN G l) h1 h2 h3 (A6.1 h4) (A6.1 h5) h6
  have u:u8s (A7 (G (vN G k)) (vN G off) (vN G l))=true:=by
   unfold u8s at h6 ⊢;rw [List.all_eq_true] at h6 ⊢;intro v hv;exact h6 v (List.mem_of_mem_drop (List.mem_of_mem_take hv))
  have key2:ACalls (⟨Try.prog,G,B⟩:A2) 52 [.agg [.int .i64 (vI G a),.int .i64 (vI G r),.slice m (.ro (vN G k)) (vN G off) (vN G l),.int .i64 (vI G y)]] [] fun v H=>v=.slice false (.rw 0) 0 (O7 (vI G a) (vI G r) (A7 (G (vN G k)) (vN G off) (vN G l)) (vI G y)).length∧H=[some ⟨1,O7 (vI G a) (vI G r) (A7 (G (vN G k)) (vN G off) (vN G l)) (vI G y)⟩]:=key.weaken fun ρ vs hv=>by
   simp only [VRs,VR] at hv ⊢;obtain ⟨v,vs',r1,⟨us,r2,⟨x1,q1,r3,r4,x2,q2,r5,r6,x3,q3,r7,r8,r9⟩⟩,r10⟩:=hv;exact ⟨v,vs',r1,⟨us,r2,⟨x1,q1,r3,r4,x2,q2,r5,r6,x3,q3,r7,(by have:VR ρ (.slice true (.ro (vN G k)) (vN G off) (vN G l)) x3:=N3 (mb:=m) (by simpa only [VR] using r8);simpa only [VR] using this),r9⟩⟩,r10⟩
  refine E0.new0 (C:=(⟨Try.prog,G,B⟩:A2)) (args0:=[.agg [.int .i64 (vI G a),.int .i64 (vI G r),.slice m (.ro (vN G k)) (vN G off) (vN G l),.int .i64 (vI G y)]]) (v0:=.slice false (.rw 0) 0 (O7 (vI G a) (vI G r) (A7 (G (vN G k)) (vN G off) (vN G l)) (vI G y)).length) ?_ ?_ (by simp [A4,A8]) (by simp only [vVs,vV,vR,vL]) (by simp [A8]) ?_
  ·simp only [C8,vL,vVs,vV,vR,R8];exact key2
  ·simp only [vL,vVs,vV,vR,R8];exact B7 (Id u)
  ·simp [vV,vR,vN,vL,vVs,C1,R8]
 ·simp at ho
def layPS:DSum:=fun xs H=>match xs with
 | [.agg (.of [.int .i64 a,.bool h])]=>some (.chk (.uf 2503 kV [.int .i64 a,.bool h]) (.one (.slice false (.rw H.length) (.lit 0) (.len (.uf 2504 Cj [.int .i64 a,.bool h]))) [.new ⟨1,.uf 2504 Cj [.int .i64 a,.bool h]⟩]))
 | _=>none
theorem tC (G:Nat→List AV) (B:Nat):C5 (⟨Try.prog,G,B⟩:A2) 54 layPS:=by
 intro xs H o ho;unfold layPS at ho;split at ho
 ·rename_i a h;simp only [Option.some.injEq] at ho;subst ho;intro hb;simp only [vB,vVs,vV,kV] at hb;refine E0.new0 (C:=(⟨Try.prog,G,B⟩:A2)) (args0:=[.agg [.int .i64 (vI G a),.bool (vB G h)]]) (v0:=.slice false (.rw 0) 0 (V7 (vI G a) (vB G h)).length) ?_ ?_ (by simp [A4,A8]) (by simp only [vVs,vV,vL]) (by simp [A8]) ?_
  ·simp only [C8,vL,vVs,vV,Cj];exact pl_lay G B _ _ hb
  ·simp only [vL,vVs,vV,Cj];exact B7 Ih
  ·simp [vV,vR,vN,vL,vVs,C1,Cj]
 ·simp at ho
def Ha (G:Nat→List AV):List (Nat×DSum):=(52,lF G)::(54,layPS)::progP
theorem Mr (G:Nat→List AV) (B:Nat):P6 (⟨Try.prog,G,B⟩:A2) (Ha G):=.cons (tB G B) (.cons (tC G B) (Ak G B))
theorem pt_b (G:Nat→List AV) (ks n k:Nat) (cs:List AV) (Q:Ex→List AV→Hp→Prop) (R:AV→Hp→Prop):vT G Q R (E8 (Dc Try.prog [] (Ha G) [] 0) 300 20 0 (A5 Try.f51 0) 28 [1,6,15,16,17] [.func 52 [],.slice false (.rw 0) (.lit 0) (.len (.var 21 cs)),.slice true (.ro (.var 24 ks)) (.lit 0) (.var 3 n),.int .i64 (.ofN (.var 3 n)),.int .i64 (.ofN (.var 8 k))] [some ⟨1,.var 21 cs⟩])=(
  (decide ((((k:Nat):Int):Int)<((n:Nat):Int))=true→decide ((0:Int)≤((k:Nat):Int))=true∧decide ((((k:Nat):Int):Int)<((n:Nat):Int))=true∧E2 (G (ks)) ((k)*4) [.int .i64,.int .i64,.sl,.int .i64]=true∧(cM G) [.int .i64 (A0 (G (ks)) ((k)*4)),.int .i64 (A0 (G (ks)) ((k)*4+1)),.slice true (.ro (C9 (G (ks)) ((k)*4+2))) (E5 (G (ks)) ((k)*4+2)) (B9 (G (ks)) ((k)*4+2)),.int .i64 (A0 (G (ks)) ((k)*4+3))]=true∧leB (List.length ((R8 G) [.int .i64 (A0 (G (ks)) ((k)*4)),.int .i64 (A0 (G (ks)) ((k)*4+1)),.slice true (.ro (C9 (G (ks)) ((k)*4+2))) (E5 (G (ks)) ((k)*4+2)) (B9 (G (ks)) ((k)*4+2)),.int .i64 (A0 (G (ks)) ((k)*4+3))])) (List.length ((R8 G) [.int .i64 (A0 (G (ks)) ((k)*4)),.int .i64 (A0 (G (ks)) ((k)*4+1)),.slice true (.ro (C9 (G (ks)) ((k)*4+2))) (E5 (G (ks)) ((k)*4+2)) (B9 (G (ks)) ((k)*4+2)),.int .i64 (A0 (G (ks)) ((k)*4+3))]))=true∧cellsB (A7 ((R8 G) [.int .i64 (A0 (G (ks)) ((k)*4)),.int .i64 (A0 (G (ks)) ((k)*4+1)),.slice true (.ro (C9 (G (ks)) ((k)*4+2))) (E5 (G (ks)) ((k)*4+2)) (B9 (G (ks)) ((k)*4+2)),.int .i64 (A0 (G (ks)) ((k)*4+3))]) (0) (List.length ((R8 G) [.int .i64 (A0 (G (ks)) ((k)*4)),.int .i64 (A0 (G (ks)) ((k)*4+1)),.slice true (.ro (C9 (G (ks)) ((k)*4+2))) (E5 (G (ks)) ((k)*4+2)) (B9 (G (ks)) ((k)*4+2)),.int .i64 (A0 (G (ks)) ((k)*4+3))])))=true∧leB (List.length cs+List.length ((R8 G) [.int .i64 (A0 (G (ks)) ((k)*4)),.int .i64 (A0 (G (ks)) ((k)*4+1)),.slice true (.ro (C9 (G (ks)) ((k)*4+2))) (E5 (G (ks)) ((k)*4+2)) (B9 (G (ks)) ((k)*4+2)),.int .i64 (A0 (G (ks)) ((k)*4+3))])) (140737488355328)=true∧Nat.beq (List.length cs) (List.length cs)=true∧
 Q .normal [.func 52 [],.slice false (.rw 3) (0) (List.length cs+List.length ((R8 G) [.int .i64 (A0 (G (ks)) ((k)*4)),.int .i64 (A0 (G (ks)) ((k)*4+1)),.slice true (.ro (C9 (G (ks)) ((k)*4+2))) (E5 (G (ks)) ((k)*4+2)) (B9 (G (ks)) ((k)*4+2)),.int .i64 (A0 (G (ks)) ((k)*4+3))])),.slice true (.ro (ks)) (0) (n),.int .i64 (((n:Nat):Int)),.int .i64 (IntKind.wrap .i64 (((k:Nat):Int)+1))] [none,some ⟨1,([.int .i64 (A0 (G (ks)) ((k)*4)),.int .i64 (A0 (G (ks)) ((k)*4+1)),.slice true (.ro (C9 (G (ks)) ((k)*4+2))) (E5 (G (ks)) ((k)*4+2)) (B9 (G (ks)) ((k)*4+2)),.int .i64 (A0 (G (ks)) ((k)*4+3))]:List AV)⟩,some ⟨1,((R8 G) [.int .i64 (A0 (G (ks)) ((k)*4)),.int .i64 (A0 (G (ks)) ((k)*4+1)),.slice true (.ro (C9 (G (ks)) ((k)*4+2))) (E5 (G (ks)) ((k)*4+2)) (B9 (G (ks)) ((k)*4+2)),.int .i64 (A0 (G (ks)) ((k)*4+3))])⟩,some ⟨1,(cs++(A7 ((R8 G) [.int .i64 (A0 (G (ks)) ((k)*4)),.int .i64 (A0 (G (ks)) ((k)*4+1)),.slice true (.ro (C9 (G (ks)) ((k)*4+2))) (E5 (G (ks)) ((k)*4+2)) (B9 (G (ks)) ((k)*4+2)),.int .i64 (A0 (G (ks)) ((k)*4+3))]) (0) (List.length ((R8 G) [.int .i64 (A0 (G (ks)) ((k)*4)),.int .i64 (A0 (G (ks)) ((k)*4+1)),.slice true (.ro (C9 (G (ks)) ((k)*4+2))) (E5 (G (ks)) ((k)*4+2)) (B9 (G (ks)) ((k)*4+2)),.int .i64 (A0 (G (ks)) ((k)*4+3))]))))⟩])∧(decide ((((k:Nat):Int):Int)<((n:Nat):Int))=false→Q (.exit 0) [.func 52 [],.slice false (.rw 0) (0) (List.length cs),.slice true (.ro (ks)) (0) (n),.int .i64 (((n:Nat):Int)),.int .i64 (((k:Nat):Int))] [some ⟨1,cs⟩])):=by kernel_rfl
theorem pt_p (G:Nat→List AV) (kp m k:Nat) (cs:List AV) (Q:Ex→List AV→Hp→Prop) (R:AV→Hp→Prop):vT G Q R (E8 (Dc Try.prog [] (Ha G) [] 0) 300 20 0 (A5 Try.f53 0) 28 [1,6,15,16,17] [.func 54 [],.slice false (.rw 0) (.lit 0) (.len (.var 21 cs)),.slice true (.ro (.var 25 kp)) (.lit 0) (.var 4 m),.int .i64 (.ofN (.var 4 m)),.int .i64 (.ofN (.var 8 k))] [some ⟨1,.var 21 cs⟩])=(
  (decide ((((k:Nat):Int):Int)<((m:Nat):Int))=true→decide ((0:Int)≤((k:Nat):Int))=true∧decide ((((k:Nat):Int):Int)<((m:Nat):Int))=true∧E2 (G (kp)) ((k)*2) [.int .i64,.bool]=true∧kV [.int .i64 (A0 (G (kp)) ((k)*2)),.bool (E7 (G (kp)) ((k)*2+1))]=true∧leB (List.length (Cj [.int .i64 (A0 (G (kp)) ((k)*2)),.bool (E7 (G (kp)) ((k)*2+1))])) (List.length (Cj [.int .i64 (A0 (G (kp)) ((k)*2)),.bool (E7 (G (kp)) ((k)*2+1))]))=true∧cellsB (A7 (Cj [.int .i64 (A0 (G (kp)) ((k)*2)),.bool (E7 (G (kp)) ((k)*2+1))]) (0) (List.length (Cj [.int .i64 (A0 (G (kp)) ((k)*2)),.bool (E7 (G (kp)) ((k)*2+1))])))=true∧leB (List.length cs+List.length (Cj [.int .i64 (A0 (G (kp)) ((k)*2)),.bool (E7 (G (kp)) ((k)*2+1))])) (140737488355328)=true∧Nat.beq (List.length cs) (List.length cs)=true∧Q .normal [.func 54 [],.slice false (.rw 3) (0) (List.length cs+List.length (Cj [.int .i64 (A0 (G (kp)) ((k)*2)),.bool (E7 (G (kp)) ((k)*2+1))])),.slice true (.ro (kp)) (0) (m),.int .i64 (((m:Nat):Int)),.int .i64 (IntKind.wrap .i64 (((k:Nat):Int)+1))] [none,some ⟨1,([.int .i64 (A0 (G (kp)) ((k)*2)),.bool (E7 (G (kp)) ((k)*2+1))]:List AV)⟩,some ⟨1,(Cj [.int .i64 (A0 (G (kp)) ((k)*2)),.bool (E7 (G (kp)) ((k)*2+1))])⟩,some ⟨1,(cs++(A7 (Cj [.int .i64 (A0 (G (kp)) ((k)*2)),.bool (E7 (G (kp)) ((k)*2+1))]) (0) (List.length (Cj [.int .i64 (A0 (G (kp)) ((k)*2)),.bool (E7 (G (kp)) ((k)*2+1))]))))⟩])∧(decide ((((k:Nat):Int):Int)<((m:Nat):Int))=false→Q (.exit 0) [.func 54 [],.slice false (.rw 0) (0) (List.length cs),.slice true (.ro (kp)) (0) (m),.int .i64 (((m:Nat):Int)),.int .i64 (((k:Nat):Int))] [some ⟨1,cs⟩])):=by kernel_rfl
end Go.Am
namespace Go.Am
open Go.Proofs
set_option maxRecDepth 100000
def Cw (G:Nat→List AV) (cs:List AV) (k:Nat):List AV:=O7 (sA cs k) (sR cs k) (H9 G cs k) (sZ cs k)
def A9 (G:Nat→List AV) (cs:List AV):Nat→List AV
 | 0=>[]
 | k+1=>A9 G cs k++Cw G cs k
def X5 (ps:List AV) (j:Nat):List AV:=V7 (xP ps j) (hP ps j)
def B1 (ps:List AV):Nat→List AV
 | 0=>[]
 | j+1=>B1 ps j++X5 ps j
theorem Eo {G:Nat→List AV} {cs:List AV}:∀ {n:Nat},(∀ j,j<n→u8s (H9 G cs j)=true)→u8s (A9 G cs n)=true
 | 0,_=>rfl
 | n+1,h=>by rw [A9,C3,Eo (n:=n) fun j hj=>h j (by omega),Cw,Id (h n (by omega))];rfl
theorem Eu {ps:List AV}:∀ {n:Nat},u8s (B1 ps n)=true
 | 0=>rfl
 | n+1=>by rw [B1,C3,Eu (n:=n),X5,Ih];rfl
theorem Ib {G:Nat→List AV} {cs:List AV}:∀ {n:Nat},(∀ j,j<n→(H9 G cs j).length≤8192)→(A9 G cs n).length≤n*8232
 | 0,_=>by simp [A9]
 | n+1,h=>by
  have h1:=Ib (n:=n) fun j hj=>h j (by omega);have h2:=Zf (a:=sA cs n) (r:=sR cs n) (d:=H9 G cs n) (y:=sZ cs n);have h3:=h n (by omega);rw [A9,List.length_append,Cw];omega
theorem Jl {ps:List AV}:∀ {n:Nat},(B1 ps n).length≤n*11
 | 0=>by simp [B1]
 | n+1=>by
  have h1:=Jl (ps:=ps) (n:=n);have h2:=Zn (a:=xP ps n) (h:=hP ps n);rw [B1,List.length_append,X5];omega
structure Ef (G:Nat→List AV) (cs:List AV) (n:Nat):Prop where
 le8:n≤8
 ok:K1 cs n=true
 num:∀ j,j<n→S2 (sA cs j)=true∧S2 (sR cs j)=true∧S2 (sZ cs j)=true
 dat:∀ j,j<n→u8s (G (C9 cs (j*4+2)))=true∧E5 cs (j*4+2)+sN cs j≤(G (C9 cs (j*4+2))).length∧sN cs j≤8192
theorem Ef.u8 {G:Nat→List AV} {cs:List AV} {n:Nat} (h:Ef G cs n) {j:Nat} (hj:j<n):u8s (H9 G cs j)=true:=by
 have:=(h.dat j hj).1
 unfold H9 u8s A7 at *;rw [List.all_eq_true] at this ⊢;intro v hv;exact this v (List.mem_of_mem_drop (List.mem_of_mem_take hv))
theorem Ef.len {G:Nat→List AV} {cs:List AV} {n:Nat} (h:Ef G cs n) {j:Nat} (hj:j<n):(H9 G cs j).length=sN cs j:=by
 obtain ⟨_,h2,_⟩:=h.dat j hj;have e:B9 cs (j*4+2)=sN cs j:=rfl;simp only [H9,A7,List.length_take,List.length_drop,e];omega
structure Ub (ps:List AV) (m:Nat):Prop where
 le:m≤512
 ok:V6 ps m=true
 num:∀ j,j<m→S2 (xP ps j)=true
theorem Lc {G:Nat→List AV} {s:Int} {ks kp n m:Nat} (hb:Eh G ks kp n m) (hw:W0 G ks kp n m) (hy:I7 s (G ks) n (G kp) m=true):Ef G (G ks) n where
 le8:=(Ri hy).1.1
 ok:=hb.sec
 num j hj:=by
  obtain ⟨h1,h2,h3,h4⟩:=My hy j hj;have sb:=N7.1 h4;refine ⟨K4.2 (by omega),K4.2 (by omega),K4.2 (by omega)⟩
 dat j hj:=by
  obtain ⟨h1,h2,h3,h4⟩:=dat_at hb hw hj;have h5:=(My hy j hj).2.2.1;rw [h1];exact ⟨fS,by rw [h4,Ym,h2];omega,h5⟩
theorem xU (G:Nat→List AV) (B:Nat) (ks n:Nat) (A:List AV) (hA:u8s A=true) (hl:A.length≤1000) (h:Ef G (G ks) n):AWp (⟨Try.prog,G,B⟩:A2) 0 (.loop (A5 Try.f51 0)) (fl 28 [1,6,15,16,17] [.func 52 [],.slice false (.rw 0) 0 A.length,.slice true (.ro ks) 0 n,.int .i64 (n:Int),.int .i64 0]) [some ⟨1,A⟩] (lv 28 [1,6,15,16,17] fun e vs H=>e=.exit 0∧wk [.undef,.slice false (.rw 0) 0 (A++A9 G (G ks) n).length,.undef,.undef,.undef] vs∧H=[some ⟨1,A++A9 G (G ks) n⟩]):=by
 have e0:A=A++A9 G (G ks) 0:=by rw [A9,List.append_nil]
 have start:AWp (⟨Try.prog,G,B⟩:A2) 0 (.loop (A5 Try.f51 0)) (fl 28 [1,6,15,16,17] [.func 52 [],.slice false (.rw 0) 0 (A++A9 G (G ks) 0).length,.slice true (.ro ks) 0 n,.int .i64 (n:Int),.int .i64 ((0:Nat):Int)]) [some ⟨1,A++A9 G (G ks) 0⟩] (lv 28 [1,6,15,16,17] fun e vs H=>e=.exit 0∧wk [.undef,.slice false (.rw 0) 0 (A++A9 G (G ks) n).length,.undef,.undef,.undef] vs∧H=[some ⟨1,A++A9 G (G ks) n⟩]):=by
  refine Bl n (fun k=>[.func 52 [],.slice false (.rw 0) 0 (A++A9 G (G ks) k).length,.slice true (.ro ks) 0 n,.int .i64 (n:Int),.int .i64 (k:Int)]) (fun k=>[some ⟨1,A++A9 G (G ks) k⟩]) fun k hk=>?_
  refine D4 (C:=(⟨Try.prog,G,B⟩:A2)) (K:=Dc Try.prog [] (Ha G) [] 0) (by rw [show loopsOf (A5 Try.f51 0)=[] by kernel_rfl];exact D3 (mix G B) (by kernel_rfl) (Mr G B) .nil) (fuel:=300) (n0:=20) (m:=0) (c:=A5 Try.f51 0) (vs:=[.func 52 [],.slice false (.rw 0) (.lit 0) (.len (.var 21 (A++A9 G (G ks) k))),.slice true (.ro (.var 24 ks)) (.lit 0) (.var 3 n),.int .i64 (.ofN (.var 3 n)),.int .i64 (.ofN (.var 8 k))]) (H:=[some ⟨1,.var 21 (A++A9 G (G ks) k)⟩]) (Nat.zero_le _) ?_;rw [pt_b];have h8:=h.le8;refine ⟨fun hlt=>?_,fun hge=>?_⟩
  ·have hlt':=of_decide_eq_true hlt;have hkn:k<n:=by omega
   obtain ⟨n1,n2,n3⟩:=h.num k hkn;obtain ⟨d1,d2,d3⟩:=h.dat k hkn;have ew:R8 G [.int .i64 (A0 (G ks) (k*4)),.int .i64 (A0 (G ks) (k*4+1)),.slice true (.ro (C9 (G ks) (k*4+2))) (E5 (G ks) (k*4+2)) (B9 (G ks) (k*4+2)),.int .i64 (A0 (G ks) (k*4+3))]=Cw G (G ks) k:=rfl;rw [ew];have uw:u8s (Cw G (G ks) k)=true:=Id (h.u8 hkn)
   have lw:(Cw G (G ks) k).length≤8232:=by
    have h2:=Zf (a:=sA (G ks) k) (r:=sR (G ks) k) (d:=H9 G (G ks) k) (y:=sZ (G ks) k)
    have:=h.len hkn
    unfold Cw;omega
   have us:u8s (A9 G (G ks) k)=true:=Eo fun j hj=>h.u8 (by omega);have ls:(A9 G (G ks) k).length≤k*8232:=Ib fun j hj=>by rw [h.len (by omega)];exact (h.dat j (by omega)).2.2
   have sub:A7 (Cw G (G ks) k) 0 (Cw G (G ks) k).length=Cw G (G ks) k:=by simp [A7]
   rw [sub];have eA:(A++A9 G (G ks) k)++Cw G (G ks) k=A++A9 G (G ks) (k+1):=by rw [A9,List.append_assoc]
   have eL:(A++A9 G (G ks) k).length+(Cw G (G ks) k).length=(A++A9 G (G ks) (k+1)).length:=by rw [←eA];simp only [List.length_append]
   rw [eA,eL];refine ⟨decide_eq_true (by omega),hlt,M7 h.ok hkn,?_,A6.2 (Nat.le_refl _),G2 uw,A6.2 (by rw [←eL,List.length_append];omega),Nat.beq_refl _,hkn,.inr ?_⟩
   ·show (S2 (sA (G ks) k)&&(S2 (sR (G ks) k)&&(S2 (sZ (G ks) k)&&(leB (sN (G ks) k) 1099511627000&&(leB (E5 (G ks) (k*4+2)+sN (G ks) k) (G (C9 (G ks) (k*4+2))).length&&u8s (G (C9 (G ks) (k*4+2))))))))=true;rw [n1,n2,n3,d1,A6.2 d2,A6.2 (show sN (G ks) k≤1099511627000 by omega)];rfl
   ·rw [C4 (by omega)];have f:A4 0 (A++A9 G (G ks) (k+1))=true:=B7 (by rw [C3,hA,A9,C3,us,uw];rfl);exact C2.renM (H:=[some ⟨1,A++A9 G (G ks) (k+1)⟩]) (θ:=[3]) (Nat.zero_le _) (fun i hi=>absurd hi (Nat.not_lt_zero i)) (by decide) ⟨⟨I3 (Nat.zero_le _) _ f,by rw [B5 [3] _ f];rfl⟩,trivial⟩ rfl ⟨rfl,rfl,rfl,rfl,rfl,trivial⟩
  ·have hge':=of_decide_eq_false hge;obtain rfl:k=n:=by omega
   exact ⟨rfl,by simp [wk],rfl⟩
 rw [←e0] at start;exact start
theorem xV (G:Nat→List AV) (B:Nat) (kp m:Nat) (A:List AV) (hA:u8s A=true) (hl:A.length≤1000) (h:Ub (G kp) m):AWp (⟨Try.prog,G,B⟩:A2) 0 (.loop (A5 Try.f53 0)) (fl 28 [1,6,15,16,17] [.func 54 [],.slice false (.rw 0) 0 A.length,.slice true (.ro kp) 0 m,.int .i64 (m:Int),.int .i64 0]) [some ⟨1,A⟩] (lv 28 [1,6,15,16,17] fun e vs H=>e=.exit 0∧wk [.undef,.slice false (.rw 0) 0 (A++B1 (G kp) m).length,.undef,.undef,.undef] vs∧H=[some ⟨1,A++B1 (G kp) m⟩]):=by
 have e0:A=A++B1 (G kp) 0:=by rw [B1,List.append_nil]
 have start:AWp (⟨Try.prog,G,B⟩:A2) 0 (.loop (A5 Try.f53 0)) (fl 28 [1,6,15,16,17] [.func 54 [],.slice false (.rw 0) 0 (A++B1 (G kp) 0).length,.slice true (.ro kp) 0 m,.int .i64 (m:Int),.int .i64 ((0:Nat):Int)]) [some ⟨1,A++B1 (G kp) 0⟩] (lv 28 [1,6,15,16,17] fun e vs H=>e=.exit 0∧wk [.undef,.slice false (.rw 0) 0 (A++B1 (G kp) m).length,.undef,.undef,.undef] vs∧H=[some ⟨1,A++B1 (G kp) m⟩]):=by
  refine Bl m (fun k=>[.func 54 [],.slice false (.rw 0) 0 (A++B1 (G kp) k).length,.slice true (.ro kp) 0 m,.int .i64 (m:Int),.int .i64 (k:Int)]) (fun k=>[some ⟨1,A++B1 (G kp) k⟩]) fun k hk=>?_
  refine D4 (C:=(⟨Try.prog,G,B⟩:A2)) (K:=Dc Try.prog [] (Ha G) [] 0) (by rw [show loopsOf (A5 Try.f53 0)=[] by kernel_rfl];exact D3 (mix G B) (by kernel_rfl) (Mr G B) .nil) (fuel:=300) (n0:=20) (m:=0) (c:=A5 Try.f53 0) (vs:=[.func 54 [],.slice false (.rw 0) (.lit 0) (.len (.var 21 (A++B1 (G kp) k))),.slice true (.ro (.var 25 kp)) (.lit 0) (.var 4 m),.int .i64 (.ofN (.var 4 m)),.int .i64 (.ofN (.var 8 k))]) (H:=[some ⟨1,.var 21 (A++B1 (G kp) k)⟩]) (Nat.zero_le _) ?_;rw [pt_p];have h8:=h.le;refine ⟨fun hlt=>?_,fun hge=>?_⟩
  ·have hlt':=of_decide_eq_true hlt;have hkn:k<m:=by omega
   have ew:Cj [.int .i64 (A0 (G kp) (k*2)),.bool (E7 (G kp) (k*2+1))]=X5 (G kp) k:=rfl;rw [ew];have uw:u8s (X5 (G kp) k)=true:=Ih;have lw:(X5 (G kp) k).length≤11:=Zn;have us:u8s (B1 (G kp) k)=true:=Eu;have ls:(B1 (G kp) k).length≤k*11:=Jl;have sub:A7 (X5 (G kp) k) 0 (X5 (G kp) k).length=X5 (G kp) k:=by simp [A7]
   rw [sub];have eA:(A++B1 (G kp) k)++X5 (G kp) k=A++B1 (G kp) (k+1):=by rw [B1,List.append_assoc]
   have eL:(A++B1 (G kp) k).length+(X5 (G kp) k).length=(A++B1 (G kp) (k+1)).length:=by rw [←eA];simp only [List.length_append]
   rw [eA,eL];refine ⟨decide_eq_true (by omega),hlt,(N9 h.ok hkn).1,h.num k hkn,A6.2 (Nat.le_refl _),G2 uw,A6.2 (by rw [←eL,List.length_append];omega),Nat.beq_refl _,hkn,.inr ?_⟩;rw [C4 (by omega)];have f:A4 0 (A++B1 (G kp) (k+1))=true:=B7 (by rw [C3,hA,B1,C3,us,uw];rfl);exact C2.renM (H:=[some ⟨1,A++B1 (G kp) (k+1)⟩]) (θ:=[3]) (Nat.zero_le _) (fun i hi=>absurd hi (Nat.not_lt_zero i)) (by decide) ⟨⟨I3 (Nat.zero_le _) _ f,by rw [B5 [3] _ f];rfl⟩,trivial⟩ rfl ⟨rfl,rfl,rfl,rfl,rfl,trivial⟩
  ·have hge':=of_decide_eq_false hge;obtain rfl:k=m:=by omega
   exact ⟨rfl,by simp [wk],rfl⟩
 rw [←e0] at start;exact start
theorem t51 (G:Nat→List AV) (q1:List AV→Bool) (ks n:Nat) (w:List AV) (Q:Ex→List AV→Hp→Prop) (R:AV→Hp→Prop):vT G Q R (G6 (Dc Try.prog [] (Ha G) [F9 2505 (q1) 0 28 [1,6,15,16,17] (.one (.exit 0) [.undef,.slice false (.rw 0) (.lit 0) (.len (.var 22 w)),.undef,.undef,.undef] [some ⟨1,.var 22 w⟩])] 0) 300 20 Try.f51 [.slice true (.ro (.var 24 ks)) (.lit 0) (.var 3 n),.func 52 []] [] 1)=(
  inU64 [.int .u64 (IntKind.wrap .u64 (((n:Nat):Int)))]=true∧(q1) [.agg ([.func 52 [],.slice false (.rw 0) (0) (List.length (A1 [.int .u64 (IntKind.wrap .u64 (((n:Nat):Int)))])),.slice true (.ro (ks)) (0) (n),.int .i64 (((n:Nat):Int)),.int .i64 (0)]:List AV),.agg ([.tup [.int .i64 (1),.agg (A3 (A1 [.int .u64 (IntKind.wrap .u64 (((n:Nat):Int)))]))]]:List AV)]=true∧R (.tup [.slice false (.rw 0) (0) (List.length w),.int .i64 (0)]) [some ⟨1,w⟩]):=by kernel_rfl
theorem t53 (G:Nat→List AV) (q2:List AV→Bool) (kp m:Nat) (w:List AV) (Q:Ex→List AV→Hp→Prop) (R:AV→Hp→Prop):vT G Q R (G6 (Dc Try.prog [] (Ha G) [F9 2506 (q2) 0 28 [1,6,15,16,17] (.one (.exit 0) [.undef,.slice false (.rw 0) (.lit 0) (.len (.var 22 w)),.undef,.undef,.undef] [some ⟨1,.var 22 w⟩])] 0) 300 20 Try.f53 [.slice true (.ro (.var 25 kp)) (.lit 0) (.var 4 m),.func 54 []] [] 1)=(
  inU64 [.int .u64 (IntKind.wrap .u64 (((m:Nat):Int)))]=true∧(q2) [.agg ([.func 54 [],.slice false (.rw 0) (0) (List.length (A1 [.int .u64 (IntKind.wrap .u64 (((m:Nat):Int)))])),.slice true (.ro (kp)) (0) (m),.int .i64 (((m:Nat):Int)),.int .i64 (0)]:List AV),.agg ([.tup [.int .i64 (1),.agg (A3 (A1 [.int .u64 (IntKind.wrap .u64 (((m:Nat):Int)))]))]]:List AV)]=true∧R (.tup [.slice false (.rw 0) (0) (List.length w),.int .i64 (0)]) [some ⟨1,w⟩]):=by kernel_rfl
end Go.Am
namespace Go.Am
open Go.Proofs Crc
theorem nD (G:Nat→List AV) (B:Nat) (s i:Int) (Q:Ex→List AV→Hp→Prop):vc (Kl (⟨Try.prog,G,B⟩:A2) noSum noLoop) 100 0 (.code (A5 Try.f98 0)) (fl 17 [0,3] [.int .u32 s,.int .i64 i]) [] (lv 17 [0,3] Q)=(
  tst (decide (i<(8:Int))) ( tst (s.tmod (2:Int)==(1:Int)) ( Q .normal [.int IntKind.u32 (Dw IntKind.u32 (IntKind.u32.wrap (s.tdiv (2:Int))) (2197175160:Int)),.int IntKind.i64 (IntKind.i64.wrap (i+(1:Int)))] []) ( Q .normal [.int IntKind.u32 (IntKind.u32.wrap (s.tdiv (2:Int))),.int IntKind.i64 (IntKind.i64.wrap (i+(1:Int)))] [])) ( Q (.exit 0) [.int IntKind.u32 (s),.int IntKind.i64 (i)] [])):=by kernel_rfl
def Um (vs:List AV) (H:Hp):Option (Bool×Ex×List AV×Hp):=match vs,H with
 | [.int .u32 s,.int .i64 i],[]=>some (decide (0≤s)&&decide (s<4294967296)&&(i==0),.exit 0,[.int .u32 (u (V0 8 (M4 s))),.undef],[])
 | _,_=>none
theorem nB (G:Nat→List AV) (B:Nat) (x:Wd):AWp (⟨Try.prog,G,B⟩:A2) 0 (.loop (A5 Try.f98 0)) (fl 17 [0,3] [.int .u32 (u x),.int .i64 0]) [] (lv 17 [0,3] fun e vs H=>e=.exit 0∧(∃ v,vs=[.int .u32 (u (V0 8 x)),v])∧H=[]):=by
 refine U8 (fun k vs H=>∃ i:Nat,k=8 - i∧i≤8∧vs=[.int .u32 (u (V0 i x)),.int .i64 i]∧H=[]) 8 ⟨0,rfl,by omega,rfl,rfl⟩ ?_;rintro k vs H ⟨i,rfl,hi,rfl,rfl⟩;refine wp0 (mix G B) (Ey _) (Jn _ _) 100 ?_;rw [nD,zL,zM,Ui];refine mV (fun h=>?_) (fun h=>?_)
 ·simp only [decide_eq_true_eq] at h;have hi':i<8:=by omega
  rw [C4 (by omega)];refine mV (fun hb=>?_) (fun hb=>?_)
  ·refine ⟨8 - (i+1),by omega,.inl ⟨i+1,rfl,by omega,?_,rfl⟩⟩;rw [Pj,Z6,cI,zZ hb];rfl
  ·refine ⟨8 - (i+1),by omega,.inl ⟨i+1,rfl,by omega,?_,rfl⟩⟩;rw [cI,nG hb];rfl
 ·simp only [decide_eq_false_iff_not] at h;have hi':i=8:=by omega
  subst hi';exact ⟨rfl,⟨_,rfl⟩,rfl⟩
theorem nE (G:Nat→List AV) (B:Nat) (vs:List AV) (H:Hp) (e:Ex) (vs':List AV) (H':Hp) (h:Um vs H=some (true,e,vs',H')) :
  AWp (⟨Try.prog,G,B⟩:A2) 0 (.loop (A5 Try.f98 0)) (fl 17 [0,3] vs) H (lv 17 [0,3] fun e' vs'' H''=>e'=e∧wk vs' vs''∧H''=H'):=by
 unfold Um at h;split at h
 ·rename_i s i;simp only [Option.some.injEq,Prod.mk.injEq,Bool.and_eq_true,decide_eq_true_eq,beq_iff_eq] at h;obtain ⟨⟨⟨h1,h2⟩,rfl⟩,rfl,rfl,rfl⟩:=h
  have:=nB G B (M4 s)
  rw [Qq ⟨h1,h2⟩] at this;refine AWp.lmono this ?_;rintro e vs H ⟨rfl,⟨v,rfl⟩,rfl⟩;exact ⟨rfl,⟨rfl,trivial⟩,rfl⟩
 ·simp at h
def nF:Loops:=fun _ F H=>Ph 17 [0,3] Um F H
theorem qX (G:Nat→List AV) (B:Nat) (s:Int) (Q:AV→Hp→Prop):vc (Kl (⟨Try.prog,G,B⟩:A2) noSum nF) 100 0 (.code (B4 Try.f98)) (J1 Try.f98 [.int .u32 s]) [] (J6 (⟨Try.prog,G,B⟩:A2) Try.f98 Q)=(
  chk (decide ((0:Int)≤s)&&decide (s<(4294967296:Int))&&true) ( Q (.int IntKind.u32 (u (V0 (8:Nat) (M4 s)))) [])):=by kernel_rfl
theorem nC (G:Nat→List AV) (B:Nat) (x:Wd):ACalls (⟨Try.prog,G,B⟩:A2) 98 [.int .u32 (u x)] [] fun v _=>v=.int .u32 (u (V0 8 x)):=by
 refine call0 (sum:=noSum) (loop:=nF) (mix G B) (Ey _) (f:=98) (fn:=Try.f98) (c:=B4 Try.f98) (by kernel_rfl) (by kernel_rfl) (by kernel_rfl) (.one (c:=A5 Try.f98 0) (by kernel_rfl) ?_) 100 ?_
 ·intro F H e F' H' h;have h':Ph 17 [0,3] Um F H=some (true,e,F',H'):=h;exact Vm (nE G B) h'
 ·rw [qX,Fe];refine ⟨?_,?_⟩
  ·have:=Cv x
   simp [this]
  ·rw [Z6]
end Go.Am
