/-
  Images: a section, a place: which may be, how great they are. Images: in which section a place lies.
-/
import Derived.Test.YthejjolnlngahaaBase5
import Derived.Test.YthejjolnlngahaaProg
import Derived.Test.YthejjolnlngahaaBase6
namespace Go.Am
open Go.Proofs
open IntKind renaming wrap → wS
open Try renaming prog → zM
set_option maxRecDepth 100000
section
variable (G:Nat→List AV) (B:Nat)
theorem Bc :((⟨zM,G,B⟩:A1):A1).P.follows .mixedOrders=true:=by kernel_rfl
theorem M5 (n:Nat):((n:Int)).toNat=n:=Int.toNat_natCast n
def lF (n:Nat) (z:Int):Int:=IntKind.i64.wrap ((n:Int)+z)
def Hu (a r:Int) (n:Nat) (z:Int):Bool:=(decide (0≤z)&&(decide (z≤8192)&&decide (n≤8192)))&&((decide (0≤a)&&(decide (a≤8192)&&decide (a % 256=0)))&&((decide (1≤r)&&decide (r≤7))&&(decide (1≤(n:Int)+z)&&decide (a+(n+z)≤8192))))
def Oj (n:Nat) (z:Int):Int:=if 0≤z∧z≤8192∧n≤8192 then (n:Int)+z else -1
def Ar (h:Bool):Int:=if h then 2 else 4
def Sk:List AV→Int:=fun xs=>match xs with
 | [.int _ n,.int _ z]=>lF n.toNat z
 | _=>0
def Ti:List AV→Bool:=fun xs=>match xs with
 | [.int _ a,.int _ r,.int _ n,.int _ z]=>Hu a r n.toNat z
 | _=>false
def Oi:List AV→Int:=fun xs=>match xs with
 | [.int _ n,.int _ z]=>Oj n.toNat z
 | _=>0
def Sz:List AV→Int:=fun xs=>match xs with
 | [.bool h]=>Ar h
 | _=>0
def slN:EV→Option EN
 | .slice _ _ _ n=>some n
 | .nils=>some (.lit 0)
 | _=>none
theorem t44 (a r z:Int) (n:Nat) (Q:Ex→List AV→Hp→Prop) (R:AV→Hp→Prop):vT G Q R (H5 (Dc zM [] [] [] 0) 100 20 Try.f44 [.agg (.of [.int .i64 (.var 1 a),.int .i64 (.var 2 r),.slice true (.ro (.lit 0)) (.lit 0) (.var 3 n),.int .i64 (.var 4 z)])] [] 0)=(
  R (.int .i64 (wS .i64 ((n:Int)+z))) []):=by kernel_rfl
theorem t35 (x:Int) (h:Bool) (Q:Ex→List AV→Hp→Prop) (R:AV→Hp→Prop):vT G Q R (H5 (Dc zM [] [] [] 0) 100 20 Try.f35 [.agg (.of [.int .i64 (.var 1 x),.bool (.var 2 h)])] [] 0)=(
  (h=true→R (.int .i64 2) [])∧(h=false→R (.int .i64 4) [])):=by kernel_rfl
theorem t38 (x:Int) (h:Bool) (Q:Ex→List AV→Hp→Prop) (R:AV→Hp→Prop):vT G Q R (H5 (Dc zM [] [] [] 0) 100 20 Try.f38 [.agg (.of [.int .i64 (.var 1 x),.bool (.var 2 h)])] [] 0)=(
  (h=true→R (.int .i64 2) [])∧(h=false→R (.int .i64 4) [])):=by kernel_rfl
theorem t47 (a r z:Int) (n:Nat) (Q:Ex→List AV→Hp→Prop) (R:AV→Hp→Prop):vT G Q R (H5 (Dc zM [] [] [] 0) 100 20 Try.f47 [.agg (.of [.int .i64 (.var 1 a),.int .i64 (.var 2 r),.slice true (.ro (.lit 0)) (.lit 0) (.var 3 n),.int .i64 (.var 4 z)])] [] 0)=(
  (decide ((z:Int)<0)=true→R (.int .i64 ((-1))) [])∧(decide ((z:Int)<0)=false→(decide ((z:Int)>8192)=true→R (.int .i64 ((-1))) [])∧(decide ((z:Int)>8192)=false→(decide (((n:Int):Int)>8192)=true→R (.int .i64 ((-1))) [])∧(decide (((n:Int):Int)>8192)=false→R (.int .i64 (wS .i64 ((n:Int)+z))) [])))):=by kernel_rfl
section
variable {C:A1}
theorem E1.sec {f:FuncId} {a r z:EI} {sl:EV} {n:EN} {H:DHp} {v:EV} (hs:slN sl=some n) (h:∀ B,ACalls ⟨C.P,fun _=>[],B⟩ f [.agg [.int .i64 (vI C.G a),.int .i64 (vI C.G r),.slice true (.ro 0) 0 (vN C.G n),.int .i64 (vI C.G z)]] [] fun v' _=>v'=vV C.G v) (hv:B0 0 (vV C.G v)=true∧M1 (vV C.G v)=true):E1 C f [.agg (.of [.int .i64 a,.int .i64 r,sl,.int .i64 z])] H v []:=by
 obtain ⟨rr,oo,hw⟩:∃ (rr:Ref) (oo:Nat),∀ (ρ:Env) cv,VR ρ (vV C.G sl) cv→VR ρ (.slice true rr oo (vN C.G n)) cv:=by
  unfold slN at hs;split at hs
  ·simp only [zN] at hs;subst hs;rename_i mb r' o' n';exact ⟨vR C.G r',vN C.G o',fun ρ cv hv=>by simp only [vV] at hv;exact Dj hv⟩
  ·simp only [zN] at hs;subst hs;exact ⟨.ro 0,0,fun ρ cv hv=>Is _ _ (by simpa only [vV] using hv)⟩
  ·simp at hs
 refine E1.rdN (σ:=fun _=>(rr,oo)) (G':=fun _=>[]) (args0:=[.agg [.int .i64 (vI C.G a),.int .i64 (vI C.G r),.slice true (.ro 0) 0 (vN C.G n),.int .i64 (vI C.G z)]]) (fun k=>.inl rfl) rfl (fun ρ vs hvs=>?_) (fun B=>h B) hv;simp only [vVs,vV,vL,sbs,sb,VRs,VR] at hvs ⊢;obtain ⟨v,vs',e,⟨ws,e2,w1,t1,e3,q1,w2,t2,e4,q2,w3,t3,e5,q3,w4,t4,e6,q4,q5⟩,q6⟩:=hvs;exact ⟨v,vs',e,⟨ws,e2,w1,t1,e3,q1,w2,t2,e4,q2,w3,t3,e5,by have:=hw ρ w3 q3;simpa only [VR,Nat.add_zero] using this,w4,t4,e6,q4,q5⟩,q6⟩
theorem E1.plc {f:FuncId} {x:EI} {b:EB} {H:DHp} {v:EV} (h:∀ B,ACalls ⟨C.P,fun _=>[],B⟩ f [.agg [.int .i64 (vI C.G x),.bool (vB C.G b)]] [] fun v' _=>v'=vV C.G v) (hv:B0 0 (vV C.G v)=true∧M1 (vV C.G v)=true):E1 C f [.agg (.of [.int .i64 x,.bool b])] H v []:=
 E1.rdN (σ:=fun _=>(.ro 0,0)) (G':=fun _=>[]) (args0:=[.agg [.int .i64 (vI C.G x),.bool (vB C.G b)]]) (fun k=>.inl rfl) rfl (fun ρ vs hvs=>hvs) (fun B=>h B) hv
end
theorem dgI (M:Nat):DGood (⟨zM,G,B⟩:A1) (Dc zM [] [] [] M) []:=C7 (Bc G B) (by kernel_rfl) .nil .nil
theorem aW4 (a r z:Int) (n:Nat):ACalls (⟨zM,G,B⟩:A1) 44 [.agg [.int .i64 a,.int .i64 r,.slice true (.ro 0) 0 n,.int .i64 z]] [] fun v _=>v=.int .i64 (lF n z):=by
 have:=C8 (C:=(⟨zM,G,B⟩:A1)) (fuel:=100) (n0:=20) (f:=44) (fn:=Try.f44) (args:=[.agg (.of [.int .i64 (.var 1 a),.int .i64 (.var 2 r),.slice true (.ro (.lit 0)) (.lit 0) (.var 3 n),.int .i64 (.var 4 z)])]) (H:=[]) (keep:=0)
  (R:=fun v _=>v=.int .i64 (lF n z)) (by rw [show loopsOf (C3 Try.f44)=[] by kernel_rfl];exact dgI G B 0) (by kernel_rfl) (by kernel_rfl) (by kernel_rfl) (by
  rw [t44 G a r z n];rfl)
 exact this.monoK fun v H' h=>h
theorem aV5 (x:Int) (h:Bool):ACalls (⟨zM,G,B⟩:A1) 35 [.agg [.int .i64 x,.bool h]] [] fun v _=>v=.int .i64 (Ar h):=by
 have:=C8 (C:=(⟨zM,G,B⟩:A1)) (fuel:=100) (n0:=20) (f:=35) (fn:=Try.f35) (args:=[.agg (.of [.int .i64 (.var 1 x),.bool (.var 2 h)])]) (H:=[]) (keep:=0)
  (R:=fun v _=>v=.int .i64 (Ar h)) (by rw [show loopsOf (C3 Try.f35)=[] by kernel_rfl];exact dgI G B 0) (by kernel_rfl) (by kernel_rfl) (by kernel_rfl) (by
  rw [t35 G x h];cases h<;>simp [Ar])
 exact this.monoK fun v H' h=>h
theorem aE3 (x:Int) (h:Bool):ACalls (⟨zM,G,B⟩:A1) 38 [.agg [.int .i64 x,.bool h]] [] fun v _=>v=.int .i64 (Ar h):=by
 have:=C8 (C:=(⟨zM,G,B⟩:A1)) (fuel:=100) (n0:=20) (f:=38) (fn:=Try.f38) (args:=[.agg (.of [.int .i64 (.var 1 x),.bool (.var 2 h)])]) (H:=[]) (keep:=0)
  (R:=fun v _=>v=.int .i64 (Ar h)) (by rw [show loopsOf (C3 Try.f38)=[] by kernel_rfl];exact dgI G B 0) (by kernel_rfl) (by kernel_rfl) (by kernel_rfl) (by
  rw [t38 G x h];cases h<;>simp [Ar])
 exact this.monoK fun v H' h=>h
theorem aJ1 (a r z:Int) (n:Nat):ACalls (⟨zM,G,B⟩:A1) 47 [.agg [.int .i64 a,.int .i64 r,.slice true (.ro 0) 0 n,.int .i64 z]] [] fun v _=>v=.int .i64 (Oj n z):=by
 have:=C8 (C:=(⟨zM,G,B⟩:A1)) (fuel:=100) (n0:=20) (f:=47) (fn:=Try.f47) (args:=[.agg (.of [.int .i64 (.var 1 a),.int .i64 (.var 2 r),.slice true (.ro (.lit 0)) (.lit 0) (.var 3 n),.int .i64 (.var 4 z)])]) (H:=[]) (keep:=0)
  (R:=fun v _=>v=.int .i64 (Oj n z)) (by rw [show loopsOf (C3 Try.f47)=[] by kernel_rfl];exact dgI G B 0) (by kernel_rfl) (by kernel_rfl) (by kernel_rfl) (by
  rw [t47 G a r z n];unfold Oj;refine ⟨fun h1=>?_,fun h1=>⟨fun h2=>?_,fun h2=>⟨fun h3=>?_,fun h3=>?_⟩⟩⟩
  ·have:=zR h1;rw [if_neg (by omega)]
  ·have:=zR h2;rw [if_neg (by omega)]
  ·have:=zR h3;rw [if_neg (by omega)]
  ·have h1:=sJ h1;have h2:=sJ h2;have h3:=sJ h3
   rw [if_pos (by omega),B5 (by omega)])
 exact this.monoK fun v H' h=>h
def szS:DSum:=fun args _=>match args with
 | [.agg (.of [.int .i64 _,.int .i64 _,sl,.int .i64 z])]=>match slN sl with
  | some n=>some (.one (.int .i64 (.uf 1701 Sk [.int .i64 (.ofN n),.int .i64 z])) [])
  | none=>none
 | _=>none
theorem szS_ok :DSumOk (⟨zM,G,B⟩:A1) 44 szS:=by
 intro args H o ho;unfold szS at ho;split at ho
 ·rename_i a r sl z;split at ho
  ·rename_i n hs;simp only [zN] at ho;subst ho;refine E1.sec (C:=(⟨zM,G,B⟩:A1)) hs (fun B'=>?_) ⟨rfl,rfl⟩;refine (aW4 (fun _=>[]) B' _ _ _ _).monoK fun v _ e=>?_;rw [e];simp only [vV,vI,vVs,vN,Sk,M5]
  ·simp at ho
 ·simp at ho
def rszS:DSum:=fun args _=>match args with
 | [.agg (.of [.int .i64 _,.int .i64 _,sl,.int .i64 z])]=>match slN sl with
  | some n=>some (.one (.int .i64 (.uf 1703 Oi [.int .i64 (.ofN n),.int .i64 z])) [])
  | none=>none
 | _=>none
theorem aY4 :DSumOk (⟨zM,G,B⟩:A1) 47 rszS:=by
 intro args H o ho;unfold rszS at ho;split at ho
 ·rename_i a r sl z;split at ho
  ·rename_i n hs;simp only [zN] at ho;subst ho;refine E1.sec (C:=(⟨zM,G,B⟩:A1)) hs (fun B'=>?_) ⟨rfl,rfl⟩;refine (aJ1 (fun _=>[]) B' _ _ _ _).monoK fun v _ e=>?_;rw [e];simp only [vV,vI,vVs,vN,Oi,M5]
  ·simp at ho
 ·simp at ho
def wdS:DSum:=fun args _=>match args with
 | [.agg (.of [.int .i64 _,.bool b])]=>some (.one (.int .i64 (.uf 1704 Sz [.bool b])) [])
 | _=>none
theorem xB {f:Nat} (h:∀ (G:Nat→List AV) (B:Nat) (x:Int) (h:Bool),ACalls (⟨zM,G,B⟩:A1) f [.agg [.int .i64 x,.bool h]] [] fun v _=>v=.int .i64 (Ar h)):DSumOk (⟨zM,G,B⟩:A1) f wdS:=by
 intro args H o ho;unfold wdS at ho;split at ho
 ·simp only [zN] at ho;subst ho;exact E1.plc (C:=(⟨zM,G,B⟩:A1)) (fun B'=>h _ B' _ _) ⟨rfl,rfl⟩
 ·simp at ho
def progIa:List (Nat×DSum):=(44,szS)::(47,rszS)::(35,wdS)::(38,wdS)::[]
theorem Nn :P8 (⟨zM,G,B⟩:A1) progIa:=.cons (szS_ok G B) (.cons (aY4 G B) (.cons (xB G B fun G B x h=>aV5 G B x h) (.cons (xB G B fun G B x h=>aE3 G B x h) .nil)))
theorem t43 (a r z:Int) (n:Nat) (Q:Ex→List AV→Hp→Prop) (R:AV→Hp→Prop):vT G Q R (H5 (Dc zM [] progIa [] 0) 100 20 Try.f43 [.agg (.of [.int .i64 (.var 1 a),.int .i64 (.var 2 r),.slice true (.ro (.lit 0)) (.lit 0) (.var 3 n),.int .i64 (.var 4 z)])] [] 0)=(
  (decide ((z:Int)<0)=true→R (.bool false) [])∧(decide ((z:Int)<0)=false→(decide ((z:Int)>8192)=true→R (.bool false) [])∧(decide ((z:Int)>8192)=false→(decide (((n:Int):Int)>8192)=true→R (.bool false) [])∧(decide (((n:Int):Int)>8192)=false→(decide ((a:Int)<0)=true→R (.bool false) [])∧(decide ((a:Int)<0)=false→(decide ((a:Int)>8192)=true→R (.bool false) [])∧(decide ((a:Int)>8192)=false→(((Int.tmod a 256:Int)==0)=true→(decide ((r:Int)≥1)=true→(decide ((r:Int)≤7)=true→(decide ((Sk [.int .i64 ((n:Int)),.int .i64 z]:Int)≥1)=true→R (.bool (decide ((wS .i64 (a+Sk [.int .i64 ((n:Int)),.int .i64 z]):Int)≤8192))) [])∧(decide ((Sk [.int .i64 ((n:Int)),.int .i64 z]:Int)≥1)=false→R (.bool false) []))∧(decide ((r:Int)≤7)=false→R (.bool false) []))∧(decide ((r:Int)≥1)=false→R (.bool false) []))∧(((Int.tmod a 256:Int)==0)=false→R (.bool false) []))))))):=by kernel_rfl
theorem t45 (a r z:Int) (n:Nat) (Q:Ex→List AV→Hp→Prop) (R:AV→Hp→Prop):vT G Q R (H5 (Dc zM [] progIa [] 0) 100 20 Try.f45 [.agg (.of [.int .i64 (.var 1 a),.int .i64 (.var 2 r),.slice true (.ro (.lit 0)) (.lit 0) (.var 3 n),.int .i64 (.var 4 z)])] [] 0)=(
  (decide ((a:Int)≥0)=true→(decide ((a:Int)≤8192)=true→(((Int.tmod a 256:Int)==0)=true→(decide ((r:Int)≥1)=true→(decide ((r:Int)≤7)=true→(decide ((Oi [.int .i64 ((n:Int)),.int .i64 z]:Int)≥1)=true→R (.bool (decide ((Oi [.int .i64 ((n:Int)),.int .i64 z]:Int)≤wS .i64 (8192 - a)))) [])∧(decide ((Oi [.int .i64 ((n:Int)),.int .i64 z]:Int)≥1)=false→R (.bool false) []))∧(decide ((r:Int)≤7)=false→R (.bool false) []))∧(decide ((r:Int)≥1)=false→R (.bool false) []))∧(((Int.tmod a 256:Int)==0)=false→R (.bool false) []))∧(decide ((a:Int)≤8192)=false→R (.bool false) []))∧(decide ((a:Int)≥0)=false→R (.bool false) [])):=by kernel_rfl
theorem t46 (a r z:Int) (n:Nat) (Q:Ex→List AV→Hp→Prop) (R:AV→Hp→Prop):vT G Q R (H5 (Dc zM [] progIa [] 0) 100 20 Try.f46 [.agg (.of [.int .i64 (.var 1 a),.int .i64 (.var 2 r),.slice true (.ro (.lit 0)) (.lit 0) (.var 3 n),.int .i64 (.var 4 z)])] [] 0)=(
  R (.int .i64 (wS .i64 (wS .i64 (Int.tdiv (wS .i64 (wS .i64 (wS .i64 (a+Oi [.int .i64 ((n:Int)),.int .i64 z])+256) - 1)) 256)*256))) []):=by kernel_rfl
theorem Q6 {a r z:Int} {n:Nat}:Hu a r n z=true↔(0≤z∧z≤8192∧n≤8192)∧(0≤a∧a≤8192∧a % 256=0)∧(1≤r∧r≤7)∧1≤(n:Int)+z∧a+(n+z)≤8192:=by
 simp only [Hu,zO,qC]
theorem W6 {a r z:Int} {n:Nat} (h:¬((0≤z∧z≤8192∧n≤8192)∧(0≤a∧a≤8192∧a % 256=0)∧(1≤r∧r≤7)∧1≤(n:Int)+z∧a+(n+z)≤8192)):Hu a r n z=false:=by
 cases e:Hu a r n z with
 | false=>rfl
 | true=>exact absurd (Q6.1 e) h
theorem xJ {n:Nat} {z:Int}:Sk [.int .i64 (n:Int),.int .i64 z]=lF n z:=by simp only [Sk,M5]
theorem dE {n:Nat} {z:Int}:Oi [.int .i64 (n:Int),.int .i64 z]=Oj n z:=by simp only [Oi,M5]
theorem qH {a:Int} (h:0≤a):((Int.tmod a 256:Int)==0)=decide (a % 256=0):=by
 rw [Int.tmod_eq_emod_of_nonneg h,Bool.eq_iff_iff,beq_iff_eq,decide_eq_true_iff]
theorem aH1 (a r z:Int) (n:Nat):ACalls (⟨zM,G,B⟩:A1) 43 [.agg [.int .i64 a,.int .i64 r,.slice true (.ro 0) 0 n,.int .i64 z]] [] fun v _=>v=.bool (Hu a r n z):=by
 have:=C8 (C:=(⟨zM,G,B⟩:A1)) (fuel:=100) (n0:=20) (f:=43) (fn:=Try.f43) (args:=[.agg (.of [.int .i64 (.var 1 a),.int .i64 (.var 2 r),.slice true (.ro (.lit 0)) (.lit 0) (.var 3 n),.int .i64 (.var 4 z)])]) (H:=[]) (keep:=0)
  (R:=fun v _=>v=.bool (Hu a r n z)) (by rw [show loopsOf (C3 Try.f43)=[] by kernel_rfl];exact C7 (inl:=[]) (ls:=[]) (M:=0) (Bc G B) (by kernel_rfl) (Nn G B) .nil) (by kernel_rfl) (by kernel_rfl) (by kernel_rfl) (by
  rw [t43 G a r z n,xJ];refine ⟨fun h1=>?_,fun h1=>⟨fun h2=>?_,fun h2=>⟨fun h3=>?_,fun h3=>⟨fun h4=>?_,fun h4=>⟨fun h5=>?_,fun h5=>?_⟩⟩⟩⟩⟩
  ·have:=zR h1;rw [W6 (by omega)]
  ·have:=zR h2;rw [W6 (by omega)]
  ·have:=zR h3;rw [W6 (by omega)]
  ·have:=zR h4;rw [W6 (by omega)]
  ·have:=zR h5;rw [W6 (by omega)]
  ·have h1:=sJ h1;have h2:=sJ h2;have h3:=sJ h3;have h4:=sJ h4;have h5:=sJ h5;have e:lF n z=(n:Int)+z:=B5 (by omega);rw [e,B5 (by omega),qH (by omega)];refine ⟨fun h6=>⟨fun h7=>⟨fun h8=>⟨fun h9=>?_,fun h9=>?_⟩,fun h8=>?_⟩,fun h7=>?_⟩,fun h6=>?_⟩
   ·have h6:=zR h6;have h7:=zR h7;have h8:=zR h8;have h9:=zR h9;congr 1;rw [Bool.eq_iff_iff,decide_eq_true_iff,Q6];omega
   ·have:=sJ h9;rw [W6 (by omega)]
   ·have:=sJ h8;rw [W6 (by omega)]
   ·have:=sJ h7;rw [W6 (by omega)]
   ·have:=sJ h6;rw [W6 (by omega)])
 exact this.monoK fun v H' h=>h
theorem yL (a r z:Int) (n:Nat):ACalls (⟨zM,G,B⟩:A1) 45 [.agg [.int .i64 a,.int .i64 r,.slice true (.ro 0) 0 n,.int .i64 z]] [] fun v _=>v=.bool (Hu a r n z):=by
 have:=C8 (C:=(⟨zM,G,B⟩:A1)) (fuel:=100) (n0:=20) (f:=45) (fn:=Try.f45) (args:=[.agg (.of [.int .i64 (.var 1 a),.int .i64 (.var 2 r),.slice true (.ro (.lit 0)) (.lit 0) (.var 3 n),.int .i64 (.var 4 z)])]) (H:=[]) (keep:=0)
  (R:=fun v _=>v=.bool (Hu a r n z)) (by rw [show loopsOf (C3 Try.f45)=[] by kernel_rfl];exact C7 (inl:=[]) (ls:=[]) (M:=0) (Bc G B) (by kernel_rfl) (Nn G B) .nil) (by kernel_rfl) (by kernel_rfl) (by kernel_rfl) (by
  rw [t45 G a r z n,dE];have hr:Oj n z=if 0≤z∧z≤8192∧n≤8192 then (n:Int)+z else -1:=rfl
  refine ⟨fun h1=>⟨fun h2=>?_,fun h2=>?_⟩,fun h1=>?_⟩
  ·have h1:=zR h1;have h2:=zR h2;rw [qH (by omega),B5 (by omega)];refine ⟨fun h6=>⟨fun h7=>⟨fun h8=>⟨fun h9=>?_,fun h9=>?_⟩,fun h8=>?_⟩,fun h7=>?_⟩,fun h6=>?_⟩
   ·have h6:=zR h6;have h7:=zR h7;have h8:=zR h8;have h9:=zR h9;congr 1;rw [Bool.eq_iff_iff,decide_eq_true_iff,Q6];split at hr<;>omega
   ·have:=sJ h9
    rw [W6 (by split at hr<;>omega)]
   ·have:=sJ h8;rw [W6 (by omega)]
   ·have:=sJ h7;rw [W6 (by omega)]
   ·have:=sJ h6;rw [W6 (by omega)]
  ·have:=sJ h2;rw [W6 (by omega)]
  ·have:=sJ h1;rw [W6 (by omega)])
 exact this.monoK fun v H' h=>h
def upF (a:Int) (n:Nat) (z:Int):Int:=wS .i64 (wS .i64 (Int.tdiv (wS .i64 (wS .i64 (wS .i64 (a+Oj n z)+256) - 1)) 256)*256)
theorem up_val {a r z:Int} {n:Nat} (h:Hu a r n z=true):upF a n z=(a+n+z+255) / 256*256:=by
 have h:=Q6.1 h;have e:Oj n z=(n:Int)+z:=if_pos ⟨by omega,by omega,by omega⟩;unfold upF;rw [e,B5 (n:=a+(n+z)) (by omega),B5 (n:=a+(n+z)+256) (by omega),B5 (n:=a+(n+z)+256 - 1) (by omega),Int.tdiv_eq_ediv_of_nonneg (by omega),B5 (n:=(a+(n+z)+256 - 1) / 256) (by omega),B5 (by omega)];congr 2;omega
theorem aV7 (a r z:Int) (n:Nat):ACalls (⟨zM,G,B⟩:A1) 46 [.agg [.int .i64 a,.int .i64 r,.slice true (.ro 0) 0 n,.int .i64 z]] [] fun v _=>v=.int .i64 (upF a n z):=by
 have:=C8 (C:=(⟨zM,G,B⟩:A1)) (fuel:=100) (n0:=20) (f:=46) (fn:=Try.f46) (args:=[.agg (.of [.int .i64 (.var 1 a),.int .i64 (.var 2 r),.slice true (.ro (.lit 0)) (.lit 0) (.var 3 n),.int .i64 (.var 4 z)])]) (H:=[]) (keep:=0)
  (R:=fun v _=>v=.int .i64 (upF a n z)) (by rw [show loopsOf (C3 Try.f46)=[] by kernel_rfl];exact C7 (inl:=[]) (ls:=[]) (M:=0) (Bc G B) (by kernel_rfl) (Nn G B) .nil) (by kernel_rfl) (by kernel_rfl) (by kernel_rfl) (by
  rw [t46 G a r z n,dE];rfl)
 exact this.monoK fun v H' h=>h
def upU:List AV→Int:=fun xs=>match xs with
 | [.int _ a,.int _ n,.int _ z]=>upF a n.toNat z
 | _=>0
def secS:DSum:=fun args _=>match args with
 | [.agg (.of [.int .i64 a,.int .i64 r,sl,.int .i64 z])]=>match slN sl with
  | some n=>some (.one (.bool (.uf 1702 Ti [.int .i64 a,.int .i64 r,.int .i64 (.ofN n),.int .i64 z])) [])
  | none=>none
 | _=>none
theorem qU {f:Nat} (h:∀ (G:Nat→List AV) (B:Nat) (a r z:Int) (n:Nat),ACalls (⟨zM,G,B⟩:A1) f [.agg [.int .i64 a,.int .i64 r,.slice true (.ro 0) 0 n,.int .i64 z]] [] fun v _=>v=.bool (Hu a r n z)):DSumOk (⟨zM,G,B⟩:A1) f secS:=by
 intro args H o ho;unfold secS at ho;split at ho
 ·rename_i a r sl z;split at ho
  ·rename_i n hs;simp only [zN] at ho;subst ho;refine E1.sec (C:=(⟨zM,G,B⟩:A1)) hs (fun B'=>?_) ⟨rfl,rfl⟩;refine (h (fun _=>[]) B' _ _ _ _).monoK fun v _ e=>?_;rw [e];simp only [vV,vI,vB,vVs,vN,Ti,M5]
  ·simp at ho
 ·simp at ho
def upS:DSum:=fun args _=>match args with
 | [.agg (.of [.int .i64 a,.int .i64 _,sl,.int .i64 z])]=>match slN sl with
  | some n=>some (.one (.int .i64 (.uf 1705 upU [.int .i64 a,.int .i64 (.ofN n),.int .i64 z])) [])
  | none=>none
 | _=>none
theorem upS_ok :DSumOk (⟨zM,G,B⟩:A1) 46 upS:=by
 intro args H o ho;unfold upS at ho;split at ho
 ·rename_i a r sl z;split at ho
  ·rename_i n hs;simp only [zN] at ho;subst ho;refine E1.sec (C:=(⟨zM,G,B⟩:A1)) hs (fun B'=>?_) ⟨rfl,rfl⟩;refine (aV7 (fun _=>[]) B' _ _ _ _).monoK fun v _ e=>?_;rw [e];simp only [vV,vI,vVs,vN,upU,M5]
  ·simp at ho
 ·simp at ho
def progIb:List (Nat×DSum):=(43,secS)::(45,secS)::(46,upS)::progIa
theorem Jl :P8 (⟨zM,G,B⟩:A1) progIb:=.cons (qU G B fun G B a r z n=>aH1 G B a r z n) (.cons (qU G B fun G B a r z n=>yL G B a r z n) (.cons (upS_ok G B) (Nn G B)))
end
section
variable (G:Nat→List AV) (B:Nat)
theorem dt_b (ks n:Nat) (x:Int) (h:Bool) (i:Nat) (Q:Ex→List AV→Hp→Prop) (R:AV→Hp→Prop):vT G Q R (H4 (Dc Try.prog [] progIb [] 1) 300 20 1 (A5 Try.f34 0) 42 [0,3,4,8,9] [.slice true (.ro (.var 2 ks)) (.lit 0) (.var 3 n),.ptr (.rw 0) (.lit 0),.nilp,.int .i64 (.ofN (.var 3 n)),.int .i64 (.ofN (.var 8 i))] [some ⟨1,.of [.int .i64 (.var 6 x),.bool (.var 7 h)]⟩])=(
  (decide (((i:Int):Int)<(n:Int))=true→decide ((0:Int)≤(i:Int))=true∧decide (((i:Int):Int)<(n:Int))=true∧isI .i64 (G ks) (i*4)=true∧(decide ((x:Int)≥A2 (G ks) (i*4))=true→isI .i64 (G ks) (i*4)=true∧Ey (G ks) (i*4+2)=true∧(decide ((wS .i64 (x - A2 (G ks) (i*4)):Int)≤wS .i64 (((D1 (G ks) (i*4+2):Nat):Int) - Sz [.bool h]))=true→Q .ret [.slice true (.ro ks) 0 n,.ptr (.rw 0) 0,.ptr (.ro ks) (i*4),.int .i64 ((n:Int)),.int .i64 ((i:Int))] [some ⟨1,([.int .i64 x,.bool h]:List AV)⟩])∧(decide ((wS .i64 (x - A2 (G ks) (i*4)):Int)≤wS .i64 (((D1 (G ks) (i*4+2):Nat):Int) - Sz [.bool h]))=false→Q .normal [.slice true (.ro ks) 0 n,.ptr (.rw 0) 0,.nilp,.int .i64 ((n:Int)),.int .i64 (wS .i64 ((i:Int)+1))] [some ⟨1,([.int .i64 x,.bool h]:List AV)⟩]))∧(decide ((x:Int)≥A2 (G ks) (i*4))=false→Q .normal [.slice true (.ro ks) 0 n,.ptr (.rw 0) 0,.nilp,.int .i64 ((n:Int)),.int .i64 (wS .i64 ((i:Int)+1))] [some ⟨1,([.int .i64 x,.bool h]:List AV)⟩]))∧(decide (((i:Int):Int)<(n:Int))=false→Q (.exit 0) [.slice true (.ro ks) 0 n,.ptr (.rw 0) 0,.nilp,.int .i64 ((n:Int)),.int .i64 ((i:Int))] [some ⟨1,([.int .i64 x,.bool h]:List AV)⟩])):=by kernel_rfl
theorem in_b (ks n kp m:Nat) (s x:Int) (h:Bool) (i:Nat) (Q:Ex→List AV→Hp→Prop) (R:AV→Hp→Prop):vT G Q R (H4 (Dc Try.prog [] progIb [] 2) 300 20 2 (A5 Try.f37 0) 44 [2,3,4,5] [.ptr (.rw 0) (.lit 0),.ptr (.rw 1) (.lit 0),.int .i64 (.lit 0),.int .i64 (.ofN (.var 8 i))] [some ⟨1,.of [.int .i64 (.var 1 s),.slice true (.ro (.var 2 ks)) (.lit 0) (.var 3 n),.slice true (.ro (.var 4 kp)) (.lit 0) (.var 5 m)]⟩,some ⟨1,.of [.int .i64 (.var 6 x),.bool (.var 7 h)]⟩])=(
  (decide (((i:Int):Int)<(n:Int))=true→decide ((0:Int)≤(i:Int))=true∧decide (((i:Int):Int)<(n:Int))=true∧G6 (G ks) (i*4) [.int .i64,.int .i64,.sl,.int .i64]=true∧(decide ((x:Int)≥A2 (G ks) (i*4))=true→(decide ((x:Int)≤8192)=true→(decide ((wS .i64 (x+Sz [.bool h]):Int)≤wS .i64 (A2 (G ks) (i*4)+((D1 (G ks) (i*4+2):Nat):Int)))=true→Q .ret [.ptr (.rw 0) 0,.ptr (.rw 1) 0,.int .i64 ((i:Int)),.int .i64 ((i:Int))] [some ⟨1,([.int .i64 s,.slice true (.ro ks) 0 n,.slice true (.ro kp) 0 m]:List AV)⟩,some ⟨1,([.int .i64 x,.bool h]:List AV)⟩,some ⟨1,([.int .i64 (A2 (G ks) (i*4)),.int .i64 (A2 (G ks) (i*4+1)),.slice true (.ro (G0 (G ks) (i*4+2))) (H8 (G ks) (i*4+2)) (D1 (G ks) (i*4+2)),.int .i64 (A2 (G ks) (i*4+3))]:List AV)⟩])∧(decide ((wS .i64 (x+Sz [.bool h]):Int)≤wS .i64 (A2 (G ks) (i*4)+((D1 (G ks) (i*4+2):Nat):Int)))=false→Q .normal [.ptr (.rw 0) 0,.ptr (.rw 1) 0,.int .i64 0,.int .i64 (wS .i64 ((i:Int)+1))] [some ⟨1,([.int .i64 s,.slice true (.ro ks) 0 n,.slice true (.ro kp) 0 m]:List AV)⟩,some ⟨1,([.int .i64 x,.bool h]:List AV)⟩,some ⟨1,([.int .i64 (A2 (G ks) (i*4)),.int .i64 (A2 (G ks) (i*4+1)),.slice true (.ro (G0 (G ks) (i*4+2))) (H8 (G ks) (i*4+2)) (D1 (G ks) (i*4+2)),.int .i64 (A2 (G ks) (i*4+3))]:List AV)⟩]))∧(decide ((x:Int)≤8192)=false→
 Q .normal [.ptr (.rw 0) 0,.ptr (.rw 1) 0,.int .i64 0,.int .i64 (wS .i64 ((i:Int)+1))] [some ⟨1,([.int .i64 s,.slice true (.ro ks) 0 n,.slice true (.ro kp) 0 m]:List AV)⟩,some ⟨1,([.int .i64 x,.bool h]:List AV)⟩,some ⟨1,([.int .i64 (A2 (G ks) (i*4)),.int .i64 (A2 (G ks) (i*4+1)),.slice true (.ro (G0 (G ks) (i*4+2))) (H8 (G ks) (i*4+2)) (D1 (G ks) (i*4+2)),.int .i64 (A2 (G ks) (i*4+3))]:List AV)⟩]))∧(decide ((x:Int)≥A2 (G ks) (i*4))=false→Q .normal [.ptr (.rw 0) 0,.ptr (.rw 1) 0,.int .i64 0,.int .i64 (wS .i64 ((i:Int)+1))] [some ⟨1,([.int .i64 s,.slice true (.ro ks) 0 n,.slice true (.ro kp) 0 m]:List AV)⟩,some ⟨1,([.int .i64 x,.bool h]:List AV)⟩,some ⟨1,([.int .i64 (A2 (G ks) (i*4)),.int .i64 (A2 (G ks) (i*4+1)),.slice true (.ro (G0 (G ks) (i*4+2))) (H8 (G ks) (i*4+2)) (D1 (G ks) (i*4+2)),.int .i64 (A2 (G ks) (i*4+3))]:List AV)⟩]))∧(decide (((i:Int):Int)<(n:Int))=false→Q (.exit 0) [.ptr (.rw 0) 0,.ptr (.rw 1) 0,.int .i64 0,.int .i64 ((i:Int))] [some ⟨1,([.int .i64 s,.slice true (.ro ks) 0 n,.slice true (.ro kp) 0 m]:List AV)⟩,some ⟨1,([.int .i64 x,.bool h]:List AV)⟩])):=by kernel_rfl
def Mg (ks:Nat) (n:Nat) (kp:Nat) (m:Nat) (s:Int):List AV:=[.int .i64 s,.slice true (.ro ks) 0 n,.slice true (.ro kp) 0 m]
theorem ck_b (ks n kp m:Nat) (s y:Int) (w:Bool) (i:Nat) (Q:Ex→List AV→Hp→Prop) (R:AV→Hp→Prop):vT G Q R (H4 (Dc Try.prog [] progIb [] 1) 300 20 1 (A5 Try.f20 0) 98 [1,2,3,4,31,32,33] [.ptr (.rw 0) (.lit 0),.int .i64 (.lit 0),.bool (.var 9 w),.int .i64 (.var 10 y),.slice true (.ro (.var 2 ks)) (.lit 0) (.var 3 n),.int .i64 (.ofN (.var 3 n)),.int .i64 (.ofN (.var 8 i))] [some ⟨1,.of [.int .i64 (.var 1 s),.slice true (.ro (.var 2 ks)) (.lit 0) (.var 3 n),.slice true (.ro (.var 4 kp)) (.lit 0) (.var 5 m)]⟩])=(
  (decide (((i:Int):Int)<(n:Int))=true→decide ((0:Int)≤(i:Int))=true∧decide (((i:Int):Int)<(n:Int))=true∧G6 (G ks) (i*4) [.int .i64,.int .i64,.sl,.int .i64]=true∧(Ti [.int .i64 (A2 (G ks) (i*4)),.int .i64 (A2 (G ks) (i*4+1)),.int .i64 (((D1 (G ks) (i*4+2):Nat):Int)),.int .i64 (A2 (G ks) (i*4+3))]=true→(decide ((A2 (G ks) (i*4):Int)<y)=true→Q .ret [.ptr (.rw 0) 0,.int .i64 2,.bool w,.int .i64 y,.slice true (.ro ks) 0 n,.int .i64 ((n:Int)),.int .i64 ((i:Int))] [some ⟨1,(Mg ks n kp m s)⟩,some ⟨1,([.int .i64 (A2 (G ks) (i*4)),.int .i64 (A2 (G ks) (i*4+1)),.slice true (.ro (G0 (G ks) (i*4+2))) (H8 (G ks) (i*4+2)) (D1 (G ks) (i*4+2)),.int .i64 (A2 (G ks) (i*4+3))]:List AV)⟩])∧(decide ((A2 (G ks) (i*4):Int)<y)=false→(w=true→Q .normal [.ptr (.rw 0) 0,.int .i64 0,.bool true,.int .i64 (wS .i64 (A2 (G ks) (i*4)+Sk [.int .i64 (((D1 (G ks) (i*4+2):Nat):Int)),.int .i64 (A2 (G ks) (i*4+3))])),.slice true (.ro ks) 0 n,.int .i64 ((n:Int)),.int .i64 (wS .i64 ((i:Int)+1))] [some ⟨1,(Mg ks n kp m s)⟩,some ⟨1,([.int .i64 (A2 (G ks) (i*4)),.int .i64 (A2 (G ks) (i*4+1)),.slice true (.ro (G0 (G ks) (i*4+2))) (H8 (G ks) (i*4+2)) (D1 (G ks) (i*4+2)),.int .i64 (A2 (G ks) (i*4+3))]:List AV)⟩])∧(w=false→(((P1 .i64 (A2 (G ks) (i*4+1)) 4:Int)==0)=true→
 Q .normal [.ptr (.rw 0) 0,.int .i64 0,.bool false,.int .i64 (wS .i64 (A2 (G ks) (i*4)+Sk [.int .i64 (((D1 (G ks) (i*4+2):Nat):Int)),.int .i64 (A2 (G ks) (i*4+3))])),.slice true (.ro ks) 0 n,.int .i64 ((n:Int)),.int .i64 (wS .i64 ((i:Int)+1))] [some ⟨1,(Mg ks n kp m s)⟩,some ⟨1,([.int .i64 (A2 (G ks) (i*4)),.int .i64 (A2 (G ks) (i*4+1)),.slice true (.ro (G0 (G ks) (i*4+2))) (H8 (G ks) (i*4+2)) (D1 (G ks) (i*4+2)),.int .i64 (A2 (G ks) (i*4+3))]:List AV)⟩])∧(((P1 .i64 (A2 (G ks) (i*4+1)) 4:Int)==0)=false→(decide ((s:Int)≥A2 (G ks) (i*4))=true→Q .normal [.ptr (.rw 0) 0,.int .i64 0,.bool (decide ((s:Int)<wS .i64 (A2 (G ks) (i*4)+Sk [.int .i64 (((D1 (G ks) (i*4+2):Nat):Int)),.int .i64 (A2 (G ks) (i*4+3))]))),.int .i64 (wS .i64 (A2 (G ks) (i*4)+Sk [.int .i64 (((D1 (G ks) (i*4+2):Nat):Int)),.int .i64 (A2 (G ks) (i*4+3))])),.slice true (.ro ks) 0 n,.int .i64 ((n:Int)),.int .i64 (wS .i64 ((i:Int)+1))] [some ⟨1,(Mg ks n kp m s)⟩,some ⟨1,([.int .i64 (A2 (G ks) (i*4)),.int .i64 (A2 (G ks) (i*4+1)),.slice true (.ro (G0 (G ks) (i*4+2))) (H8 (G ks) (i*4+2)) (D1 (G ks) (i*4+2)),.int .i64 (A2 (G ks) (i*4+3))]:List AV)⟩])∧(decide ((s:Int)≥A2 (G ks) (i*4))=false→
 Q .normal [.ptr (.rw 0) 0,.int .i64 0,.bool false,.int .i64 (wS .i64 (A2 (G ks) (i*4)+Sk [.int .i64 (((D1 (G ks) (i*4+2):Nat):Int)),.int .i64 (A2 (G ks) (i*4+3))])),.slice true (.ro ks) 0 n,.int .i64 ((n:Int)),.int .i64 (wS .i64 ((i:Int)+1))] [some ⟨1,(Mg ks n kp m s)⟩,some ⟨1,([.int .i64 (A2 (G ks) (i*4)),.int .i64 (A2 (G ks) (i*4+1)),.slice true (.ro (G0 (G ks) (i*4+2))) (H8 (G ks) (i*4+2)) (D1 (G ks) (i*4+2)),.int .i64 (A2 (G ks) (i*4+3))]:List AV)⟩])))))∧(Ti [.int .i64 (A2 (G ks) (i*4)),.int .i64 (A2 (G ks) (i*4+1)),.int .i64 (((D1 (G ks) (i*4+2):Nat):Int)),.int .i64 (A2 (G ks) (i*4+3))]=false→Q .ret [.ptr (.rw 0) 0,.int .i64 2,.bool w,.int .i64 y,.slice true (.ro ks) 0 n,.int .i64 ((n:Int)),.int .i64 ((i:Int))] [some ⟨1,(Mg ks n kp m s)⟩,some ⟨1,([.int .i64 (A2 (G ks) (i*4)),.int .i64 (A2 (G ks) (i*4+1)),.slice true (.ro (G0 (G ks) (i*4+2))) (H8 (G ks) (i*4+2)) (D1 (G ks) (i*4+2)),.int .i64 (A2 (G ks) (i*4+3))]:List AV)⟩]))∧(decide (((i:Int):Int)<(n:Int))=false→Q (.exit 0) [.ptr (.rw 0) 0,.int .i64 0,.bool w,.int .i64 y,.slice true (.ro ks) 0 n,.int .i64 ((n:Int)),.int .i64 ((i:Int))] [some ⟨1,(Mg ks n kp m s)⟩])):=by kernel_rfl
def Cu (ks:Nat) (n:Nat) (kp:Nat) (m:Nat) (s:Int):List AV:=[.int .i64 s,.slice true (.ro ks) 0 n,.slice true (.ro kp) 0 m]
theorem ma_b (ks n kp m:Nat) (s:Int) (w:Bool) (i:Nat) (Q:Ex→List AV→Hp→Prop) (R:AV→Hp→Prop):vT G Q R (H4 (Dc Try.prog [] progIb [] 1) 300 20 1 (A5 Try.f21 0) 130 [1,2,3,4] [.ptr (.rw 0) (.lit 0),.bool (.lit false),.bool (.var 9 w),.int .i64 (.ofN (.var 8 i))] [some ⟨1,.of [.int .i64 (.var 1 s),.slice true (.ro (.var 2 ks)) (.lit 0) (.var 3 n),.slice true (.ro (.var 4 kp)) (.lit 0) (.var 5 m)]⟩])=(
  (decide (((i:Int):Int)<(n:Int))=true→decide ((0:Int)≤(i:Int))=true∧decide (((i:Int):Int)<(n:Int))=true∧G6 (G ks) (i*4) [.int .i64,.int .i64,.sl,.int .i64]=true∧(Ti [.int .i64 (A2 (G ks) (i*4)),.int .i64 (A2 (G ks) (i*4+1)),.int .i64 (((D1 (G ks) (i*4+2):Nat):Int)),.int .i64 (A2 (G ks) (i*4+3))]=true→(decide (((i:Int):Int)>0)=true→decide ((0:Int)≤wS .i64 ((i:Int) - 1))=true∧decide ((wS .i64 ((i:Int) - 1):Int)<(n:Int))=true∧G6 (G ks) ((Int.toNat (wS .i64 ((i:Int) - 1)))*4) [.int .i64,.int .i64,.sl,.int .i64]=true∧(decide ((A2 (G ks) (i*4):Int)<upU [.int .i64 (A2 (G ks) ((Int.toNat (wS .i64 ((i:Int) - 1)))*4)),.int .i64 (((D1 (G ks) ((Int.toNat (wS .i64 ((i:Int) - 1)))*4+2):Nat):Int)),.int .i64 (A2 (G ks) ((Int.toNat (wS .i64 ((i:Int) - 1)))*4+3))])=true→Q .ret [.ptr (.rw 0) 0,.bool false,.bool w,.int .i64 ((i:Int))] [some ⟨1,(Cu ks n kp m s)⟩,some ⟨1,([.int .i64 (A2 (G ks) (i*4)),.int .i64 (A2 (G ks) (i*4+1)),.slice true (.ro (G0 (G ks) (i*4+2))) (H8 (G ks) (i*4+2)) (D1 (G ks) (i*4+2)),.int .i64 (A2 (G ks) (i*4+3))]:List AV)⟩])∧(decide ((A2 (G ks) (i*4):Int)<upU [.int .i64 (A2 (G ks) ((Int.toNat (wS .i64 ((i:Int) - 1)))*4)),.int .i64 (((D1 (G ks) ((Int.toNat (wS .i64 ((i:Int) - 1)))*4+2):Nat):Int)),.int .i64 (A2 (G ks) ((Int.toNat (wS .i64 ((i:Int) - 1)))*4+3))])=false→(w=true→
 Q .normal [.ptr (.rw 0) 0,.bool false,.bool true,.int .i64 (wS .i64 ((i:Int)+1))] [some ⟨1,(Cu ks n kp m s)⟩,some ⟨1,([.int .i64 (A2 (G ks) (i*4)),.int .i64 (A2 (G ks) (i*4+1)),.slice true (.ro (G0 (G ks) (i*4+2))) (H8 (G ks) (i*4+2)) (D1 (G ks) (i*4+2)),.int .i64 (A2 (G ks) (i*4+3))]:List AV)⟩])∧(w=false→(((P1 .i64 (A2 (G ks) (i*4+1)) 4:Int)==0)=true→Q .normal [.ptr (.rw 0) 0,.bool false,.bool false,.int .i64 (wS .i64 ((i:Int)+1))] [some ⟨1,(Cu ks n kp m s)⟩,some ⟨1,([.int .i64 (A2 (G ks) (i*4)),.int .i64 (A2 (G ks) (i*4+1)),.slice true (.ro (G0 (G ks) (i*4+2))) (H8 (G ks) (i*4+2)) (D1 (G ks) (i*4+2)),.int .i64 (A2 (G ks) (i*4+3))]:List AV)⟩])∧(((P1 .i64 (A2 (G ks) (i*4+1)) 4:Int)==0)=false→(decide ((s:Int)≥A2 (G ks) (i*4))=true→Q .normal [.ptr (.rw 0) 0,.bool false,.bool (decide ((s:Int)<wS .i64 (A2 (G ks) (i*4)+Oi [.int .i64 (((D1 (G ks) (i*4+2):Nat):Int)),.int .i64 (A2 (G ks) (i*4+3))]))),.int .i64 (wS .i64 ((i:Int)+1))] [some ⟨1,(Cu ks n kp m s)⟩,some ⟨1,([.int .i64 (A2 (G ks) (i*4)),.int .i64 (A2 (G ks) (i*4+1)),.slice true (.ro (G0 (G ks) (i*4+2))) (H8 (G ks) (i*4+2)) (D1 (G ks) (i*4+2)),.int .i64 (A2 (G ks) (i*4+3))]:List AV)⟩])∧(decide ((s:Int)≥A2 (G ks) (i*4))=false→Q .normal [.ptr (.rw 0) 0,.bool false,.bool false,.int .i64 (wS .i64 ((i:Int)+1))] [some ⟨1,(Cu ks n kp m s)⟩,some ⟨1,([.int .i64 (A2 (G ks) (i*4)),.int .i64 (A2 (G ks) (i*4+1)),.slice true (.ro (G0 (G ks) (i*4+2))) (H8 (G ks) (i*4+2)) (D1 (G ks) (i*4+2)),.int .i64 (A2 (G ks) (i*4+3))]:List AV)⟩])))))∧
 (decide (((i:Int):Int)>0)=false→(w=true→Q .normal [.ptr (.rw 0) 0,.bool false,.bool true,.int .i64 (wS .i64 ((i:Int)+1))] [some ⟨1,(Cu ks n kp m s)⟩,some ⟨1,([.int .i64 (A2 (G ks) (i*4)),.int .i64 (A2 (G ks) (i*4+1)),.slice true (.ro (G0 (G ks) (i*4+2))) (H8 (G ks) (i*4+2)) (D1 (G ks) (i*4+2)),.int .i64 (A2 (G ks) (i*4+3))]:List AV)⟩])∧(w=false→(((P1 .i64 (A2 (G ks) (i*4+1)) 4:Int)==0)=true→Q .normal [.ptr (.rw 0) 0,.bool false,.bool false,.int .i64 (wS .i64 ((i:Int)+1))] [some ⟨1,(Cu ks n kp m s)⟩,some ⟨1,([.int .i64 (A2 (G ks) (i*4)),.int .i64 (A2 (G ks) (i*4+1)),.slice true (.ro (G0 (G ks) (i*4+2))) (H8 (G ks) (i*4+2)) (D1 (G ks) (i*4+2)),.int .i64 (A2 (G ks) (i*4+3))]:List AV)⟩])∧(((P1 .i64 (A2 (G ks) (i*4+1)) 4:Int)==0)=false→(decide ((s:Int)≥A2 (G ks) (i*4))=true→Q .normal [.ptr (.rw 0) 0,.bool false,.bool (decide ((s:Int)<wS .i64 (A2 (G ks) (i*4)+Oi [.int .i64 (((D1 (G ks) (i*4+2):Nat):Int)),.int .i64 (A2 (G ks) (i*4+3))]))),.int .i64 (wS .i64 ((i:Int)+1))] [some ⟨1,(Cu ks n kp m s)⟩,some ⟨1,([.int .i64 (A2 (G ks) (i*4)),.int .i64 (A2 (G ks) (i*4+1)),.slice true (.ro (G0 (G ks) (i*4+2))) (H8 (G ks) (i*4+2)) (D1 (G ks) (i*4+2)),.int .i64 (A2 (G ks) (i*4+3))]:List AV)⟩])∧(decide ((s:Int)≥A2 (G ks) (i*4))=false→
 Q .normal [.ptr (.rw 0) 0,.bool false,.bool false,.int .i64 (wS .i64 ((i:Int)+1))] [some ⟨1,(Cu ks n kp m s)⟩,some ⟨1,([.int .i64 (A2 (G ks) (i*4)),.int .i64 (A2 (G ks) (i*4+1)),.slice true (.ro (G0 (G ks) (i*4+2))) (H8 (G ks) (i*4+2)) (D1 (G ks) (i*4+2)),.int .i64 (A2 (G ks) (i*4+3))]:List AV)⟩])))))∧(Ti [.int .i64 (A2 (G ks) (i*4)),.int .i64 (A2 (G ks) (i*4+1)),.int .i64 (((D1 (G ks) (i*4+2):Nat):Int)),.int .i64 (A2 (G ks) (i*4+3))]=false→Q .ret [.ptr (.rw 0) 0,.bool false,.bool w,.int .i64 ((i:Int))] [some ⟨1,(Cu ks n kp m s)⟩,some ⟨1,([.int .i64 (A2 (G ks) (i*4)),.int .i64 (A2 (G ks) (i*4+1)),.slice true (.ro (G0 (G ks) (i*4+2))) (H8 (G ks) (i*4+2)) (D1 (G ks) (i*4+2)),.int .i64 (A2 (G ks) (i*4+3))]:List AV)⟩]))∧(decide (((i:Int):Int)<(n:Int))=false→Q (.exit 0) [.ptr (.rw 0) 0,.bool false,.bool w,.int .i64 ((i:Int))] [some ⟨1,(Cu ks n kp m s)⟩])):=by kernel_rfl
end
end Go.Am
