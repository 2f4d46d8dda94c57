/-
  Images: a section, a place: which may be, how great they are. Images: in which section a place lies.
-/
import Derived.Test.YthejjolnlngahaaBase5
import Derived.Test.YthejjolnlngahaaProg
import Derived.Test.YthejjolnlngahaaBase6
namespace Go.Am
open Go.Proofs
set_option maxRecDepth 100000
section
variable (G:Nat→List AV) (B:Nat)
theorem K6 :((⟨Try.prog,G,B⟩:A0):A0).P.follows .mixedOrders=true:=by kernel_rfl
theorem F9 (n:Nat):((n:Int)).toNat=n:=Int.toNat_natCast n
def lK (n:Nat) (z:Int):Int:=IntKind.i64.wrap ((n:Int)+z)
def Hm (a r:Int) (n:Nat) (z:Int):Bool:=(decide (0≤z)&&(decide (z≤8192)&&decide (n≤8192)))&&((decide (0≤a)&&(decide (a≤8192)&&decide (a % 256=0)))&&((decide (1≤r)&&decide (r≤7))&&(decide (1≤(n:Int)+z)&&decide (a+(n+z)≤8192))))
def Om (n:Nat) (z:Int):Int:=if 0≤z∧z≤8192∧n≤8192 then (n:Int)+z else -1
def P4 (h:Bool):Int:=if h then 2 else 4
def Ta:List AV→Int:=fun xs=>match xs with
 | [.int _ n,.int _ z]=>lK n.toNat z
 | _=>0
def Tx:List AV→Bool:=fun xs=>match xs with
 | [.int _ a,.int _ r,.int _ n,.int _ z]=>Hm a r n.toNat z
 | _=>false
def Ol:List AV→Int:=fun xs=>match xs with
 | [.int _ n,.int _ z]=>Om n.toNat z
 | _=>0
def Gc:List AV→Int:=fun xs=>match xs with
 | [.bool h]=>P4 h
 | _=>0
def slN:EV→Option EN
 | .slice _ _ _ n=>some n
 | .nils=>some (.lit 0)
 | _=>none
theorem t44 (a r z:Int) (n:Nat) (Q:Ex→List AV→Hp→Prop) (R:AV→Hp→Prop):vT G Q R (G0 (Dc Try.prog [] [] [] 0) 100 20 Try.f44 [.agg (.of [.int .i64 (.var 1 a),.int .i64 (.var 2 r),.slice true (.ro (.lit 0)) (.lit 0) (.var 3 n),.int .i64 (.var 4 z)])] [] 0)=(
  R (.int .i64 (IntKind.wrap .i64 ((n:Int)+z))) []):=by kernel_rfl
theorem t35 (x:Int) (h:Bool) (Q:Ex→List AV→Hp→Prop) (R:AV→Hp→Prop):vT G Q R (G0 (Dc Try.prog [] [] [] 0) 100 20 Try.f35 [.agg (.of [.int .i64 (.var 1 x),.bool (.var 2 h)])] [] 0)=(
  (h=true→R (.int .i64 2) [])∧(h=false→R (.int .i64 4) [])):=by kernel_rfl
theorem t38 (x:Int) (h:Bool) (Q:Ex→List AV→Hp→Prop) (R:AV→Hp→Prop):vT G Q R (G0 (Dc Try.prog [] [] [] 0) 100 20 Try.f38 [.agg (.of [.int .i64 (.var 1 x),.bool (.var 2 h)])] [] 0)=(
  (h=true→R (.int .i64 2) [])∧(h=false→R (.int .i64 4) [])):=by kernel_rfl
theorem t47 (a r z:Int) (n:Nat) (Q:Ex→List AV→Hp→Prop) (R:AV→Hp→Prop):vT G Q R (G0 (Dc Try.prog [] [] [] 0) 100 20 Try.f47 [.agg (.of [.int .i64 (.var 1 a),.int .i64 (.var 2 r),.slice true (.ro (.lit 0)) (.lit 0) (.var 3 n),.int .i64 (.var 4 z)])] [] 0)=(
  (decide ((z:Int)<0)=true→R (.int .i64 ((-1))) [])∧(decide ((z:Int)<0)=false→(decide ((z:Int)>8192)=true→R (.int .i64 ((-1))) [])∧(decide ((z:Int)>8192)=false→(decide (((n:Int):Int)>8192)=true→R (.int .i64 ((-1))) [])∧(decide (((n:Int):Int)>8192)=false→R (.int .i64 (IntKind.wrap .i64 ((n:Int)+z))) [])))):=by kernel_rfl
section
variable {C:A0}
theorem E0.sec {f:FuncId} {a r z:EI} {sl:EV} {n:EN} {H:DHp} {v:EV} (hs:slN sl=some n) (h:∀ B,ACalls ⟨C.P,fun _=>[],B⟩ f [.agg [.int .i64 (vI C.G a),.int .i64 (vI C.G r),.slice true (.ro 0) 0 (vN C.G n),.int .i64 (vI C.G z)]] [] fun v' _=>v'=vV C.G v) (hv:A8 0 (vV C.G v)=true∧U5 (vV C.G v)=true):E0 C f [.agg (.of [.int .i64 a,.int .i64 r,sl,.int .i64 z])] H v []:=by
 obtain ⟨rr,oo,hw⟩:∃ (rr:Ref) (oo:Nat),∀ (ρ:Env) cv,VR ρ (vV C.G sl) cv→VR ρ (.slice true rr oo (vN C.G n)) cv:=by
  unfold slN at hs;split at hs
  ·simp only [zK] at hs;subst hs;rename_i mb r' o' n';exact ⟨vR C.G r',vN C.G o',fun ρ cv hv=>by simp only [vV] at hv;exact T1 hv⟩
  ·simp only [zK] at hs;subst hs;exact ⟨.ro 0,0,fun ρ cv hv=>Ll _ _ (by simpa only [vV] using hv)⟩
  ·simp at hs
 refine E0.rdN (σ:=fun _=>(rr,oo)) (G':=fun _=>[]) (args0:=[.agg [.int .i64 (vI C.G a),.int .i64 (vI C.G r),.slice true (.ro 0) 0 (vN C.G n),.int .i64 (vI C.G z)]]) (fun k=>.inl rfl) rfl (fun ρ vs hvs=>?_) (fun B=>h B) hv;simp only [vVs,vV,vL,sbs,sb,VRs,VR] at hvs ⊢;obtain ⟨v,vs',e,⟨ws,e2,w1,t1,e3,q1,w2,t2,e4,q2,w3,t3,e5,q3,w4,t4,e6,q4,q5⟩,q6⟩:=hvs;exact ⟨v,vs',e,⟨ws,e2,w1,t1,e3,q1,w2,t2,e4,q2,w3,t3,e5,by have:=hw ρ w3 q3;simpa only [VR,Nat.add_zero] using this,w4,t4,e6,q4,q5⟩,q6⟩
theorem E0.plc {f:FuncId} {x:EI} {b:EB} {H:DHp} {v:EV} (h:∀ B,ACalls ⟨C.P,fun _=>[],B⟩ f [.agg [.int .i64 (vI C.G x),.bool (vB C.G b)]] [] fun v' _=>v'=vV C.G v) (hv:A8 0 (vV C.G v)=true∧U5 (vV C.G v)=true):E0 C f [.agg (.of [.int .i64 x,.bool b])] H v []:=
 E0.rdN (σ:=fun _=>(.ro 0,0)) (G':=fun _=>[]) (args0:=[.agg [.int .i64 (vI C.G x),.bool (vB C.G b)]]) (fun k=>.inl rfl) rfl (fun ρ vs hvs=>hvs) (fun B=>h B) hv
end
theorem dgI (M:Nat):L6 (⟨Try.prog,G,B⟩:A0) (Dc Try.prog [] [] [] M) []:=D7 (K6 G B) (by kernel_rfl) .nil .nil
theorem aT0 (a r z:Int) (n:Nat):ACalls (⟨Try.prog,G,B⟩:A0) 44 [.agg [.int .i64 a,.int .i64 r,.slice true (.ro 0) 0 n,.int .i64 z]] [] fun v _=>v=.int .i64 (lK n z):=by
 have:=C1 (C:=(⟨Try.prog,G,B⟩:A0)) (fuel:=100) (n0:=20) (f:=44) (fn:=Try.f44) (args:=[.agg (.of [.int .i64 (.var 1 a),.int .i64 (.var 2 r),.slice true (.ro (.lit 0)) (.lit 0) (.var 3 n),.int .i64 (.var 4 z)])]) (H:=[]) (keep:=0)
  (R:=fun v _=>v=.int .i64 (lK n z)) (by rw [show B5 (C6 Try.f44)=[] by kernel_rfl];exact dgI G B 0) (by kernel_rfl) (by kernel_rfl) (by kernel_rfl) (by
  rw [t44 G a r z n];rfl)
 exact this.monoK fun v H' h=>h
theorem aS4 (x:Int) (h:Bool):ACalls (⟨Try.prog,G,B⟩:A0) 35 [.agg [.int .i64 x,.bool h]] [] fun v _=>v=.int .i64 (P4 h):=by
 have:=C1 (C:=(⟨Try.prog,G,B⟩:A0)) (fuel:=100) (n0:=20) (f:=35) (fn:=Try.f35) (args:=[.agg (.of [.int .i64 (.var 1 x),.bool (.var 2 h)])]) (H:=[]) (keep:=0)
  (R:=fun v _=>v=.int .i64 (P4 h)) (by rw [show B5 (C6 Try.f35)=[] by kernel_rfl];exact dgI G B 0) (by kernel_rfl) (by kernel_rfl) (by kernel_rfl) (by
  rw [t35 G x h];cases h<;>simp [P4])
 exact this.monoK fun v H' h=>h
theorem aC7 (x:Int) (h:Bool):ACalls (⟨Try.prog,G,B⟩:A0) 38 [.agg [.int .i64 x,.bool h]] [] fun v _=>v=.int .i64 (P4 h):=by
 have:=C1 (C:=(⟨Try.prog,G,B⟩:A0)) (fuel:=100) (n0:=20) (f:=38) (fn:=Try.f38) (args:=[.agg (.of [.int .i64 (.var 1 x),.bool (.var 2 h)])]) (H:=[]) (keep:=0)
  (R:=fun v _=>v=.int .i64 (P4 h)) (by rw [show B5 (C6 Try.f38)=[] by kernel_rfl];exact dgI G B 0) (by kernel_rfl) (by kernel_rfl) (by kernel_rfl) (by
  rw [t38 G x h];cases h<;>simp [P4])
 exact this.monoK fun v H' h=>h
theorem aG9 (a r z:Int) (n:Nat):ACalls (⟨Try.prog,G,B⟩:A0) 47 [.agg [.int .i64 a,.int .i64 r,.slice true (.ro 0) 0 n,.int .i64 z]] [] fun v _=>v=.int .i64 (Om n z):=by
 have:=C1 (C:=(⟨Try.prog,G,B⟩:A0)) (fuel:=100) (n0:=20) (f:=47) (fn:=Try.f47) (args:=[.agg (.of [.int .i64 (.var 1 a),.int .i64 (.var 2 r),.slice true (.ro (.lit 0)) (.lit 0) (.var 3 n),.int .i64 (.var 4 z)])]) (H:=[]) (keep:=0)
  (R:=fun v _=>v=.int .i64 (Om n z)) (by rw [show B5 (C6 Try.f47)=[] by kernel_rfl];exact dgI G B 0) (by kernel_rfl) (by kernel_rfl) (by kernel_rfl) (by
  rw [t47 G a r z n];unfold Om;refine ⟨fun h1=>?_,fun h1=>⟨fun h2=>?_,fun h2=>⟨fun h3=>?_,fun h3=>?_⟩⟩⟩
  ·have:=yL h1;rw [if_neg (by omega)]
  ·have:=yL h2;rw [if_neg (by omega)]
  ·have:=yL h3;rw [if_neg (by omega)]
  ·have h1:=yP h1;have h2:=yP h2;have h3:=yP h3
   rw [if_pos (by omega),B6 (by omega)])
 exact this.monoK fun v H' h=>h
def szS:DSum:=fun args _=>match args with
 | [.agg (.of [.int .i64 _,.int .i64 _,sl,.int .i64 z])]=>match slN sl with
  | some n=>some (.one (.int .i64 (.uf 1701 Ta [.int .i64 (.ofN n),.int .i64 z])) [])
  | none=>none
 | _=>none
theorem szS_ok :D4 (⟨Try.prog,G,B⟩:A0) 44 szS:=by
 intro args H o ho;unfold szS at ho;split at ho
 ·rename_i a r sl z;split at ho
  ·rename_i n hs;simp only [zK] at ho;subst ho;refine E0.sec (C:=(⟨Try.prog,G,B⟩:A0)) hs (fun B'=>?_) ⟨rfl,rfl⟩;refine (aT0 (fun _=>[]) B' _ _ _ _).monoK fun v _ e=>?_;rw [e];simp only [vV,vI,vVs,vN,Ta,F9]
  ·simp at ho
 ·simp at ho
def rszS:DSum:=fun args _=>match args with
 | [.agg (.of [.int .i64 _,.int .i64 _,sl,.int .i64 z])]=>match slN sl with
  | some n=>some (.one (.int .i64 (.uf 1703 Ol [.int .i64 (.ofN n),.int .i64 z])) [])
  | none=>none
 | _=>none
theorem aV2 :D4 (⟨Try.prog,G,B⟩:A0) 47 rszS:=by
 intro args H o ho;unfold rszS at ho;split at ho
 ·rename_i a r sl z;split at ho
  ·rename_i n hs;simp only [zK] at ho;subst ho;refine E0.sec (C:=(⟨Try.prog,G,B⟩:A0)) hs (fun B'=>?_) ⟨rfl,rfl⟩;refine (aG9 (fun _=>[]) B' _ _ _ _).monoK fun v _ e=>?_;rw [e];simp only [vV,vI,vVs,vN,Ol,F9]
  ·simp at ho
 ·simp at ho
def wdS:DSum:=fun args _=>match args with
 | [.agg (.of [.int .i64 _,.bool b])]=>some (.one (.int .i64 (.uf 1704 Gc [.bool b])) [])
 | _=>none
theorem wP {f:Nat} (h:∀ (G:Nat→List AV) (B:Nat) (x:Int) (h:Bool),ACalls (⟨Try.prog,G,B⟩:A0) f [.agg [.int .i64 x,.bool h]] [] fun v _=>v=.int .i64 (P4 h)):D4 (⟨Try.prog,G,B⟩:A0) f wdS:=by
 intro args H o ho;unfold wdS at ho;split at ho
 ·simp only [zK] at ho;subst ho;exact E0.plc (C:=(⟨Try.prog,G,B⟩:A0)) (fun B'=>h _ B' _ _) ⟨rfl,rfl⟩
 ·simp at ho
def progIa:List (Nat×DSum):=(44,szS)::(47,rszS)::(35,wdS)::(38,wdS)::[]
theorem Nq :Q8 (⟨Try.prog,G,B⟩:A0) progIa:=.cons (szS_ok G B) (.cons (aV2 G B) (.cons (wP G B fun G B x h=>aS4 G B x h) (.cons (wP G B fun G B x h=>aC7 G B x h) .nil)))
theorem t43 (a r z:Int) (n:Nat) (Q:Ex→List AV→Hp→Prop) (R:AV→Hp→Prop):vT G Q R (G0 (Dc Try.prog [] progIa [] 0) 100 20 Try.f43 [.agg (.of [.int .i64 (.var 1 a),.int .i64 (.var 2 r),.slice true (.ro (.lit 0)) (.lit 0) (.var 3 n),.int .i64 (.var 4 z)])] [] 0)=(
  (decide ((z:Int)<0)=true→R (.bool false) [])∧(decide ((z:Int)<0)=false→(decide ((z:Int)>8192)=true→R (.bool false) [])∧(decide ((z:Int)>8192)=false→(decide (((n:Int):Int)>8192)=true→R (.bool false) [])∧(decide (((n:Int):Int)>8192)=false→(decide ((a:Int)<0)=true→R (.bool false) [])∧(decide ((a:Int)<0)=false→(decide ((a:Int)>8192)=true→R (.bool false) [])∧(decide ((a:Int)>8192)=false→(((Int.tmod a 256:Int)==0)=true→(decide ((r:Int)≥1)=true→(decide ((r:Int)≤7)=true→(decide ((Ta [.int .i64 ((n:Int)),.int .i64 z]:Int)≥1)=true→R (.bool (decide ((IntKind.wrap .i64 (a+Ta [.int .i64 ((n:Int)),.int .i64 z]):Int)≤8192))) [])∧(decide ((Ta [.int .i64 ((n:Int)),.int .i64 z]:Int)≥1)=false→R (.bool false) []))∧(decide ((r:Int)≤7)=false→R (.bool false) []))∧(decide ((r:Int)≥1)=false→R (.bool false) []))∧(((Int.tmod a 256:Int)==0)=false→R (.bool false) []))))))):=by kernel_rfl
theorem t45 (a r z:Int) (n:Nat) (Q:Ex→List AV→Hp→Prop) (R:AV→Hp→Prop):vT G Q R (G0 (Dc Try.prog [] progIa [] 0) 100 20 Try.f45 [.agg (.of [.int .i64 (.var 1 a),.int .i64 (.var 2 r),.slice true (.ro (.lit 0)) (.lit 0) (.var 3 n),.int .i64 (.var 4 z)])] [] 0)=(
  (decide ((a:Int)≥0)=true→(decide ((a:Int)≤8192)=true→(((Int.tmod a 256:Int)==0)=true→(decide ((r:Int)≥1)=true→(decide ((r:Int)≤7)=true→(decide ((Ol [.int .i64 ((n:Int)),.int .i64 z]:Int)≥1)=true→R (.bool (decide ((Ol [.int .i64 ((n:Int)),.int .i64 z]:Int)≤IntKind.wrap .i64 (8192 - a)))) [])∧(decide ((Ol [.int .i64 ((n:Int)),.int .i64 z]:Int)≥1)=false→R (.bool false) []))∧(decide ((r:Int)≤7)=false→R (.bool false) []))∧(decide ((r:Int)≥1)=false→R (.bool false) []))∧(((Int.tmod a 256:Int)==0)=false→R (.bool false) []))∧(decide ((a:Int)≤8192)=false→R (.bool false) []))∧(decide ((a:Int)≥0)=false→R (.bool false) [])):=by kernel_rfl
theorem t46 (a r z:Int) (n:Nat) (Q:Ex→List AV→Hp→Prop) (R:AV→Hp→Prop):vT G Q R (G0 (Dc Try.prog [] progIa [] 0) 100 20 Try.f46 [.agg (.of [.int .i64 (.var 1 a),.int .i64 (.var 2 r),.slice true (.ro (.lit 0)) (.lit 0) (.var 3 n),.int .i64 (.var 4 z)])] [] 0)=(
  R (.int .i64 (IntKind.wrap .i64 (IntKind.wrap .i64 (Int.tdiv (IntKind.wrap .i64 (IntKind.wrap .i64 (IntKind.wrap .i64 (a+Ol [.int .i64 ((n:Int)),.int .i64 z])+256) - 1)) 256)*256))) []):=by kernel_rfl
theorem U2 {a r z:Int} {n:Nat}:Hm a r n z=true↔(0≤z∧z≤8192∧n≤8192)∧(0≤a∧a≤8192∧a % 256=0)∧(1≤r∧r≤7)∧1≤(n:Int)+z∧a+(n+z)≤8192:=by
 simp only [Hm,zN,xE]
theorem W3 {a r z:Int} {n:Nat} (h:¬((0≤z∧z≤8192∧n≤8192)∧(0≤a∧a≤8192∧a % 256=0)∧(1≤r∧r≤7)∧1≤(n:Int)+z∧a+(n+z)≤8192)):Hm a r n z=false:=by
 cases e:Hm a r n z with
 | false=>rfl
 | true=>exact absurd (U2.1 e) h
theorem wX {n:Nat} {z:Int}:Ta [.int .i64 (n:Int),.int .i64 z]=lK n z:=by simp only [Ta,F9]
theorem dU {n:Nat} {z:Int}:Ol [.int .i64 (n:Int),.int .i64 z]=Om n z:=by simp only [Ol,F9]
theorem qQ {a:Int} (h:0≤a):((Int.tmod a 256:Int)==0)=decide (a % 256=0):=by
 rw [Int.tmod_eq_emod_of_nonneg h,Bool.eq_iff_iff,beq_iff_eq,decide_eq_true_iff]
theorem aF3 (a r z:Int) (n:Nat):ACalls (⟨Try.prog,G,B⟩:A0) 43 [.agg [.int .i64 a,.int .i64 r,.slice true (.ro 0) 0 n,.int .i64 z]] [] fun v _=>v=.bool (Hm a r n z):=by
 have:=C1 (C:=(⟨Try.prog,G,B⟩:A0)) (fuel:=100) (n0:=20) (f:=43) (fn:=Try.f43) (args:=[.agg (.of [.int .i64 (.var 1 a),.int .i64 (.var 2 r),.slice true (.ro (.lit 0)) (.lit 0) (.var 3 n),.int .i64 (.var 4 z)])]) (H:=[]) (keep:=0)
  (R:=fun v _=>v=.bool (Hm a r n z)) (by rw [show B5 (C6 Try.f43)=[] by kernel_rfl];exact D7 (inl:=[]) (ls:=[]) (M:=0) (K6 G B) (by kernel_rfl) (Nq G B) .nil) (by kernel_rfl) (by kernel_rfl) (by kernel_rfl) (by
  rw [t43 G a r z n,wX];refine ⟨fun h1=>?_,fun h1=>⟨fun h2=>?_,fun h2=>⟨fun h3=>?_,fun h3=>⟨fun h4=>?_,fun h4=>⟨fun h5=>?_,fun h5=>?_⟩⟩⟩⟩⟩
  ·have:=yL h1;rw [W3 (by omega)]
  ·have:=yL h2;rw [W3 (by omega)]
  ·have:=yL h3;rw [W3 (by omega)]
  ·have:=yL h4;rw [W3 (by omega)]
  ·have:=yL h5;rw [W3 (by omega)]
  ·have h1:=yP h1;have h2:=yP h2;have h3:=yP h3;have h4:=yP h4;have h5:=yP h5;have e:lK n z=(n:Int)+z:=B6 (by omega);rw [e,B6 (by omega),qQ (by omega)];refine ⟨fun h6=>⟨fun h7=>⟨fun h8=>⟨fun h9=>?_,fun h9=>?_⟩,fun h8=>?_⟩,fun h7=>?_⟩,fun h6=>?_⟩
   ·have h6:=yL h6;have h7:=yL h7;have h8:=yL h8;have h9:=yL h9;congr 1;rw [Bool.eq_iff_iff,decide_eq_true_iff,U2];omega
   ·have:=yP h9;rw [W3 (by omega)]
   ·have:=yP h8;rw [W3 (by omega)]
   ·have:=yP h7;rw [W3 (by omega)]
   ·have:=yP h6;rw [W3 (by omega)])
 exact this.monoK fun v H' h=>h
theorem xQ (a r z:Int) (n:Nat):ACalls (⟨Try.prog,G,B⟩:A0) 45 [.agg [.int .i64 a,.int .i64 r,.slice true (.ro 0) 0 n,.int .i64 z]] [] fun v _=>v=.bool (Hm a r n z):=by
 have:=C1 (C:=(⟨Try.prog,G,B⟩:A0)) (fuel:=100) (n0:=20) (f:=45) (fn:=Try.f45) (args:=[.agg (.of [.int .i64 (.var 1 a),.int .i64 (.var 2 r),.slice true (.ro (.lit 0)) (.lit 0) (.var 3 n),.int .i64 (.var 4 z)])]) (H:=[]) (keep:=0)
  (R:=fun v _=>v=.bool (Hm a r n z)) (by rw [show B5 (C6 Try.f45)=[] by kernel_rfl];exact D7 (inl:=[]) (ls:=[]) (M:=0) (K6 G B) (by kernel_rfl) (Nq G B) .nil) (by kernel_rfl) (by kernel_rfl) (by kernel_rfl) (by
  rw [t45 G a r z n,dU];have hr:Om n z=if 0≤z∧z≤8192∧n≤8192 then (n:Int)+z else -1:=rfl
  refine ⟨fun h1=>⟨fun h2=>?_,fun h2=>?_⟩,fun h1=>?_⟩
  ·have h1:=yL h1;have h2:=yL h2;rw [qQ (by omega),B6 (by omega)];refine ⟨fun h6=>⟨fun h7=>⟨fun h8=>⟨fun h9=>?_,fun h9=>?_⟩,fun h8=>?_⟩,fun h7=>?_⟩,fun h6=>?_⟩
   ·have h6:=yL h6;have h7:=yL h7;have h8:=yL h8;have h9:=yL h9;congr 1;rw [Bool.eq_iff_iff,decide_eq_true_iff,U2];split at hr<;>omega
   ·have:=yP h9
    rw [W3 (by split at hr<;>omega)]
   ·have:=yP h8;rw [W3 (by omega)]
   ·have:=yP h7;rw [W3 (by omega)]
   ·have:=yP h6;rw [W3 (by omega)]
  ·have:=yP h2;rw [W3 (by omega)]
  ·have:=yP h1;rw [W3 (by omega)])
 exact this.monoK fun v H' h=>h
def upF (a:Int) (n:Nat) (z:Int):Int:=IntKind.wrap .i64 (IntKind.wrap .i64 (Int.tdiv (IntKind.wrap .i64 (IntKind.wrap .i64 (IntKind.wrap .i64 (a+Om n z)+256) - 1)) 256)*256)
theorem up_val {a r z:Int} {n:Nat} (h:Hm a r n z=true):upF a n z=(a+n+z+255) / 256*256:=by
 have h:=U2.1 h;have e:Om n z=(n:Int)+z:=if_pos ⟨by omega,by omega,by omega⟩;unfold upF;rw [e,B6 (n:=a+(n+z)) (by omega),B6 (n:=a+(n+z)+256) (by omega),B6 (n:=a+(n+z)+256 - 1) (by omega),Int.tdiv_eq_ediv_of_nonneg (by omega),B6 (n:=(a+(n+z)+256 - 1) / 256) (by omega),B6 (by omega)];congr 2;omega
theorem aS6 (a r z:Int) (n:Nat):ACalls (⟨Try.prog,G,B⟩:A0) 46 [.agg [.int .i64 a,.int .i64 r,.slice true (.ro 0) 0 n,.int .i64 z]] [] fun v _=>v=.int .i64 (upF a n z):=by
 have:=C1 (C:=(⟨Try.prog,G,B⟩:A0)) (fuel:=100) (n0:=20) (f:=46) (fn:=Try.f46) (args:=[.agg (.of [.int .i64 (.var 1 a),.int .i64 (.var 2 r),.slice true (.ro (.lit 0)) (.lit 0) (.var 3 n),.int .i64 (.var 4 z)])]) (H:=[]) (keep:=0)
  (R:=fun v _=>v=.int .i64 (upF a n z)) (by rw [show B5 (C6 Try.f46)=[] by kernel_rfl];exact D7 (inl:=[]) (ls:=[]) (M:=0) (K6 G B) (by kernel_rfl) (Nq G B) .nil) (by kernel_rfl) (by kernel_rfl) (by kernel_rfl) (by
  rw [t46 G a r z n,dU];rfl)
 exact this.monoK fun v H' h=>h
def upU:List AV→Int:=fun xs=>match xs with
 | [.int _ a,.int _ n,.int _ z]=>upF a n.toNat z
 | _=>0
def secS:DSum:=fun args _=>match args with
 | [.agg (.of [.int .i64 a,.int .i64 r,sl,.int .i64 z])]=>match slN sl with
  | some n=>some (.one (.bool (.uf 1702 Tx [.int .i64 a,.int .i64 r,.int .i64 (.ofN n),.int .i64 z])) [])
  | none=>none
 | _=>none
theorem rC {f:Nat} (h:∀ (G:Nat→List AV) (B:Nat) (a r z:Int) (n:Nat),ACalls (⟨Try.prog,G,B⟩:A0) f [.agg [.int .i64 a,.int .i64 r,.slice true (.ro 0) 0 n,.int .i64 z]] [] fun v _=>v=.bool (Hm a r n z)):D4 (⟨Try.prog,G,B⟩:A0) f secS:=by
 intro args H o ho;unfold secS at ho;split at ho
 ·rename_i a r sl z;split at ho
  ·rename_i n hs;simp only [zK] at ho;subst ho;refine E0.sec (C:=(⟨Try.prog,G,B⟩:A0)) hs (fun B'=>?_) ⟨rfl,rfl⟩;refine (h (fun _=>[]) B' _ _ _ _).monoK fun v _ e=>?_;rw [e];simp only [vV,vI,vB,vVs,vN,Tx,F9]
  ·simp at ho
 ·simp at ho
def upS:DSum:=fun args _=>match args with
 | [.agg (.of [.int .i64 a,.int .i64 _,sl,.int .i64 z])]=>match slN sl with
  | some n=>some (.one (.int .i64 (.uf 1705 upU [.int .i64 a,.int .i64 (.ofN n),.int .i64 z])) [])
  | none=>none
 | _=>none
theorem upS_ok :D4 (⟨Try.prog,G,B⟩:A0) 46 upS:=by
 intro args H o ho;unfold upS at ho;split at ho
 ·rename_i a r sl z;split at ho
  ·rename_i n hs;simp only [zK] at ho;subst ho;refine E0.sec (C:=(⟨Try.prog,G,B⟩:A0)) hs (fun B'=>?_) ⟨rfl,rfl⟩;refine (aS6 (fun _=>[]) B' _ _ _ _).monoK fun v _ e=>?_;rw [e];simp only [vV,vI,vVs,vN,upU,F9]
  ·simp at ho
 ·simp at ho
def progIb:List (Nat×DSum):=(43,secS)::(45,secS)::(46,upS)::progIa
theorem Y3 :Q8 (⟨Try.prog,G,B⟩:A0) progIb:=.cons (rC G B fun G B a r z n=>aF3 G B a r z n) (.cons (rC G B fun G B a r z n=>xQ G B a r z n) (.cons (upS_ok G B) (Nq G B)))
end
section
variable (G:Nat→List AV) (B:Nat)
theorem dt_b (ks n:Nat) (x:Int) (h:Bool) (i:Nat) (Q:Ex→List AV→Hp→Prop) (R:AV→Hp→Prop):vT G Q R (G3 (Dc Try.prog [] progIb [] 1) 300 20 1 (A2 Try.f34 0) 42 [0,3,4,8,9] [.slice true (.ro (.var 2 ks)) (.lit 0) (.var 3 n),.ptr (.rw 0) (.lit 0),.nilp,.int .i64 (.ofN (.var 3 n)),.int .i64 (.ofN (.var 8 i))] [some ⟨1,.of [.int .i64 (.var 6 x),.bool (.var 7 h)]⟩])=(
  (decide (((i:Int):Int)<(n:Int))=true→decide ((0:Int)≤(i:Int))=true∧decide (((i:Int):Int)<(n:Int))=true∧isI .i64 (G ks) (i*4)=true∧(decide ((x:Int)≥A1 (G ks) (i*4))=true→isI .i64 (G ks) (i*4)=true∧Fd (G ks) (i*4+2)=true∧(decide ((IntKind.wrap .i64 (x - A1 (G ks) (i*4)):Int)≤IntKind.wrap .i64 (((C7 (G ks) (i*4+2):Nat):Int) - Gc [.bool h]))=true→Q .ret [.slice true (.ro ks) 0 n,.ptr (.rw 0) 0,.ptr (.ro ks) (i*4),.int .i64 ((n:Int)),.int .i64 ((i:Int))] [some ⟨1,([.int .i64 x,.bool h]:List AV)⟩])∧(decide ((IntKind.wrap .i64 (x - A1 (G ks) (i*4)):Int)≤IntKind.wrap .i64 (((C7 (G ks) (i*4+2):Nat):Int) - Gc [.bool h]))=false→Q .normal [.slice true (.ro ks) 0 n,.ptr (.rw 0) 0,.nilp,.int .i64 ((n:Int)),.int .i64 (IntKind.wrap .i64 ((i:Int)+1))] [some ⟨1,([.int .i64 x,.bool h]:List AV)⟩]))∧(decide ((x:Int)≥A1 (G ks) (i*4))=false→Q .normal [.slice true (.ro ks) 0 n,.ptr (.rw 0) 0,.nilp,.int .i64 ((n:Int)),.int .i64 (IntKind.wrap .i64 ((i:Int)+1))] [some ⟨1,([.int .i64 x,.bool h]:List AV)⟩]))∧(decide (((i:Int):Int)<(n:Int))=false→Q (.exit 0) [.slice true (.ro ks) 0 n,.ptr (.rw 0) 0,.nilp,.int .i64 ((n:Int)),.int .i64 ((i:Int))] [some ⟨1,([.int .i64 x,.bool h]:List AV)⟩])):=by kernel_rfl
theorem in_b (ks n kp m:Nat) (s x:Int) (h:Bool) (i:Nat) (Q:Ex→List AV→Hp→Prop) (R:AV→Hp→Prop):vT G Q R (G3 (Dc Try.prog [] progIb [] 2) 300 20 2 (A2 Try.f37 0) 44 [2,3,4,5] [.ptr (.rw 0) (.lit 0),.ptr (.rw 1) (.lit 0),.int .i64 (.lit 0),.int .i64 (.ofN (.var 8 i))] [some ⟨1,.of [.int .i64 (.var 1 s),.slice true (.ro (.var 2 ks)) (.lit 0) (.var 3 n),.slice true (.ro (.var 4 kp)) (.lit 0) (.var 5 m)]⟩,some ⟨1,.of [.int .i64 (.var 6 x),.bool (.var 7 h)]⟩])=(
  (decide (((i:Int):Int)<(n:Int))=true→decide ((0:Int)≤(i:Int))=true∧decide (((i:Int):Int)<(n:Int))=true∧E5 (G ks) (i*4) [.int .i64,.int .i64,.sl,.int .i64]=true∧(decide ((x:Int)≥A1 (G ks) (i*4))=true→(decide ((x:Int)≤8192)=true→(decide ((IntKind.wrap .i64 (x+Gc [.bool h]):Int)≤IntKind.wrap .i64 (A1 (G ks) (i*4)+((C7 (G ks) (i*4+2):Nat):Int)))=true→Q .ret [.ptr (.rw 0) 0,.ptr (.rw 1) 0,.int .i64 ((i:Int)),.int .i64 ((i:Int))] [some ⟨1,([.int .i64 s,.slice true (.ro ks) 0 n,.slice true (.ro kp) 0 m]:List AV)⟩,some ⟨1,([.int .i64 x,.bool h]:List AV)⟩,some ⟨1,([.int .i64 (A1 (G ks) (i*4)),.int .i64 (A1 (G ks) (i*4+1)),.slice true (.ro (C8 (G ks) (i*4+2))) (E9 (G ks) (i*4+2)) (C7 (G ks) (i*4+2)),.int .i64 (A1 (G ks) (i*4+3))]:List AV)⟩])∧(decide ((IntKind.wrap .i64 (x+Gc [.bool h]):Int)≤IntKind.wrap .i64 (A1 (G ks) (i*4)+((C7 (G ks) (i*4+2):Nat):Int)))=false→Q .normal [.ptr (.rw 0) 0,.ptr (.rw 1) 0,.int .i64 0,.int .i64 (IntKind.wrap .i64 ((i:Int)+1))] [some ⟨1,([.int .i64 s,.slice true (.ro ks) 0 n,.slice true (.ro kp) 0 m]:List AV)⟩,some ⟨1,([.int .i64 x,.bool h]:List AV)⟩,some ⟨1,([.int .i64 (A1 (G ks) (i*4)),.int .i64 (A1 (G ks) (i*4+1)),.slice true (.ro (C8 (G ks) (i*4+2))) (E9 (G ks) (i*4+2)) (C7 (G ks) (i*4+2)),.int .i64 (A1 (G ks) (i*4+3))]:List AV)⟩]))∧(decide ((x:Int)≤8192)=false→
 Q .normal [.ptr (.rw 0) 0,.ptr (.rw 1) 0,.int .i64 0,.int .i64 (IntKind.wrap .i64 ((i:Int)+1))] [some ⟨1,([.int .i64 s,.slice true (.ro ks) 0 n,.slice true (.ro kp) 0 m]:List AV)⟩,some ⟨1,([.int .i64 x,.bool h]:List AV)⟩,some ⟨1,([.int .i64 (A1 (G ks) (i*4)),.int .i64 (A1 (G ks) (i*4+1)),.slice true (.ro (C8 (G ks) (i*4+2))) (E9 (G ks) (i*4+2)) (C7 (G ks) (i*4+2)),.int .i64 (A1 (G ks) (i*4+3))]:List AV)⟩]))∧(decide ((x:Int)≥A1 (G ks) (i*4))=false→Q .normal [.ptr (.rw 0) 0,.ptr (.rw 1) 0,.int .i64 0,.int .i64 (IntKind.wrap .i64 ((i:Int)+1))] [some ⟨1,([.int .i64 s,.slice true (.ro ks) 0 n,.slice true (.ro kp) 0 m]:List AV)⟩,some ⟨1,([.int .i64 x,.bool h]:List AV)⟩,some ⟨1,([.int .i64 (A1 (G ks) (i*4)),.int .i64 (A1 (G ks) (i*4+1)),.slice true (.ro (C8 (G ks) (i*4+2))) (E9 (G ks) (i*4+2)) (C7 (G ks) (i*4+2)),.int .i64 (A1 (G ks) (i*4+3))]:List AV)⟩]))∧(decide (((i:Int):Int)<(n:Int))=false→Q (.exit 0) [.ptr (.rw 0) 0,.ptr (.rw 1) 0,.int .i64 0,.int .i64 ((i:Int))] [some ⟨1,([.int .i64 s,.slice true (.ro ks) 0 n,.slice true (.ro kp) 0 m]:List AV)⟩,some ⟨1,([.int .i64 x,.bool h]:List AV)⟩])):=by kernel_rfl
def Me (ks:Nat) (n:Nat) (kp:Nat) (m:Nat) (s:Int):List AV:=[.int .i64 s,.slice true (.ro ks) 0 n,.slice true (.ro kp) 0 m]
theorem ck_b (ks n kp m:Nat) (s y:Int) (w:Bool) (i:Nat) (Q:Ex→List AV→Hp→Prop) (R:AV→Hp→Prop):vT G Q R (G3 (Dc Try.prog [] progIb [] 1) 300 20 1 (A2 Try.f20 0) 98 [1,2,3,4,31,32,33] [.ptr (.rw 0) (.lit 0),.int .i64 (.lit 0),.bool (.var 9 w),.int .i64 (.var 10 y),.slice true (.ro (.var 2 ks)) (.lit 0) (.var 3 n),.int .i64 (.ofN (.var 3 n)),.int .i64 (.ofN (.var 8 i))] [some ⟨1,.of [.int .i64 (.var 1 s),.slice true (.ro (.var 2 ks)) (.lit 0) (.var 3 n),.slice true (.ro (.var 4 kp)) (.lit 0) (.var 5 m)]⟩])=(
  (decide (((i:Int):Int)<(n:Int))=true→decide ((0:Int)≤(i:Int))=true∧decide (((i:Int):Int)<(n:Int))=true∧E5 (G ks) (i*4) [.int .i64,.int .i64,.sl,.int .i64]=true∧(Tx [.int .i64 (A1 (G ks) (i*4)),.int .i64 (A1 (G ks) (i*4+1)),.int .i64 (((C7 (G ks) (i*4+2):Nat):Int)),.int .i64 (A1 (G ks) (i*4+3))]=true→(decide ((A1 (G ks) (i*4):Int)<y)=true→Q .ret [.ptr (.rw 0) 0,.int .i64 2,.bool w,.int .i64 y,.slice true (.ro ks) 0 n,.int .i64 ((n:Int)),.int .i64 ((i:Int))] [some ⟨1,(Me ks n kp m s)⟩,some ⟨1,([.int .i64 (A1 (G ks) (i*4)),.int .i64 (A1 (G ks) (i*4+1)),.slice true (.ro (C8 (G ks) (i*4+2))) (E9 (G ks) (i*4+2)) (C7 (G ks) (i*4+2)),.int .i64 (A1 (G ks) (i*4+3))]:List AV)⟩])∧(decide ((A1 (G ks) (i*4):Int)<y)=false→(w=true→Q .normal [.ptr (.rw 0) 0,.int .i64 0,.bool true,.int .i64 (IntKind.wrap .i64 (A1 (G ks) (i*4)+Ta [.int .i64 (((C7 (G ks) (i*4+2):Nat):Int)),.int .i64 (A1 (G ks) (i*4+3))])),.slice true (.ro ks) 0 n,.int .i64 ((n:Int)),.int .i64 (IntKind.wrap .i64 ((i:Int)+1))] [some ⟨1,(Me ks n kp m s)⟩,some ⟨1,([.int .i64 (A1 (G ks) (i*4)),.int .i64 (A1 (G ks) (i*4+1)),.slice true (.ro (C8 (G ks) (i*4+2))) (E9 (G ks) (i*4+2)) (C7 (G ks) (i*4+2)),.int .i64 (A1 (G ks) (i*4+3))]:List AV)⟩])∧(w=false→(((P0 .i64 (A1 (G ks) (i*4+1)) 4:Int)==0)=true→
 Q .normal [.ptr (.rw 0) 0,.int .i64 0,.bool false,.int .i64 (IntKind.wrap .i64 (A1 (G ks) (i*4)+Ta [.int .i64 (((C7 (G ks) (i*4+2):Nat):Int)),.int .i64 (A1 (G ks) (i*4+3))])),.slice true (.ro ks) 0 n,.int .i64 ((n:Int)),.int .i64 (IntKind.wrap .i64 ((i:Int)+1))] [some ⟨1,(Me ks n kp m s)⟩,some ⟨1,([.int .i64 (A1 (G ks) (i*4)),.int .i64 (A1 (G ks) (i*4+1)),.slice true (.ro (C8 (G ks) (i*4+2))) (E9 (G ks) (i*4+2)) (C7 (G ks) (i*4+2)),.int .i64 (A1 (G ks) (i*4+3))]:List AV)⟩])∧(((P0 .i64 (A1 (G ks) (i*4+1)) 4:Int)==0)=false→(decide ((s:Int)≥A1 (G ks) (i*4))=true→Q .normal [.ptr (.rw 0) 0,.int .i64 0,.bool (decide ((s:Int)<IntKind.wrap .i64 (A1 (G ks) (i*4)+Ta [.int .i64 (((C7 (G ks) (i*4+2):Nat):Int)),.int .i64 (A1 (G ks) (i*4+3))]))),.int .i64 (IntKind.wrap .i64 (A1 (G ks) (i*4)+Ta [.int .i64 (((C7 (G ks) (i*4+2):Nat):Int)),.int .i64 (A1 (G ks) (i*4+3))])),.slice true (.ro ks) 0 n,.int .i64 ((n:Int)),.int .i64 (IntKind.wrap .i64 ((i:Int)+1))] [some ⟨1,(Me ks n kp m s)⟩,some ⟨1,([.int .i64 (A1 (G ks) (i*4)),.int .i64 (A1 (G ks) (i*4+1)),.slice true (.ro (C8 (G ks) (i*4+2))) (E9 (G ks) (i*4+2)) (C7 (G ks) (i*4+2)),.int .i64 (A1 (G ks) (i*4+3))]:List AV)⟩])∧(decide ((s:Int)≥A1 (G ks) (i*4))=false→
 Q .normal [.ptr (.rw 0) 0,.int .i64 0,.bool false,.int .i64 (IntKind.wrap .i64 (A1 (G ks) (i*4)+Ta [.int .i64 (((C7 (G ks) (i*4+2):Nat):Int)),.int .i64 (A1 (G ks) (i*4+3))])),.slice true (.ro ks) 0 n,.int .i64 ((n:Int)),.int .i64 (IntKind.wrap .i64 ((i:Int)+1))] [some ⟨1,(Me ks n kp m s)⟩,some ⟨1,([.int .i64 (A1 (G ks) (i*4)),.int .i64 (A1 (G ks) (i*4+1)),.slice true (.ro (C8 (G ks) (i*4+2))) (E9 (G ks) (i*4+2)) (C7 (G ks) (i*4+2)),.int .i64 (A1 (G ks) (i*4+3))]:List AV)⟩])))))∧(Tx [.int .i64 (A1 (G ks) (i*4)),.int .i64 (A1 (G ks) (i*4+1)),.int .i64 (((C7 (G ks) (i*4+2):Nat):Int)),.int .i64 (A1 (G ks) (i*4+3))]=false→Q .ret [.ptr (.rw 0) 0,.int .i64 2,.bool w,.int .i64 y,.slice true (.ro ks) 0 n,.int .i64 ((n:Int)),.int .i64 ((i:Int))] [some ⟨1,(Me ks n kp m s)⟩,some ⟨1,([.int .i64 (A1 (G ks) (i*4)),.int .i64 (A1 (G ks) (i*4+1)),.slice true (.ro (C8 (G ks) (i*4+2))) (E9 (G ks) (i*4+2)) (C7 (G ks) (i*4+2)),.int .i64 (A1 (G ks) (i*4+3))]:List AV)⟩]))∧(decide (((i:Int):Int)<(n:Int))=false→Q (.exit 0) [.ptr (.rw 0) 0,.int .i64 0,.bool w,.int .i64 y,.slice true (.ro ks) 0 n,.int .i64 ((n:Int)),.int .i64 ((i:Int))] [some ⟨1,(Me ks n kp m s)⟩])):=by kernel_rfl
def Cr (ks:Nat) (n:Nat) (kp:Nat) (m:Nat) (s:Int):List AV:=[.int .i64 s,.slice true (.ro ks) 0 n,.slice true (.ro kp) 0 m]
theorem ma_b (ks n kp m:Nat) (s:Int) (w:Bool) (i:Nat) (Q:Ex→List AV→Hp→Prop) (R:AV→Hp→Prop):vT G Q R (G3 (Dc Try.prog [] progIb [] 1) 300 20 1 (A2 Try.f21 0) 130 [1,2,3,4] [.ptr (.rw 0) (.lit 0),.bool (.lit false),.bool (.var 9 w),.int .i64 (.ofN (.var 8 i))] [some ⟨1,.of [.int .i64 (.var 1 s),.slice true (.ro (.var 2 ks)) (.lit 0) (.var 3 n),.slice true (.ro (.var 4 kp)) (.lit 0) (.var 5 m)]⟩])=(
  (decide (((i:Int):Int)<(n:Int))=true→decide ((0:Int)≤(i:Int))=true∧decide (((i:Int):Int)<(n:Int))=true∧E5 (G ks) (i*4) [.int .i64,.int .i64,.sl,.int .i64]=true∧(Tx [.int .i64 (A1 (G ks) (i*4)),.int .i64 (A1 (G ks) (i*4+1)),.int .i64 (((C7 (G ks) (i*4+2):Nat):Int)),.int .i64 (A1 (G ks) (i*4+3))]=true→(decide (((i:Int):Int)>0)=true→decide ((0:Int)≤IntKind.wrap .i64 ((i:Int) - 1))=true∧decide ((IntKind.wrap .i64 ((i:Int) - 1):Int)<(n:Int))=true∧E5 (G ks) ((Int.toNat (IntKind.wrap .i64 ((i:Int) - 1)))*4) [.int .i64,.int .i64,.sl,.int .i64]=true∧(decide ((A1 (G ks) (i*4):Int)<upU [.int .i64 (A1 (G ks) ((Int.toNat (IntKind.wrap .i64 ((i:Int) - 1)))*4)),.int .i64 (((C7 (G ks) ((Int.toNat (IntKind.wrap .i64 ((i:Int) - 1)))*4+2):Nat):Int)),.int .i64 (A1 (G ks) ((Int.toNat (IntKind.wrap .i64 ((i:Int) - 1)))*4+3))])=true→Q .ret [.ptr (.rw 0) 0,.bool false,.bool w,.int .i64 ((i:Int))] [some ⟨1,(Cr ks n kp m s)⟩,some ⟨1,([.int .i64 (A1 (G ks) (i*4)),.int .i64 (A1 (G ks) (i*4+1)),.slice true (.ro (C8 (G ks) (i*4+2))) (E9 (G ks) (i*4+2)) (C7 (G ks) (i*4+2)),.int .i64 (A1 (G ks) (i*4+3))]:List AV)⟩])∧(decide ((A1 (G ks) (i*4):Int)<upU [.int .i64 (A1 (G ks) ((Int.toNat (IntKind.wrap .i64 ((i:Int) - 1)))*4)),.int .i64 (((C7 (G ks) ((Int.toNat (IntKind.wrap .i64 ((i:Int) - 1)))*4+2):Nat):Int)),.int .i64 (A1 (G ks) ((Int.toNat (IntKind.wrap .i64 ((i:Int) - 1)))*4+3))])=false→(w=true→
 Q .normal [.ptr (.rw 0) 0,.bool false,.bool true,.int .i64 (IntKind.wrap .i64 ((i:Int)+1))] [some ⟨1,(Cr ks n kp m s)⟩,some ⟨1,([.int .i64 (A1 (G ks) (i*4)),.int .i64 (A1 (G ks) (i*4+1)),.slice true (.ro (C8 (G ks) (i*4+2))) (E9 (G ks) (i*4+2)) (C7 (G ks) (i*4+2)),.int .i64 (A1 (G ks) (i*4+3))]:List AV)⟩])∧(w=false→(((P0 .i64 (A1 (G ks) (i*4+1)) 4:Int)==0)=true→Q .normal [.ptr (.rw 0) 0,.bool false,.bool false,.int .i64 (IntKind.wrap .i64 ((i:Int)+1))] [some ⟨1,(Cr ks n kp m s)⟩,some ⟨1,([.int .i64 (A1 (G ks) (i*4)),.int .i64 (A1 (G ks) (i*4+1)),.slice true (.ro (C8 (G ks) (i*4+2))) (E9 (G ks) (i*4+2)) (C7 (G ks) (i*4+2)),.int .i64 (A1 (G ks) (i*4+3))]:List AV)⟩])∧(((P0 .i64 (A1 (G ks) (i*4+1)) 4:Int)==0)=false→(decide ((s:Int)≥A1 (G ks) (i*4))=true→Q .normal [.ptr (.rw 0) 0,.bool false,.bool (decide ((s:Int)<IntKind.wrap .i64 (A1 (G ks) (i*4)+Ol [.int .i64 (((C7 (G ks) (i*4+2):Nat):Int)),.int .i64 (A1 (G ks) (i*4+3))]))),.int .i64 (IntKind.wrap .i64 ((i:Int)+1))] [some ⟨1,(Cr ks n kp m s)⟩,some ⟨1,([.int .i64 (A1 (G ks) (i*4)),.int .i64 (A1 (G ks) (i*4+1)),.slice true (.ro (C8 (G ks) (i*4+2))) (E9 (G ks) (i*4+2)) (C7 (G ks) (i*4+2)),.int .i64 (A1 (G ks) (i*4+3))]:List AV)⟩])∧(decide ((s:Int)≥A1 (G ks) (i*4))=false→Q .normal [.ptr (.rw 0) 0,.bool false,.bool false,.int .i64 (IntKind.wrap .i64 ((i:Int)+1))] [some ⟨1,(Cr ks n kp m s)⟩,some ⟨1,([.int .i64 (A1 (G ks) (i*4)),.int .i64 (A1 (G ks) (i*4+1)),.slice true (.ro (C8 (G ks) (i*4+2))) (E9 (G ks) (i*4+2)) (C7 (G ks) (i*4+2)),.int .i64 (A1 (G ks) (i*4+3))]:List AV)⟩])))))∧
 (decide (((i:Int):Int)>0)=false→(w=true→Q .normal [.ptr (.rw 0) 0,.bool false,.bool true,.int .i64 (IntKind.wrap .i64 ((i:Int)+1))] [some ⟨1,(Cr ks n kp m s)⟩,some ⟨1,([.int .i64 (A1 (G ks) (i*4)),.int .i64 (A1 (G ks) (i*4+1)),.slice true (.ro (C8 (G ks) (i*4+2))) (E9 (G ks) (i*4+2)) (C7 (G ks) (i*4+2)),.int .i64 (A1 (G ks) (i*4+3))]:List AV)⟩])∧(w=false→(((P0 .i64 (A1 (G ks) (i*4+1)) 4:Int)==0)=true→Q .normal [.ptr (.rw 0) 0,.bool false,.bool false,.int .i64 (IntKind.wrap .i64 ((i:Int)+1))] [some ⟨1,(Cr ks n kp m s)⟩,some ⟨1,([.int .i64 (A1 (G ks) (i*4)),.int .i64 (A1 (G ks) (i*4+1)),.slice true (.ro (C8 (G ks) (i*4+2))) (E9 (G ks) (i*4+2)) (C7 (G ks) (i*4+2)),.int .i64 (A1 (G ks) (i*4+3))]:List AV)⟩])∧(((P0 .i64 (A1 (G ks) (i*4+1)) 4:Int)==0)=false→(decide ((s:Int)≥A1 (G ks) (i*4))=true→Q .normal [.ptr (.rw 0) 0,.bool false,.bool (decide ((s:Int)<IntKind.wrap .i64 (A1 (G ks) (i*4)+Ol [.int .i64 (((C7 (G ks) (i*4+2):Nat):Int)),.int .i64 (A1 (G ks) (i*4+3))]))),.int .i64 (IntKind.wrap .i64 ((i:Int)+1))] [some ⟨1,(Cr ks n kp m s)⟩,some ⟨1,([.int .i64 (A1 (G ks) (i*4)),.int .i64 (A1 (G ks) (i*4+1)),.slice true (.ro (C8 (G ks) (i*4+2))) (E9 (G ks) (i*4+2)) (C7 (G ks) (i*4+2)),.int .i64 (A1 (G ks) (i*4+3))]:List AV)⟩])∧(decide ((s:Int)≥A1 (G ks) (i*4))=false→
 Q .normal [.ptr (.rw 0) 0,.bool false,.bool false,.int .i64 (IntKind.wrap .i64 ((i:Int)+1))] [some ⟨1,(Cr ks n kp m s)⟩,some ⟨1,([.int .i64 (A1 (G ks) (i*4)),.int .i64 (A1 (G ks) (i*4+1)),.slice true (.ro (C8 (G ks) (i*4+2))) (E9 (G ks) (i*4+2)) (C7 (G ks) (i*4+2)),.int .i64 (A1 (G ks) (i*4+3))]:List AV)⟩])))))∧(Tx [.int .i64 (A1 (G ks) (i*4)),.int .i64 (A1 (G ks) (i*4+1)),.int .i64 (((C7 (G ks) (i*4+2):Nat):Int)),.int .i64 (A1 (G ks) (i*4+3))]=false→Q .ret [.ptr (.rw 0) 0,.bool false,.bool w,.int .i64 ((i:Int))] [some ⟨1,(Cr ks n kp m s)⟩,some ⟨1,([.int .i64 (A1 (G ks) (i*4)),.int .i64 (A1 (G ks) (i*4+1)),.slice true (.ro (C8 (G ks) (i*4+2))) (E9 (G ks) (i*4+2)) (C7 (G ks) (i*4+2)),.int .i64 (A1 (G ks) (i*4+3))]:List AV)⟩]))∧(decide (((i:Int):Int)<(n:Int))=false→Q (.exit 0) [.ptr (.rw 0) 0,.bool false,.bool w,.int .i64 ((i:Int))] [some ⟨1,(Cr ks n kp m s)⟩])):=by kernel_rfl
end
end Go.Am
