/-
  Images: a section, a place: which may be, how great they are. Images: in which section a place lies.
-/
import Derived.Test.YthejjolnlngahaaBase5
import Derived.Test.YthejjolnlngahaaProg
import Derived.Test.YthejjolnlngahaaBase6
namespace Go.Am
open Go.Proofs
set_option maxRecDepth 100000
theorem O1 (G:Nat→List AV) (B:Nat):((⟨Try.prog,G,B⟩:A2):A2).P.follows .mixedOrders=true:=by kernel_rfl
theorem G5 (n:Nat):((n:Int)).toNat=n:=Int.toNat_natCast n
def cH (n:Nat) (z:Int):Int:=IntKind.i64.wrap ((n:Int)+z)
def Ep (a r:Int) (n:Nat) (z:Int):Bool:=(decide (0≤z)&&(decide (z≤8192)&&decide (n≤8192)))&&((decide (0≤a)&&(decide (a≤8192)&&decide (a % 256=0)))&&((decide (1≤r)&&decide (r≤7))&&(decide (1≤(n:Int)+z)&&decide (a+(n+z)≤8192))))
def Kh (n:Nat) (z:Int):Int:=if 0≤z∧z≤8192∧n≤8192 then (n:Int)+z else -1
def W9 (h:Bool):Int:=if h then 2 else 4
def Nv:List AV→Int:=fun xs=>match xs with
 | [.int _ n,.int _ z]=>cH n.toNat z
 | _=>0
def Ok:List AV→Bool:=fun xs=>match xs with
 | [.int _ a,.int _ r,.int _ n,.int _ z]=>Ep a r n.toNat z
 | _=>false
def Kg:List AV→Int:=fun xs=>match xs with
 | [.int _ n,.int _ z]=>Kh n.toNat z
 | _=>0
def Od:List AV→Int:=fun xs=>match xs with
 | [.bool h]=>W9 h
 | _=>0
def slN:EV→Option EN
 | .slice _ _ _ n=>some n
 | .nils=>some (.lit 0)
 | _=>none
theorem t44 (G:Nat→List AV) (a r z:Int) (n:Nat) (Q:Ex→List AV→Hp→Prop) (R:AV→Hp→Prop):vT G Q R (G6 (Dc Try.prog [] [] [] 0) 100 20 Try.f44 [.agg (.of [.int .i64 (.var 1 a),.int .i64 (.var 2 r),.slice true (.ro (.lit 0)) (.lit 0) (.var 3 n),.int .i64 (.var 4 z)])] [] 0)=(
  R (.int .i64 (IntKind.wrap .i64 (((n:Nat):Int)+z))) []):=by kernel_rfl
theorem t35 (G:Nat→List AV) (x:Int) (h:Bool) (Q:Ex→List AV→Hp→Prop) (R:AV→Hp→Prop):vT G Q R (G6 (Dc Try.prog [] [] [] 0) 100 20 Try.f35 [.agg (.of [.int .i64 (.var 1 x),.bool (.var 2 h)])] [] 0)=(
  (h=true→R (.int .i64 (2)) [])∧(h=false→R (.int .i64 (4)) [])):=by kernel_rfl
theorem t38 (G:Nat→List AV) (x:Int) (h:Bool) (Q:Ex→List AV→Hp→Prop) (R:AV→Hp→Prop):vT G Q R (G6 (Dc Try.prog [] [] [] 0) 100 20 Try.f38 [.agg (.of [.int .i64 (.var 1 x),.bool (.var 2 h)])] [] 0)=(
  (h=true→R (.int .i64 (2)) [])∧(h=false→R (.int .i64 (4)) [])):=by kernel_rfl
theorem t47 (G:Nat→List AV) (a r z:Int) (n:Nat) (Q:Ex→List AV→Hp→Prop) (R:AV→Hp→Prop):vT G Q R (G6 (Dc Try.prog [] [] [] 0) 100 20 Try.f47 [.agg (.of [.int .i64 (.var 1 a),.int .i64 (.var 2 r),.slice true (.ro (.lit 0)) (.lit 0) (.var 3 n),.int .i64 (.var 4 z)])] [] 0)=(
  (decide ((z:Int)<0)=true→R (.int .i64 ((-1))) [])∧(decide ((z:Int)<0)=false→(decide ((z:Int)>8192)=true→R (.int .i64 ((-1))) [])∧(decide ((z:Int)>8192)=false→(decide ((((n:Nat):Int):Int)>8192)=true→R (.int .i64 ((-1))) [])∧(decide ((((n:Nat):Int):Int)>8192)=false→R (.int .i64 (IntKind.wrap .i64 (((n:Nat):Int)+z))) [])))):=by kernel_rfl
section
variable {C:A2}
theorem E0.sec {f:FuncId} {a r z:EI} {sl:EV} {n:EN} {H:DHp} {v:EV} (hs:slN sl=some n) (h:∀ B,ACalls ⟨C.P,fun _=>[],B⟩ f [.agg [.int .i64 (vI C.G a),.int .i64 (vI C.G r),.slice true (.ro 0) 0 (vN C.G n),.int .i64 (vI C.G z)]] [] fun v' _=>v'=vV C.G v) (hv:A8 0 (vV C.G v)=true∧O0 (vV C.G v)=true):E0 C f [.agg (.of [.int .i64 a,.int .i64 r,sl,.int .i64 z])] H v []:=by
 obtain ⟨rr,oo,hw⟩:∃ (rr:Ref) (oo:Nat),∀ (ρ:Env) cv,VR ρ (vV C.G sl) cv→VR ρ (.slice true rr oo (vN C.G n)) cv:=by
  unfold slN at hs;split at hs
  ·simp only [Option.some.injEq] at hs;subst hs;rename_i mb r' o' n';exact ⟨vR C.G r',vN C.G o',fun ρ cv hv=>by simp only [vV] at hv;exact N3 hv⟩
  ·simp only [Option.some.injEq] at hs;subst hs;exact ⟨.ro 0,0,fun ρ cv hv=>Hu _ _ (by simpa only [vV] using hv)⟩
  ·simp at hs
 refine E0.rdN (σ:=fun _=>(rr,oo)) (G':=fun _=>[]) (args0:=[.agg [.int .i64 (vI C.G a),.int .i64 (vI C.G r),.slice true (.ro 0) 0 (vN C.G n),.int .i64 (vI C.G z)]]) (fun k=>.inl rfl) rfl (fun ρ vs hvs=>?_) (fun B=>h B) hv;simp only [vVs,vV,vL,sbs,sb,VRs,VR] at hvs ⊢;obtain ⟨v,vs',e,⟨ws,e2,w1,t1,e3,q1,w2,t2,e4,q2,w3,t3,e5,q3,w4,t4,e6,q4,q5⟩,q6⟩:=hvs;exact ⟨v,vs',e,⟨ws,e2,w1,t1,e3,q1,w2,t2,e4,q2,w3,t3,e5,by have:=hw ρ w3 q3;simpa only [VR,Nat.add_zero] using this,w4,t4,e6,q4,q5⟩,q6⟩
theorem E0.plc {f:FuncId} {x:EI} {b:EB} {H:DHp} {v:EV} (h:∀ B,ACalls ⟨C.P,fun _=>[],B⟩ f [.agg [.int .i64 (vI C.G x),.bool (vB C.G b)]] [] fun v' _=>v'=vV C.G v) (hv:A8 0 (vV C.G v)=true∧O0 (vV C.G v)=true):E0 C f [.agg (.of [.int .i64 x,.bool b])] H v []:=
 E0.rdN (σ:=fun _=>(.ro 0,0)) (G':=fun _=>[]) (args0:=[.agg [.int .i64 (vI C.G x),.bool (vB C.G b)]]) (fun k=>.inl rfl) rfl (fun ρ vs hvs=>hvs) (fun B=>h B) hv
end
theorem dgI (G:Nat→List AV) (B:Nat) (M:Nat):DGood (⟨Try.prog,G,B⟩:A2) (Dc Try.prog [] [] [] M) []:=D3 (O1 G B) (by kernel_rfl) .nil .nil
theorem wT (G:Nat→List AV) (B:Nat) (a r z:Int) (n:Nat):ACalls (⟨Try.prog,G,B⟩:A2) 44 [.agg [.int .i64 a,.int .i64 r,.slice true (.ro 0) 0 n,.int .i64 z]] [] fun v _=>v=.int .i64 (cH n z):=by
 have:=C7 (C:=(⟨Try.prog,G,B⟩:A2)) (fuel:=100) (n0:=20) (f:=44) (fn:=Try.f44) (args:=[.agg (.of [.int .i64 (.var 1 a),.int .i64 (.var 2 r),.slice true (.ro (.lit 0)) (.lit 0) (.var 3 n),.int .i64 (.var 4 z)])]) (H:=[]) (keep:=0)
  (R:=fun v _=>v=.int .i64 (cH n z)) (by rw [show loopsOf (B4 Try.f44)=[] by kernel_rfl];exact dgI G B 0) (by kernel_rfl) (by kernel_rfl) (by kernel_rfl) (by
  rw [t44 G a r z n];rfl)
 exact this.monoK fun v H' h=>h
theorem wM (G:Nat→List AV) (B:Nat) (x:Int) (h:Bool):ACalls (⟨Try.prog,G,B⟩:A2) 35 [.agg [.int .i64 x,.bool h]] [] fun v _=>v=.int .i64 (W9 h):=by
 have:=C7 (C:=(⟨Try.prog,G,B⟩:A2)) (fuel:=100) (n0:=20) (f:=35) (fn:=Try.f35) (args:=[.agg (.of [.int .i64 (.var 1 x),.bool (.var 2 h)])]) (H:=[]) (keep:=0)
  (R:=fun v _=>v=.int .i64 (W9 h)) (by rw [show loopsOf (B4 Try.f35)=[] by kernel_rfl];exact dgI G B 0) (by kernel_rfl) (by kernel_rfl) (by kernel_rfl) (by
  rw [t35 G x h];cases h<;>simp [W9])
 exact this.monoK fun v H' h=>h
theorem qL (G:Nat→List AV) (B:Nat) (x:Int) (h:Bool):ACalls (⟨Try.prog,G,B⟩:A2) 38 [.agg [.int .i64 x,.bool h]] [] fun v _=>v=.int .i64 (W9 h):=by
 have:=C7 (C:=(⟨Try.prog,G,B⟩:A2)) (fuel:=100) (n0:=20) (f:=38) (fn:=Try.f38) (args:=[.agg (.of [.int .i64 (.var 1 x),.bool (.var 2 h)])]) (H:=[]) (keep:=0)
  (R:=fun v _=>v=.int .i64 (W9 h)) (by rw [show loopsOf (B4 Try.f38)=[] by kernel_rfl];exact dgI G B 0) (by kernel_rfl) (by kernel_rfl) (by kernel_rfl) (by
  rw [t38 G x h];cases h<;>simp [W9])
 exact this.monoK fun v H' h=>h
theorem rN (G:Nat→List AV) (B:Nat) (a r z:Int) (n:Nat):ACalls (⟨Try.prog,G,B⟩:A2) 47 [.agg [.int .i64 a,.int .i64 r,.slice true (.ro 0) 0 n,.int .i64 z]] [] fun v _=>v=.int .i64 (Kh n z):=by
 have:=C7 (C:=(⟨Try.prog,G,B⟩:A2)) (fuel:=100) (n0:=20) (f:=47) (fn:=Try.f47) (args:=[.agg (.of [.int .i64 (.var 1 a),.int .i64 (.var 2 r),.slice true (.ro (.lit 0)) (.lit 0) (.var 3 n),.int .i64 (.var 4 z)])]) (H:=[]) (keep:=0)
  (R:=fun v _=>v=.int .i64 (Kh n z)) (by rw [show loopsOf (B4 Try.f47)=[] by kernel_rfl];exact dgI G B 0) (by kernel_rfl) (by kernel_rfl) (by kernel_rfl) (by
  rw [t47 G a r z n];unfold Kh;refine ⟨fun h1=>?_,fun h1=>⟨fun h2=>?_,fun h2=>⟨fun h3=>?_,fun h3=>?_⟩⟩⟩
  ·have:=of_decide_eq_true h1;rw [if_neg (by omega)]
  ·have:=of_decide_eq_true h2;rw [if_neg (by omega)]
  ·have:=of_decide_eq_true h3;rw [if_neg (by omega)]
  ·have h1:=of_decide_eq_false h1;have h2:=of_decide_eq_false h2;have h3:=of_decide_eq_false h3
   rw [if_pos (by omega),C4 (by omega)])
 exact this.monoK fun v H' h=>h
def szS:DSum:=fun args _=>match args with
 | [.agg (.of [.int .i64 _,.int .i64 _,sl,.int .i64 z])]=>match slN sl with
  | some n=>some (.one (.int .i64 (.uf 1701 Nv [.int .i64 (.ofN n),.int .i64 z])) [])
  | none=>none
 | _=>none
theorem zT (G:Nat→List AV) (B:Nat):C5 (⟨Try.prog,G,B⟩:A2) 44 szS:=by
 intro args H o ho;unfold szS at ho;split at ho
 ·rename_i a r sl z;split at ho
  ·rename_i n hs;simp only [Option.some.injEq] at ho;subst ho;refine E0.sec (C:=(⟨Try.prog,G,B⟩:A2)) hs (fun B'=>?_) ⟨rfl,rfl⟩;refine (wT (fun _=>[]) B' _ _ _ _).monoK fun v _ e=>?_;rw [e];simp only [vV,vI,vVs,vN,Nv,G5]
  ·simp at ho
 ·simp at ho
def rszS:DSum:=fun args _=>match args with
 | [.agg (.of [.int .i64 _,.int .i64 _,sl,.int .i64 z])]=>match slN sl with
  | some n=>some (.one (.int .i64 (.uf 1703 Kg [.int .i64 (.ofN n),.int .i64 z])) [])
  | none=>none
 | _=>none
theorem xI (G:Nat→List AV) (B:Nat):C5 (⟨Try.prog,G,B⟩:A2) 47 rszS:=by
 intro args H o ho;unfold rszS at ho;split at ho
 ·rename_i a r sl z;split at ho
  ·rename_i n hs;simp only [Option.some.injEq] at ho;subst ho;refine E0.sec (C:=(⟨Try.prog,G,B⟩:A2)) hs (fun B'=>?_) ⟨rfl,rfl⟩;refine (rN (fun _=>[]) B' _ _ _ _).monoK fun v _ e=>?_;rw [e];simp only [vV,vI,vVs,vN,Kg,G5]
  ·simp at ho
 ·simp at ho
def wdS:DSum:=fun args _=>match args with
 | [.agg (.of [.int .i64 _,.bool b])]=>some (.one (.int .i64 (.uf 1704 Od [.bool b])) [])
 | _=>none
theorem mS (G:Nat→List AV) (B:Nat) {f:Nat} (h:∀ (G:Nat→List AV) (B:Nat) (x:Int) (h:Bool),ACalls (⟨Try.prog,G,B⟩:A2) f [.agg [.int .i64 x,.bool h]] [] fun v _=>v=.int .i64 (W9 h)):C5 (⟨Try.prog,G,B⟩:A2) f wdS:=by
 intro args H o ho;unfold wdS at ho;split at ho
 ·simp only [Option.some.injEq] at ho;subst ho;exact E0.plc (C:=(⟨Try.prog,G,B⟩:A2)) (fun B'=>h _ B' _ _) ⟨rfl,rfl⟩
 ·simp at ho
def progIa:List (Nat×DSum):=(44,szS)::(47,rszS)::(35,wdS)::(38,wdS)::[]
theorem Jk (G:Nat→List AV) (B:Nat):P6 (⟨Try.prog,G,B⟩:A2) progIa:=.cons (zT G B) (.cons (xI G B) (.cons (mS G B fun G B x h=>wM G B x h) (.cons (mS G B fun G B x h=>qL G B x h) .nil)))
theorem t43 (G:Nat→List AV) (a r z:Int) (n:Nat) (Q:Ex→List AV→Hp→Prop) (R:AV→Hp→Prop):vT G Q R (G6 (Dc Try.prog [] progIa [] 0) 100 20 Try.f43 [.agg (.of [.int .i64 (.var 1 a),.int .i64 (.var 2 r),.slice true (.ro (.lit 0)) (.lit 0) (.var 3 n),.int .i64 (.var 4 z)])] [] 0)=(
  (decide ((z:Int)<0)=true→R (.bool (false)) [])∧(decide ((z:Int)<0)=false→(decide ((z:Int)>8192)=true→R (.bool (false)) [])∧(decide ((z:Int)>8192)=false→(decide ((((n:Nat):Int):Int)>8192)=true→R (.bool (false)) [])∧(decide ((((n:Nat):Int):Int)>8192)=false→(decide ((a:Int)<0)=true→R (.bool (false)) [])∧(decide ((a:Int)<0)=false→(decide ((a:Int)>8192)=true→R (.bool (false)) [])∧(decide ((a:Int)>8192)=false→(((Int.tmod (a) (256):Int)==0)=true→(decide ((r:Int)≥1)=true→(decide ((r:Int)≤7)=true→(decide ((Nv [.int .i64 (((n:Nat):Int)),.int .i64 (z)]:Int)≥1)=true→R (.bool (decide ((IntKind.wrap .i64 (a+Nv [.int .i64 (((n:Nat):Int)),.int .i64 (z)]):Int)≤8192))) [])∧(decide ((Nv [.int .i64 (((n:Nat):Int)),.int .i64 (z)]:Int)≥1)=false→R (.bool (false)) []))∧(decide ((r:Int)≤7)=false→R (.bool (false)) []))∧(decide ((r:Int)≥1)=false→R (.bool (false)) []))∧(((Int.tmod (a) (256):Int)==0)=false→R (.bool (false)) []))))))):=by kernel_rfl
theorem t45 (G:Nat→List AV) (a r z:Int) (n:Nat) (Q:Ex→List AV→Hp→Prop) (R:AV→Hp→Prop):vT G Q R (G6 (Dc Try.prog [] progIa [] 0) 100 20 Try.f45 [.agg (.of [.int .i64 (.var 1 a),.int .i64 (.var 2 r),.slice true (.ro (.lit 0)) (.lit 0) (.var 3 n),.int .i64 (.var 4 z)])] [] 0)=(
  (decide ((a:Int)≥0)=true→(decide ((a:Int)≤8192)=true→(((Int.tmod (a) (256):Int)==0)=true→(decide ((r:Int)≥1)=true→(decide ((r:Int)≤7)=true→(decide ((Kg [.int .i64 (((n:Nat):Int)),.int .i64 (z)]:Int)≥1)=true→R (.bool (decide ((Kg [.int .i64 (((n:Nat):Int)),.int .i64 (z)]:Int)≤IntKind.wrap .i64 (8192 - a)))) [])∧(decide ((Kg [.int .i64 (((n:Nat):Int)),.int .i64 (z)]:Int)≥1)=false→R (.bool (false)) []))∧(decide ((r:Int)≤7)=false→R (.bool (false)) []))∧(decide ((r:Int)≥1)=false→R (.bool (false)) []))∧(((Int.tmod (a) (256):Int)==0)=false→R (.bool (false)) []))∧(decide ((a:Int)≤8192)=false→R (.bool (false)) []))∧(decide ((a:Int)≥0)=false→R (.bool (false)) [])):=by kernel_rfl
theorem t46 (G:Nat→List AV) (a r z:Int) (n:Nat) (Q:Ex→List AV→Hp→Prop) (R:AV→Hp→Prop):vT G Q R (G6 (Dc Try.prog [] progIa [] 0) 100 20 Try.f46 [.agg (.of [.int .i64 (.var 1 a),.int .i64 (.var 2 r),.slice true (.ro (.lit 0)) (.lit 0) (.var 3 n),.int .i64 (.var 4 z)])] [] 0)=(
  R (.int .i64 (IntKind.wrap .i64 (IntKind.wrap .i64 (Int.tdiv (IntKind.wrap .i64 (IntKind.wrap .i64 (IntKind.wrap .i64 (a+Kg [.int .i64 (((n:Nat):Int)),.int .i64 (z)])+256) - 1)) (256))*256))) []):=by kernel_rfl
theorem N7 {a r z:Int} {n:Nat}:Ep a r n z=true↔(0≤z∧z≤8192∧n≤8192)∧(0≤a∧a≤8192∧a % 256=0)∧(1≤r∧r≤7)∧1≤(n:Int)+z∧a+(n+z)≤8192:=by
 simp only [Ep,Bool.and_eq_true,decide_eq_true_eq]
theorem R7 {a r z:Int} {n:Nat} (h:¬((0≤z∧z≤8192∧n≤8192)∧(0≤a∧a≤8192∧a % 256=0)∧(1≤r∧r≤7)∧1≤(n:Int)+z∧a+(n+z)≤8192)):Ep a r n z=false:=by
 cases e:Ep a r n z with
 | false=>rfl
 | true=>exact absurd (N7.1 e) h
theorem mZ {n:Nat} {z:Int}:Nv [.int .i64 (n:Int),.int .i64 z]=cH n z:=by simp only [Nv,G5]
theorem Xh {n:Nat} {z:Int}:Kg [.int .i64 (n:Int),.int .i64 z]=Kh n z:=by simp only [Kg,G5]
theorem hU {a:Int} (h:0≤a):((Int.tmod a 256:Int)==0)=decide (a % 256=0):=by
 rw [Int.tmod_eq_emod_of_nonneg h,Bool.eq_iff_iff,beq_iff_eq,decide_eq_true_iff]
theorem rA (G:Nat→List AV) (B:Nat) (a r z:Int) (n:Nat):ACalls (⟨Try.prog,G,B⟩:A2) 43 [.agg [.int .i64 a,.int .i64 r,.slice true (.ro 0) 0 n,.int .i64 z]] [] fun v _=>v=.bool (Ep a r n z):=by
 have:=C7 (C:=(⟨Try.prog,G,B⟩:A2)) (fuel:=100) (n0:=20) (f:=43) (fn:=Try.f43) (args:=[.agg (.of [.int .i64 (.var 1 a),.int .i64 (.var 2 r),.slice true (.ro (.lit 0)) (.lit 0) (.var 3 n),.int .i64 (.var 4 z)])]) (H:=[]) (keep:=0)
  (R:=fun v _=>v=.bool (Ep a r n z)) (by rw [show loopsOf (B4 Try.f43)=[] by kernel_rfl];exact D3 (inl:=[]) (ls:=[]) (M:=0) (O1 G B) (by kernel_rfl) (Jk G B) .nil) (by kernel_rfl) (by kernel_rfl) (by kernel_rfl) (by
  rw [t43 G a r z n,mZ];refine ⟨fun h1=>?_,fun h1=>⟨fun h2=>?_,fun h2=>⟨fun h3=>?_,fun h3=>⟨fun h4=>?_,fun h4=>⟨fun h5=>?_,fun h5=>?_⟩⟩⟩⟩⟩
  ·have:=of_decide_eq_true h1;rw [R7 (by omega)]
  ·have:=of_decide_eq_true h2;rw [R7 (by omega)]
  ·have:=of_decide_eq_true h3;rw [R7 (by omega)]
  ·have:=of_decide_eq_true h4;rw [R7 (by omega)]
  ·have:=of_decide_eq_true h5;rw [R7 (by omega)]
  ·have h1:=of_decide_eq_false h1;have h2:=of_decide_eq_false h2;have h3:=of_decide_eq_false h3;have h4:=of_decide_eq_false h4;have h5:=of_decide_eq_false h5;have e:cH n z=(n:Int)+z:=C4 (by omega);rw [e,C4 (by omega),hU (by omega)];refine ⟨fun h6=>⟨fun h7=>⟨fun h8=>⟨fun h9=>?_,fun h9=>?_⟩,fun h8=>?_⟩,fun h7=>?_⟩,fun h6=>?_⟩
   ·have h6:=of_decide_eq_true h6;have h7:=of_decide_eq_true h7;have h8:=of_decide_eq_true h8;have h9:=of_decide_eq_true h9;congr 1;rw [Bool.eq_iff_iff,decide_eq_true_iff,N7];omega
   ·have:=of_decide_eq_false h9;rw [R7 (by omega)]
   ·have:=of_decide_eq_false h8;rw [R7 (by omega)]
   ·have:=of_decide_eq_false h7;rw [R7 (by omega)]
   ·have:=of_decide_eq_false h6;rw [R7 (by omega)])
 exact this.monoK fun v H' h=>h
theorem nQ (G:Nat→List AV) (B:Nat) (a r z:Int) (n:Nat):ACalls (⟨Try.prog,G,B⟩:A2) 45 [.agg [.int .i64 a,.int .i64 r,.slice true (.ro 0) 0 n,.int .i64 z]] [] fun v _=>v=.bool (Ep a r n z):=by
 have:=C7 (C:=(⟨Try.prog,G,B⟩:A2)) (fuel:=100) (n0:=20) (f:=45) (fn:=Try.f45) (args:=[.agg (.of [.int .i64 (.var 1 a),.int .i64 (.var 2 r),.slice true (.ro (.lit 0)) (.lit 0) (.var 3 n),.int .i64 (.var 4 z)])]) (H:=[]) (keep:=0)
  (R:=fun v _=>v=.bool (Ep a r n z)) (by rw [show loopsOf (B4 Try.f45)=[] by kernel_rfl];exact D3 (inl:=[]) (ls:=[]) (M:=0) (O1 G B) (by kernel_rfl) (Jk G B) .nil) (by kernel_rfl) (by kernel_rfl) (by kernel_rfl) (by
  rw [t45 G a r z n,Xh];have hr:Kh n z=if 0≤z∧z≤8192∧n≤8192 then (n:Int)+z else -1:=rfl
  refine ⟨fun h1=>⟨fun h2=>?_,fun h2=>?_⟩,fun h1=>?_⟩
  ·have h1:=of_decide_eq_true h1;have h2:=of_decide_eq_true h2;rw [hU (by omega),C4 (by omega)];refine ⟨fun h6=>⟨fun h7=>⟨fun h8=>⟨fun h9=>?_,fun h9=>?_⟩,fun h8=>?_⟩,fun h7=>?_⟩,fun h6=>?_⟩
   ·have h6:=of_decide_eq_true h6;have h7:=of_decide_eq_true h7;have h8:=of_decide_eq_true h8;have h9:=of_decide_eq_true h9;congr 1;rw [Bool.eq_iff_iff,decide_eq_true_iff,N7];split at hr<;>omega
   ·have:=of_decide_eq_false h9
    rw [R7 (by split at hr<;>omega)]
   ·have:=of_decide_eq_false h8;rw [R7 (by omega)]
   ·have:=of_decide_eq_false h7;rw [R7 (by omega)]
   ·have:=of_decide_eq_false h6;rw [R7 (by omega)]
  ·have:=of_decide_eq_false h2;rw [R7 (by omega)]
  ·have:=of_decide_eq_false h1;rw [R7 (by omega)])
 exact this.monoK fun v H' h=>h
def upF (a:Int) (n:Nat) (z:Int):Int:=IntKind.wrap .i64 (IntKind.wrap .i64 (Int.tdiv (IntKind.wrap .i64 (IntKind.wrap .i64 (IntKind.wrap .i64 (a+Kh n z)+256) - 1)) 256)*256)
theorem zH {a r z:Int} {n:Nat} (h:Ep a r n z=true):upF a n z=(a+n+z+255) / 256*256:=by
 have h:=N7.1 h;have e:Kh n z=(n:Int)+z:=if_pos ⟨by omega,by omega,by omega⟩;unfold upF;rw [e,C4 (n:=a+(n+z)) (by omega),C4 (n:=a+(n+z)+256) (by omega),C4 (n:=a+(n+z)+256 - 1) (by omega),Int.tdiv_eq_ediv_of_nonneg (by omega),C4 (n:=(a+(n+z)+256 - 1) / 256) (by omega),C4 (by omega)];congr 2;omega
theorem wO (G:Nat→List AV) (B:Nat) (a r z:Int) (n:Nat):ACalls (⟨Try.prog,G,B⟩:A2) 46 [.agg [.int .i64 a,.int .i64 r,.slice true (.ro 0) 0 n,.int .i64 z]] [] fun v _=>v=.int .i64 (upF a n z):=by
 have:=C7 (C:=(⟨Try.prog,G,B⟩:A2)) (fuel:=100) (n0:=20) (f:=46) (fn:=Try.f46) (args:=[.agg (.of [.int .i64 (.var 1 a),.int .i64 (.var 2 r),.slice true (.ro (.lit 0)) (.lit 0) (.var 3 n),.int .i64 (.var 4 z)])]) (H:=[]) (keep:=0)
  (R:=fun v _=>v=.int .i64 (upF a n z)) (by rw [show loopsOf (B4 Try.f46)=[] by kernel_rfl];exact D3 (inl:=[]) (ls:=[]) (M:=0) (O1 G B) (by kernel_rfl) (Jk G B) .nil) (by kernel_rfl) (by kernel_rfl) (by kernel_rfl) (by
  rw [t46 G a r z n,Xh];rfl)
 exact this.monoK fun v H' h=>h
def upU:List AV→Int:=fun xs=>match xs with
 | [.int _ a,.int _ n,.int _ z]=>upF a n.toNat z
 | _=>0
def secS:DSum:=fun args _=>match args with
 | [.agg (.of [.int .i64 a,.int .i64 r,sl,.int .i64 z])]=>match slN sl with
  | some n=>some (.one (.bool (.uf 1702 Ok [.int .i64 a,.int .i64 r,.int .i64 (.ofN n),.int .i64 z])) [])
  | none=>none
 | _=>none
theorem iG (G:Nat→List AV) (B:Nat) {f:Nat} (h:∀ (G:Nat→List AV) (B:Nat) (a r z:Int) (n:Nat),ACalls (⟨Try.prog,G,B⟩:A2) f [.agg [.int .i64 a,.int .i64 r,.slice true (.ro 0) 0 n,.int .i64 z]] [] fun v _=>v=.bool (Ep a r n z)):C5 (⟨Try.prog,G,B⟩:A2) f secS:=by
 intro args H o ho;unfold secS at ho;split at ho
 ·rename_i a r sl z;split at ho
  ·rename_i n hs;simp only [Option.some.injEq] at ho;subst ho;refine E0.sec (C:=(⟨Try.prog,G,B⟩:A2)) hs (fun B'=>?_) ⟨rfl,rfl⟩;refine (h (fun _=>[]) B' _ _ _ _).monoK fun v _ e=>?_;rw [e];simp only [vV,vI,vB,vVs,vN,Ok,G5]
  ·simp at ho
 ·simp at ho
def upS:DSum:=fun args _=>match args with
 | [.agg (.of [.int .i64 a,.int .i64 _,sl,.int .i64 z])]=>match slN sl with
  | some n=>some (.one (.int .i64 (.uf 1705 upU [.int .i64 a,.int .i64 (.ofN n),.int .i64 z])) [])
  | none=>none
 | _=>none
theorem zJ (G:Nat→List AV) (B:Nat):C5 (⟨Try.prog,G,B⟩:A2) 46 upS:=by
 intro args H o ho;unfold upS at ho;split at ho
 ·rename_i a r sl z;split at ho
  ·rename_i n hs;simp only [Option.some.injEq] at ho;subst ho;refine E0.sec (C:=(⟨Try.prog,G,B⟩:A2)) hs (fun B'=>?_) ⟨rfl,rfl⟩;refine (wO (fun _=>[]) B' _ _ _ _).monoK fun v _ e=>?_;rw [e];simp only [vV,vI,vVs,vN,upU,G5]
  ·simp at ho
 ·simp at ho
def progIb:List (Nat×DSum):=(43,secS)::(45,secS)::(46,upS)::progIa
theorem Ga (G:Nat→List AV) (B:Nat):P6 (⟨Try.prog,G,B⟩:A2) progIb:=.cons (iG G B fun G B a r z n=>rA G B a r z n) (.cons (iG G B fun G B a r z n=>nQ G B a r z n) (.cons (zJ G B) (Jk G B)))
end Go.Am
namespace Go.Am
open Go.Proofs
set_option maxRecDepth 100000
theorem dt_b (G:Nat→List AV) (ks n:Nat) (x:Int) (h:Bool) (i:Nat) (Q:Ex→List AV→Hp→Prop) (R:AV→Hp→Prop):vT G Q R (E8 (Dc Try.prog [] progIb [] 1) 300 20 1 (A5 Try.f34 0) 42 [0,3,4,8,9] [.slice true (.ro (.var 2 ks)) (.lit 0) (.var 3 n),.ptr (.rw 0) (.lit 0),.nilp,.int .i64 (.ofN (.var 3 n)),.int .i64 (.ofN (.var 8 i))] [some ⟨1,.of [.int .i64 (.var 6 x),.bool (.var 7 h)]⟩])=(
  (decide ((((i:Nat):Int):Int)<((n:Nat):Int))=true→decide ((0:Int)≤((i:Nat):Int))=true∧decide ((((i:Nat):Int):Int)<((n:Nat):Int))=true∧isI .i64 (G (ks)) ((i)*4)=true∧(decide ((x:Int)≥A0 (G (ks)) ((i)*4))=true→isI .i64 (G (ks)) ((i)*4)=true∧Gt (G (ks)) ((i)*4+2)=true∧(decide ((IntKind.wrap .i64 (x - A0 (G (ks)) ((i)*4)):Int)≤IntKind.wrap .i64 (((B9 (G (ks)) ((i)*4+2):Nat):Int) - Od [.bool (h)]))=true→Q .ret [.slice true (.ro (ks)) (0) (n),.ptr (.rw 0) (0),.ptr (.ro (ks)) ((i)*4),.int .i64 (((n:Nat):Int)),.int .i64 (((i:Nat):Int))] [some ⟨1,([.int .i64 (x),.bool (h)]:List AV)⟩])∧(decide ((IntKind.wrap .i64 (x - A0 (G (ks)) ((i)*4)):Int)≤IntKind.wrap .i64 (((B9 (G (ks)) ((i)*4+2):Nat):Int) - Od [.bool (h)]))=false→Q .normal [.slice true (.ro (ks)) (0) (n),.ptr (.rw 0) (0),.nilp,.int .i64 (((n:Nat):Int)),.int .i64 (IntKind.wrap .i64 (((i:Nat):Int)+1))] [some ⟨1,([.int .i64 (x),.bool (h)]:List AV)⟩]))∧(decide ((x:Int)≥A0 (G (ks)) ((i)*4))=false→Q .normal [.slice true (.ro (ks)) (0) (n),.ptr (.rw 0) (0),.nilp,.int .i64 (((n:Nat):Int)),.int .i64 (IntKind.wrap .i64 (((i:Nat):Int)+1))] [some ⟨1,([.int .i64 (x),.bool (h)]:List AV)⟩]))∧(decide ((((i:Nat):Int):Int)<((n:Nat):Int))=false→Q (.exit 0) [.slice true (.ro (ks)) (0) (n),.ptr (.rw 0) (0),.nilp,.int .i64 (((n:Nat):Int)),.int .i64 (((i:Nat):Int))] [some ⟨1,([.int .i64 (x),.bool (h)]:List AV)⟩])):=by kernel_rfl
theorem in_b (G:Nat→List AV) (ks n kp m:Nat) (s x:Int) (h:Bool) (i:Nat) (Q:Ex→List AV→Hp→Prop) (R:AV→Hp→Prop):vT G Q R (E8 (Dc Try.prog [] progIb [] 2) 300 20 2 (A5 Try.f37 0) 44 [2,3,4,5] [.ptr (.rw 0) (.lit 0),.ptr (.rw 1) (.lit 0),.int .i64 (.lit 0),.int .i64 (.ofN (.var 8 i))] [some ⟨1,.of [.int .i64 (.var 1 s),.slice true (.ro (.var 2 ks)) (.lit 0) (.var 3 n),.slice true (.ro (.var 4 kp)) (.lit 0) (.var 5 m)]⟩,some ⟨1,.of [.int .i64 (.var 6 x),.bool (.var 7 h)]⟩])=(
  (decide ((((i:Nat):Int):Int)<((n:Nat):Int))=true→decide ((0:Int)≤((i:Nat):Int))=true∧decide ((((i:Nat):Int):Int)<((n:Nat):Int))=true∧E2 (G (ks)) ((i)*4) [.int .i64,.int .i64,.sl,.int .i64]=true∧(decide ((x:Int)≥A0 (G (ks)) ((i)*4))=true→(decide ((x:Int)≤8192)=true→(decide ((IntKind.wrap .i64 (x+Od [.bool (h)]):Int)≤IntKind.wrap .i64 (A0 (G (ks)) ((i)*4)+((B9 (G (ks)) ((i)*4+2):Nat):Int)))=true→Q .ret [.ptr (.rw 0) (0),.ptr (.rw 1) (0),.int .i64 (((i:Nat):Int)),.int .i64 (((i:Nat):Int))] [some ⟨1,([.int .i64 (s),.slice true (.ro (ks)) (0) (n),.slice true (.ro (kp)) (0) (m)]:List AV)⟩,some ⟨1,([.int .i64 (x),.bool (h)]:List AV)⟩,some ⟨1,([.int .i64 (A0 (G (ks)) ((i)*4)),.int .i64 (A0 (G (ks)) ((i)*4+1)),.slice true (.ro (C9 (G (ks)) ((i)*4+2))) (E5 (G (ks)) ((i)*4+2)) (B9 (G (ks)) ((i)*4+2)),.int .i64 (A0 (G (ks)) ((i)*4+3))]:List AV)⟩])∧(decide ((IntKind.wrap .i64 (x+Od [.bool (h)]):Int)≤IntKind.wrap .i64 (A0 (G (ks)) ((i)*4)+((B9 (G (ks)) ((i)*4+2):Nat):Int)))=false→Q .normal [.ptr (.rw 0) (0),.ptr (.rw 1) (0),.int .i64 (0),.int .i64 (IntKind.wrap .i64 (((i:Nat):Int)+1))] [some ⟨1,([.int .i64 (s),.slice true (.ro (ks)) (0) (n),.slice true (.ro (kp)) (0) (m)]:List AV)⟩,some ⟨1,([.int .i64 (x),.bool (h)]:List AV)⟩,some ⟨1,([.int .i64 (A0 (G (ks)) ((i)*4)),.int .i64 (A0 (G (ks)) ((i)*4+1)),.slice true (.ro (C9 (G (ks)) ((i)*4+2))) (E5 (G (ks)) ((i)*4+2)) (B9 (G (ks)) ((i)*4+2)),.int .i64 (A0 (G (ks)) ((i)*4+3))]:List AV)⟩]))∧(decide ((x:Int)≤8192)=false→
 Q .normal [.ptr (.rw 0) (0),.ptr (.rw 1) (0),.int .i64 (0),.int .i64 (IntKind.wrap .i64 (((i:Nat):Int)+1))] [some ⟨1,([.int .i64 (s),.slice true (.ro (ks)) (0) (n),.slice true (.ro (kp)) (0) (m)]:List AV)⟩,some ⟨1,([.int .i64 (x),.bool (h)]:List AV)⟩,some ⟨1,([.int .i64 (A0 (G (ks)) ((i)*4)),.int .i64 (A0 (G (ks)) ((i)*4+1)),.slice true (.ro (C9 (G (ks)) ((i)*4+2))) (E5 (G (ks)) ((i)*4+2)) (B9 (G (ks)) ((i)*4+2)),.int .i64 (A0 (G (ks)) ((i)*4+3))]:List AV)⟩]))∧(decide ((x:Int)≥A0 (G (ks)) ((i)*4))=false→Q .normal [.ptr (.rw 0) (0),.ptr (.rw 1) (0),.int .i64 (0),.int .i64 (IntKind.wrap .i64 (((i:Nat):Int)+1))] [some ⟨1,([.int .i64 (s),.slice true (.ro (ks)) (0) (n),.slice true (.ro (kp)) (0) (m)]:List AV)⟩,some ⟨1,([.int .i64 (x),.bool (h)]:List AV)⟩,some ⟨1,([.int .i64 (A0 (G (ks)) ((i)*4)),.int .i64 (A0 (G (ks)) ((i)*4+1)),.slice true (.ro (C9 (G (ks)) ((i)*4+2))) (E5 (G (ks)) ((i)*4+2)) (B9 (G (ks)) ((i)*4+2)),.int .i64 (A0 (G (ks)) ((i)*4+3))]:List AV)⟩]))∧(decide ((((i:Nat):Int):Int)<((n:Nat):Int))=false→Q (.exit 0) [.ptr (.rw 0) (0),.ptr (.rw 1) (0),.int .i64 (0),.int .i64 (((i:Nat):Int))] [some ⟨1,([.int .i64 (s),.slice true (.ro (ks)) (0) (n),.slice true (.ro (kp)) (0) (m)]:List AV)⟩,some ⟨1,([.int .i64 (x),.bool (h)]:List AV)⟩])):=by kernel_rfl
theorem ck_b (G:Nat→List AV) (ks n kp m:Nat) (s y:Int) (w:Bool) (i:Nat) (Q:Ex→List AV→Hp→Prop) (R:AV→Hp→Prop):vT G Q R (E8 (Dc Try.prog [] progIb [] 1) 300 20 1 (A5 Try.f20 0) 98 [1,2,3,4,31,32,33] [.ptr (.rw 0) (.lit 0),.int .i64 (.lit 0),.bool (.var 9 w),.int .i64 (.var 10 y),.slice true (.ro (.var 2 ks)) (.lit 0) (.var 3 n),.int .i64 (.ofN (.var 3 n)),.int .i64 (.ofN (.var 8 i))] [some ⟨1,.of [.int .i64 (.var 1 s),.slice true (.ro (.var 2 ks)) (.lit 0) (.var 3 n),.slice true (.ro (.var 4 kp)) (.lit 0) (.var 5 m)]⟩])=(
  (decide ((((i:Nat):Int):Int)<((n:Nat):Int))=true→decide ((0:Int)≤((i:Nat):Int))=true∧decide ((((i:Nat):Int):Int)<((n:Nat):Int))=true∧E2 (G (ks)) ((i)*4) [.int .i64,.int .i64,.sl,.int .i64]=true∧(Ok [.int .i64 (A0 (G (ks)) ((i)*4)),.int .i64 (A0 (G (ks)) ((i)*4+1)),.int .i64 (((B9 (G (ks)) ((i)*4+2):Nat):Int)),.int .i64 (A0 (G (ks)) ((i)*4+3))]=true→(decide ((A0 (G (ks)) ((i)*4):Int)<y)=true→Q .ret [.ptr (.rw 0) (0),.int .i64 (2),.bool (w),.int .i64 (y),.slice true (.ro (ks)) (0) (n),.int .i64 (((n:Nat):Int)),.int .i64 (((i:Nat):Int))] [some ⟨1,([.int .i64 (s),.slice true (.ro (ks)) (0) (n),.slice true (.ro (kp)) (0) (m)]:List AV)⟩,some ⟨1,([.int .i64 (A0 (G (ks)) ((i)*4)),.int .i64 (A0 (G (ks)) ((i)*4+1)),.slice true (.ro (C9 (G (ks)) ((i)*4+2))) (E5 (G (ks)) ((i)*4+2)) (B9 (G (ks)) ((i)*4+2)),.int .i64 (A0 (G (ks)) ((i)*4+3))]:List AV)⟩])∧(decide ((A0 (G (ks)) ((i)*4):Int)<y)=false→(w=true→Q .normal [.ptr (.rw 0) (0),.int .i64 (0),.bool (true),.int .i64 (IntKind.wrap .i64 (A0 (G (ks)) ((i)*4)+Nv [.int .i64 (((B9 (G (ks)) ((i)*4+2):Nat):Int)),.int .i64 (A0 (G (ks)) ((i)*4+3))])),.slice true (.ro (ks)) (0) (n),.int .i64 (((n:Nat):Int)),.int .i64 (IntKind.wrap .i64 (((i:Nat):Int)+1))] [some ⟨1,([.int .i64 (s),.slice true (.ro (ks)) (0) (n),.slice true (.ro (kp)) (0) (m)]:List AV)⟩,some ⟨1,([.int .i64 (A0 (G (ks)) ((i)*4)),.int .i64 (A0 (G (ks)) ((i)*4+1)),.slice true (.ro (C9 (G (ks)) ((i)*4+2))) (E5 (G (ks)) ((i)*4+2)) (B9 (G (ks)) ((i)*4+2)),.int .i64 (A0 (G (ks)) ((i)*4+3))]:List AV)⟩])∧(w=false→(((L7 .i64 (A0 (G (ks)) ((i)*4+1)) (4):Int)==0)=true→
 Q .normal [.ptr (.rw 0) (0),.int .i64 (0),.bool (false),.int .i64 (IntKind.wrap .i64 (A0 (G (ks)) ((i)*4)+Nv [.int .i64 (((B9 (G (ks)) ((i)*4+2):Nat):Int)),.int .i64 (A0 (G (ks)) ((i)*4+3))])),.slice true (.ro (ks)) (0) (n),.int .i64 (((n:Nat):Int)),.int .i64 (IntKind.wrap .i64 (((i:Nat):Int)+1))] [some ⟨1,([.int .i64 (s),.slice true (.ro (ks)) (0) (n),.slice true (.ro (kp)) (0) (m)]:List AV)⟩,some ⟨1,([.int .i64 (A0 (G (ks)) ((i)*4)),.int .i64 (A0 (G (ks)) ((i)*4+1)),.slice true (.ro (C9 (G (ks)) ((i)*4+2))) (E5 (G (ks)) ((i)*4+2)) (B9 (G (ks)) ((i)*4+2)),.int .i64 (A0 (G (ks)) ((i)*4+3))]:List AV)⟩])∧(((L7 .i64 (A0 (G (ks)) ((i)*4+1)) (4):Int)==0)=false→(decide ((s:Int)≥A0 (G (ks)) ((i)*4))=true→Q .normal [.ptr (.rw 0) (0),.int .i64 (0),.bool (decide ((s:Int)<IntKind.wrap .i64 (A0 (G (ks)) ((i)*4)+Nv [.int .i64 (((B9 (G (ks)) ((i)*4+2):Nat):Int)),.int .i64 (A0 (G (ks)) ((i)*4+3))]))),.int .i64 (IntKind.wrap .i64 (A0 (G (ks)) ((i)*4)+Nv [.int .i64 (((B9 (G (ks)) ((i)*4+2):Nat):Int)),.int .i64 (A0 (G (ks)) ((i)*4+3))])),.slice true (.ro (ks)) (0) (n),.int .i64 (((n:Nat):Int)),.int .i64 (IntKind.wrap .i64 (((i:Nat):Int)+1))] [some ⟨1,([.int .i64 (s),.slice true (.ro (ks)) (0) (n),.slice true (.ro (kp)) (0) (m)]:List AV)⟩,some ⟨1,([.int .i64 (A0 (G (ks)) ((i)*4)),.int .i64 (A0 (G (ks)) ((i)*4+1)),.slice true (.ro (C9 (G (ks)) ((i)*4+2))) (E5 (G (ks)) ((i)*4+2)) (B9 (G (ks)) ((i)*4+2)),.int .i64 (A0 (G (ks)) ((i)*4+3))]:List AV)⟩])∧(decide ((s:Int)≥A0 (G (ks)) ((i)*4))=false→
 Q .normal [.ptr (.rw 0) (0),.int .i64 (0),.bool (false),.int .i64 (IntKind.wrap .i64 (A0 (G (ks)) ((i)*4)+Nv [.int .i64 (((B9 (G (ks)) ((i)*4+2):Nat):Int)),.int .i64 (A0 (G (ks)) ((i)*4+3))])),.slice true (.ro (ks)) (0) (n),.int .i64 (((n:Nat):Int)),.int .i64 (IntKind.wrap .i64 (((i:Nat):Int)+1))] [some ⟨1,([.int .i64 (s),.slice true (.ro (ks)) (0) (n),.slice true (.ro (kp)) (0) (m)]:List AV)⟩,some ⟨1,([.int .i64 (A0 (G (ks)) ((i)*4)),.int .i64 (A0 (G (ks)) ((i)*4+1)),.slice true (.ro (C9 (G (ks)) ((i)*4+2))) (E5 (G (ks)) ((i)*4+2)) (B9 (G (ks)) ((i)*4+2)),.int .i64 (A0 (G (ks)) ((i)*4+3))]:List AV)⟩])))))∧(Ok [.int .i64 (A0 (G (ks)) ((i)*4)),.int .i64 (A0 (G (ks)) ((i)*4+1)),.int .i64 (((B9 (G (ks)) ((i)*4+2):Nat):Int)),.int .i64 (A0 (G (ks)) ((i)*4+3))]=false→Q .ret [.ptr (.rw 0) (0),.int .i64 (2),.bool (w),.int .i64 (y),.slice true (.ro (ks)) (0) (n),.int .i64 (((n:Nat):Int)),.int .i64 (((i:Nat):Int))] [some ⟨1,([.int .i64 (s),.slice true (.ro (ks)) (0) (n),.slice true (.ro (kp)) (0) (m)]:List AV)⟩,some ⟨1,([.int .i64 (A0 (G (ks)) ((i)*4)),.int .i64 (A0 (G (ks)) ((i)*4+1)),.slice true (.ro (C9 (G (ks)) ((i)*4+2))) (E5 (G (ks)) ((i)*4+2)) (B9 (G (ks)) ((i)*4+2)),.int .i64 (A0 (G (ks)) ((i)*4+3))]:List AV)⟩]))∧(decide ((((i:Nat):Int):Int)<((n:Nat):Int))=false→Q (.exit 0) [.ptr (.rw 0) (0),.int .i64 (0),.bool (w),.int .i64 (y),.slice true (.ro (ks)) (0) (n),.int .i64 (((n:Nat):Int)),.int .i64 (((i:Nat):Int))] [some ⟨1,([.int .i64 (s),.slice true (.ro (ks)) (0) (n),.slice true (.ro (kp)) (0) (m)]:List AV)⟩])):=by kernel_rfl
theorem ma_b (G:Nat→List AV) (ks n kp m:Nat) (s:Int) (w:Bool) (i:Nat) (Q:Ex→List AV→Hp→Prop) (R:AV→Hp→Prop):vT G Q R (E8 (Dc Try.prog [] progIb [] 1) 300 20 1 (A5 Try.f21 0) 130 [1,2,3,4] [.ptr (.rw 0) (.lit 0),.bool (.lit false),.bool (.var 9 w),.int .i64 (.ofN (.var 8 i))] [some ⟨1,.of [.int .i64 (.var 1 s),.slice true (.ro (.var 2 ks)) (.lit 0) (.var 3 n),.slice true (.ro (.var 4 kp)) (.lit 0) (.var 5 m)]⟩])=(
  (decide ((((i:Nat):Int):Int)<((n:Nat):Int))=true→decide ((0:Int)≤((i:Nat):Int))=true∧decide ((((i:Nat):Int):Int)<((n:Nat):Int))=true∧E2 (G (ks)) ((i)*4) [.int .i64,.int .i64,.sl,.int .i64]=true∧(Ok [.int .i64 (A0 (G (ks)) ((i)*4)),.int .i64 (A0 (G (ks)) ((i)*4+1)),.int .i64 (((B9 (G (ks)) ((i)*4+2):Nat):Int)),.int .i64 (A0 (G (ks)) ((i)*4+3))]=true→(decide ((((i:Nat):Int):Int)>0)=true→decide ((0:Int)≤IntKind.wrap .i64 (((i:Nat):Int) - 1))=true∧decide ((IntKind.wrap .i64 (((i:Nat):Int) - 1):Int)<((n:Nat):Int))=true∧E2 (G (ks)) ((Int.toNat (IntKind.wrap .i64 (((i:Nat):Int) - 1)))*4) [.int .i64,.int .i64,.sl,.int .i64]=true∧(decide ((A0 (G (ks)) ((i)*4):Int)<upU [.int .i64 (A0 (G (ks)) ((Int.toNat (IntKind.wrap .i64 (((i:Nat):Int) - 1)))*4)),.int .i64 (((B9 (G (ks)) ((Int.toNat (IntKind.wrap .i64 (((i:Nat):Int) - 1)))*4+2):Nat):Int)),.int .i64 (A0 (G (ks)) ((Int.toNat (IntKind.wrap .i64 (((i:Nat):Int) - 1)))*4+3))])=true→Q .ret [.ptr (.rw 0) (0),.bool (false),.bool (w),.int .i64 (((i:Nat):Int))] [some ⟨1,([.int .i64 (s),.slice true (.ro (ks)) (0) (n),.slice true (.ro (kp)) (0) (m)]:List AV)⟩,some ⟨1,([.int .i64 (A0 (G (ks)) ((i)*4)),.int .i64 (A0 (G (ks)) ((i)*4+1)),.slice true (.ro (C9 (G (ks)) ((i)*4+2))) (E5 (G (ks)) ((i)*4+2)) (B9 (G (ks)) ((i)*4+2)),.int .i64 (A0 (G (ks)) ((i)*4+3))]:List AV)⟩])∧(decide ((A0 (G (ks)) ((i)*4):Int)<upU [.int .i64 (A0 (G (ks)) ((Int.toNat (IntKind.wrap .i64 (((i:Nat):Int) - 1)))*4)),.int .i64 (((B9 (G (ks)) ((Int.toNat (IntKind.wrap .i64 (((i:Nat):Int) - 1)))*4+2):Nat):Int)),.int .i64 (A0 (G (ks)) ((Int.toNat (IntKind.wrap .i64 (((i:Nat):Int) - 1)))*4+3))])=false→(w=true→
 Q .normal [.ptr (.rw 0) (0),.bool (false),.bool (true),.int .i64 (IntKind.wrap .i64 (((i:Nat):Int)+1))] [some ⟨1,([.int .i64 (s),.slice true (.ro (ks)) (0) (n),.slice true (.ro (kp)) (0) (m)]:List AV)⟩,some ⟨1,([.int .i64 (A0 (G (ks)) ((i)*4)),.int .i64 (A0 (G (ks)) ((i)*4+1)),.slice true (.ro (C9 (G (ks)) ((i)*4+2))) (E5 (G (ks)) ((i)*4+2)) (B9 (G (ks)) ((i)*4+2)),.int .i64 (A0 (G (ks)) ((i)*4+3))]:List AV)⟩])∧(w=false→(((L7 .i64 (A0 (G (ks)) ((i)*4+1)) (4):Int)==0)=true→Q .normal [.ptr (.rw 0) (0),.bool (false),.bool (false),.int .i64 (IntKind.wrap .i64 (((i:Nat):Int)+1))] [some ⟨1,([.int .i64 (s),.slice true (.ro (ks)) (0) (n),.slice true (.ro (kp)) (0) (m)]:List AV)⟩,some ⟨1,([.int .i64 (A0 (G (ks)) ((i)*4)),.int .i64 (A0 (G (ks)) ((i)*4+1)),.slice true (.ro (C9 (G (ks)) ((i)*4+2))) (E5 (G (ks)) ((i)*4+2)) (B9 (G (ks)) ((i)*4+2)),.int .i64 (A0 (G (ks)) ((i)*4+3))]:List AV)⟩])∧(((L7 .i64 (A0 (G (ks)) ((i)*4+1)) (4):Int)==0)=false→(decide ((s:Int)≥A0 (G (ks)) ((i)*4))=true→Q .normal [.ptr (.rw 0) (0),.bool (false),.bool (decide ((s:Int)<IntKind.wrap .i64 (A0 (G (ks)) ((i)*4)+Kg [.int .i64 (((B9 (G (ks)) ((i)*4+2):Nat):Int)),.int .i64 (A0 (G (ks)) ((i)*4+3))]))),.int .i64 (IntKind.wrap .i64 (((i:Nat):Int)+1))] [some ⟨1,([.int .i64 (s),.slice true (.ro (ks)) (0) (n),.slice true (.ro (kp)) (0) (m)]:List AV)⟩,some ⟨1,([.int .i64 (A0 (G (ks)) ((i)*4)),.int .i64 (A0 (G (ks)) ((i)*4+1)),.slice true (.ro (C9 (G (ks)) ((i)*4+2))) (E5 (G (ks)) ((i)*4+2)) (B9 (G (ks)) ((i)*4+2)),.int .i64 (A0 (G (ks)) ((i)*4+3))]:List AV)⟩])∧(decide ((s:Int)≥A0 (G (ks)) ((i)*4))=false→
 Q .normal [.ptr (.rw 0) (0),.bool (false),.bool (false),.int .i64 (IntKind.wrap .i64 (((i:Nat):Int)+1))] [some ⟨1,([.int .i64 (s),.slice true (.ro (ks)) (0) (n),.slice true (.ro (kp)) (0) (m)]:List AV)⟩,some ⟨1,([.int .i64 (A0 (G (ks)) ((i)*4)),.int .i64 (A0 (G (ks)) ((i)*4+1)),.slice true (.ro (C9 (G (ks)) ((i)*4+2))) (E5 (G (ks)) ((i)*4+2)) (B9 (G (ks)) ((i)*4+2)),.int .i64 (A0 (G (ks)) ((i)*4+3))]:List AV)⟩])))))∧(decide ((((i:Nat):Int):Int)>0)=false→(w=true→Q .normal [.ptr (.rw 0) (0),.bool (false),.bool (true),.int .i64 (IntKind.wrap .i64 (((i:Nat):Int)+1))] [some ⟨1,([.int .i64 (s),.slice true (.ro (ks)) (0) (n),.slice true (.ro (kp)) (0) (m)]:List AV)⟩,some ⟨1,([.int .i64 (A0 (G (ks)) ((i)*4)),.int .i64 (A0 (G (ks)) ((i)*4+1)),.slice true (.ro (C9 (G (ks)) ((i)*4+2))) (E5 (G (ks)) ((i)*4+2)) (B9 (G (ks)) ((i)*4+2)),.int .i64 (A0 (G (ks)) ((i)*4+3))]:List AV)⟩])∧(w=false→(((L7 .i64 (A0 (G (ks)) ((i)*4+1)) (4):Int)==0)=true→Q .normal [.ptr (.rw 0) (0),.bool (false),.bool (false),.int .i64 (IntKind.wrap .i64 (((i:Nat):Int)+1))] [some ⟨1,([.int .i64 (s),.slice true (.ro (ks)) (0) (n),.slice true (.ro (kp)) (0) (m)]:List AV)⟩,some ⟨1,([.int .i64 (A0 (G (ks)) ((i)*4)),.int .i64 (A0 (G (ks)) ((i)*4+1)),.slice true (.ro (C9 (G (ks)) ((i)*4+2))) (E5 (G (ks)) ((i)*4+2)) (B9 (G (ks)) ((i)*4+2)),.int .i64 (A0 (G (ks)) ((i)*4+3))]:List AV)⟩])∧(((L7 .i64 (A0 (G (ks)) ((i)*4+1)) (4):Int)==0)=false→(decide ((s:Int)≥A0 (G (ks)) ((i)*4))=true→
 Q .normal [.ptr (.rw 0) (0),.bool (false),.bool (decide ((s:Int)<IntKind.wrap .i64 (A0 (G (ks)) ((i)*4)+Kg [.int .i64 (((B9 (G (ks)) ((i)*4+2):Nat):Int)),.int .i64 (A0 (G (ks)) ((i)*4+3))]))),.int .i64 (IntKind.wrap .i64 (((i:Nat):Int)+1))] [some ⟨1,([.int .i64 (s),.slice true (.ro (ks)) (0) (n),.slice true (.ro (kp)) (0) (m)]:List AV)⟩,some ⟨1,([.int .i64 (A0 (G (ks)) ((i)*4)),.int .i64 (A0 (G (ks)) ((i)*4+1)),.slice true (.ro (C9 (G (ks)) ((i)*4+2))) (E5 (G (ks)) ((i)*4+2)) (B9 (G (ks)) ((i)*4+2)),.int .i64 (A0 (G (ks)) ((i)*4+3))]:List AV)⟩])∧(decide ((s:Int)≥A0 (G (ks)) ((i)*4))=false→Q .normal [.ptr (.rw 0) (0),.bool (false),.bool (false),.int .i64 (IntKind.wrap .i64 (((i:Nat):Int)+1))] [some ⟨1,([.int .i64 (s),.slice true (.ro (ks)) (0) (n),.slice true (.ro (kp)) (0) (m)]:List AV)⟩,some ⟨1,([.int .i64 (A0 (G (ks)) ((i)*4)),.int .i64 (A0 (G (ks)) ((i)*4+1)),.slice true (.ro (C9 (G (ks)) ((i)*4+2))) (E5 (G (ks)) ((i)*4+2)) (B9 (G (ks)) ((i)*4+2)),.int .i64 (A0 (G (ks)) ((i)*4+3))]:List AV)⟩])))))∧(Ok [.int .i64 (A0 (G (ks)) ((i)*4)),.int .i64 (A0 (G (ks)) ((i)*4+1)),.int .i64 (((B9 (G (ks)) ((i)*4+2):Nat):Int)),.int .i64 (A0 (G (ks)) ((i)*4+3))]=false→Q .ret [.ptr (.rw 0) (0),.bool (false),.bool (w),.int .i64 (((i:Nat):Int))] [some ⟨1,([.int .i64 (s),.slice true (.ro (ks)) (0) (n),.slice true (.ro (kp)) (0) (m)]:List AV)⟩,some ⟨1,([.int .i64 (A0 (G (ks)) ((i)*4)),.int .i64 (A0 (G (ks)) ((i)*4+1)),.slice true (.ro (C9 (G (ks)) ((i)*4+2))) (E5 (G (ks)) ((i)*4+2)) (B9 (G (ks)) ((i)*4+2)),.int .i64 (A0 (G (ks)) ((i)*4+3))]:List AV)⟩]))∧(decide ((((i:Nat):Int):Int)<((n:Nat):Int))=false→
 Q (.exit 0) [.ptr (.rw 0) (0),.bool (false),.bool (w),.int .i64 (((i:Nat):Int))] [some ⟨1,([.int .i64 (s),.slice true (.ro (ks)) (0) (n),.slice true (.ro (kp)) (0) (m)]:List AV)⟩])):=by kernel_rfl
end Go.Am
