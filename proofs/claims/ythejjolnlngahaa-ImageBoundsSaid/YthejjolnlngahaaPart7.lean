/-
  The chapter's rows hold: the machine's own run. Images at their bounds: trees of the loops that lay the lists.
-/
import Derived.Test.YthejjolnlngahaaBase3
import Derived.Test.YthejjolnlngahaaProg
import Derived.Test.YthejjolnlngahaaBase5
import Derived.Test.YthejjolnlngahaaBase6
namespace Go.Proofs.Ythejjolnlngahaa
open Go.Am Go.RowKit
set_option maxRecDepth 100000
theorem bD (G:Nat→List AV) (B:Nat):vc (Kc ⟨Try.prog,G,B⟩) 3000 0 (.code (H9 Try.f11)) (M5 Try.f11 []) [] (L1 ⟨Try.prog,G,B⟩ Try.f11 fun v _=>chk (isT v) True)=True:=by kernel_rfl
theorem Yo (G:Nat→List AV) (B:Nat):ACalls ⟨Try.prog,G,B⟩ 11 [] [] fun v _=>v=.bool true:=
 closed_run (C:=⟨Try.prog,G,B⟩) (by kernel_rfl) (fn:=Try.f11) (by kernel_rfl) (by kernel_rfl) (by kernel_rfl) 3000 (bD G B)
end Go.Proofs.Ythejjolnlngahaa
namespace Go.Am
open Go.Proofs
set_option maxRecDepth 100000
theorem bd_a (G:Nat→List AV) (i:Nat) (el:List AV) (Q:Ex→List AV→Hp→Prop) (R:AV→Hp→Prop):vT G Q R (Gs (Dc Try.prog [] [] [] 0) 300 20 0 (G2 Try.f5 0) 139 [1,2,3] [.ptr (.rw 0) (.lit 0),.slice true (.rw 1) (.lit 0) (.var 8 i),.int .i64 (.ofN (.var 8 i))] [some ⟨1,.of [.int .i64 (.lit 0),.int .i64 (.lit 4),.nils,.int .i64 (.lit 256)]⟩,some ⟨4,.var 21 el⟩])=(
  (decide ((((i:Nat):Int):Int)<8)=true→Ua ((i+1)*48) (140737488355328)=true∧Nat.beq (List.length el) ((i)*4)=true∧Q .normal [.ptr (.rw 0) (0),.slice true (.rw 3) (0) (i+1),.int .i64 (IntKind.wrap .i64 (((i:Nat):Int)+1))] [some ⟨1,([.int .i64 (0),.int .i64 (4),.nils,.int .i64 (256)]:List AV)⟩,none,some ⟨4,([.int .i64 (IntKind.wrap .i64 (256*((i:Nat):Int))),.int .i64 (4),.nils,.int .i64 (256)]:List AV)⟩,some ⟨4,(el++([.int .i64 (IntKind.wrap .i64 (256*((i:Nat):Int))),.int .i64 (4),.nils,.int .i64 (256)]:List AV))⟩])∧(decide ((((i:Nat):Int):Int)<8)=false→Q (.exit 0) [.ptr (.rw 0) (0),.slice true (.rw 1) (0) (i),.int .i64 (((i:Nat):Int))] [some ⟨1,([.int .i64 (0),.int .i64 (4),.nils,.int .i64 (256)]:List AV)⟩,some ⟨4,el⟩])):=by kernel_rfl
theorem bd_b (G:Nat→List AV) (i:Nat) (el pl:List AV) (Q:Ex→List AV→Hp→Prop) (R:AV→Hp→Prop):vT G Q R (Gs (Dc Try.prog [] [] [] 0) 300 20 0 (G2 Try.f5 1) 139 [1,2,4,5] [.ptr (.rw 0) (.lit 0),.slice true (.rw 1) (.lit 0) (.lit 8),.slice true (.rw 2) (.lit 0) (.var 8 i),.int .i64 (.ofN (.var 8 i))] [some ⟨1,.of [.int .i64 (.lit 0),.int .i64 (.lit 4),.nils,.int .i64 (.lit 256)]⟩,some ⟨4,.var 21 el⟩,some ⟨2,.var 22 pl⟩])=(
  (decide ((((i:Nat):Int):Int)<512)=true→Ua ((i+1)*16) (140737488355328)=true∧Nat.beq (List.length pl) ((i)*2)=true∧Q .normal [.ptr (.rw 0) (0),.slice true (.rw 1) (0) (8),.slice true (.rw 4) (0) (i+1),.int .i64 (IntKind.wrap .i64 (((i:Nat):Int)+1))] [some ⟨1,([.int .i64 (0),.int .i64 (4),.nils,.int .i64 (256)]:List AV)⟩,some ⟨4,el⟩,none,some ⟨2,([.int .i64 (IntKind.wrap .i64 (4*((i:Nat):Int))),.bool (false)]:List AV)⟩,some ⟨2,(pl++([.int .i64 (IntKind.wrap .i64 (4*((i:Nat):Int))),.bool (false)]:List AV))⟩])∧(decide ((((i:Nat):Int):Int)<512)=false→Q (.exit 2) [.ptr (.rw 0) (0),.slice true (.rw 1) (0) (8),.slice true (.rw 2) (0) (i),.int .i64 (((i:Nat):Int))] [some ⟨1,([.int .i64 (0),.int .i64 (4),.nils,.int .i64 (256)]:List AV)⟩,some ⟨4,el⟩,some ⟨2,pl⟩])):=by kernel_rfl
end Go.Am
namespace Go.Am
open Go.Proofs
set_option maxRecDepth 100000
theorem Af (G:Nat→List AV) (B:Nat):((⟨Try.prog,G,B⟩:Ctx):Ctx).P.follows .mixedOrders=true:=by kernel_rfl
theorem K3 (n:Nat):((n:Int)).toNat=n:=Int.toNat_natCast n
def Sv (n:Nat) (z:Int):Int:=IntKind.i64.wrap ((n:Int)+z)
def Bs (a r:Int) (n:Nat) (z:Int):Bool:=(decide (0≤z)&&(decide (z≤8192)&&decide (n≤8192)))&&((decide (0≤a)&&(decide (a≤8192)&&decide (a % 256=0)))&&((decide (1≤r)&&decide (r≤7))&&(decide (1≤(n:Int)+z)&&decide (a+(n+z)≤8192))))
def Lc (n:Nat) (z:Int):Int:=if 0≤z∧z≤8192∧n≤8192 then (n:Int)+z else -1
def O4 (h:Bool):Int:=if h then 2 else 4
def Ha:List AV→Int:=fun xs=>match xs with
 | [.int _ n,.int _ z]=>Sv n.toNat z
 | _=>0
def Ou:List AV→Bool:=fun xs=>match xs with
 | [.int _ a,.int _ r,.int _ n,.int _ z]=>Bs a r n.toNat z
 | _=>false
def Ho:List AV→Int:=fun xs=>match xs with
 | [.int _ n,.int _ z]=>Lc n.toNat z
 | _=>0
def Sk:List AV→Int:=fun xs=>match xs with
 | [.bool h]=>O4 h
 | _=>0
def slN:EV→Option EN
 | .slice _ _ _ n=>some n
 | .nils=>some (.lit 0)
 | _=>none
theorem t44 (G:Nat→List AV) (a r z:Int) (n:Nat) (Q:Ex→List AV→Hp→Prop) (R:AV→Hp→Prop):vT G Q R (Z0 (Dc Try.prog [] [] [] 0) 100 20 Try.f44 [.agg (.of [.int .i64 (.var 1 a),.int .i64 (.var 2 r),.slice true (.ro (.lit 0)) (.lit 0) (.var 3 n),.int .i64 (.var 4 z)])] [] 0)=(
  R (.int .i64 (IntKind.wrap .i64 (((n:Nat):Int)+z))) []):=by kernel_rfl
theorem t35 (G:Nat→List AV) (x:Int) (h:Bool) (Q:Ex→List AV→Hp→Prop) (R:AV→Hp→Prop):vT G Q R (Z0 (Dc Try.prog [] [] [] 0) 100 20 Try.f35 [.agg (.of [.int .i64 (.var 1 x),.bool (.var 2 h)])] [] 0)=(
  (h=true→R (.int .i64 (2)) [])∧(h=false→R (.int .i64 (4)) [])):=by kernel_rfl
theorem t38 (G:Nat→List AV) (x:Int) (h:Bool) (Q:Ex→List AV→Hp→Prop) (R:AV→Hp→Prop):vT G Q R (Z0 (Dc Try.prog [] [] [] 0) 100 20 Try.f38 [.agg (.of [.int .i64 (.var 1 x),.bool (.var 2 h)])] [] 0)=(
  (h=true→R (.int .i64 (2)) [])∧(h=false→R (.int .i64 (4)) [])):=by kernel_rfl
theorem t47 (G:Nat→List AV) (a r z:Int) (n:Nat) (Q:Ex→List AV→Hp→Prop) (R:AV→Hp→Prop):vT G Q R (Z0 (Dc Try.prog [] [] [] 0) 100 20 Try.f47 [.agg (.of [.int .i64 (.var 1 a),.int .i64 (.var 2 r),.slice true (.ro (.lit 0)) (.lit 0) (.var 3 n),.int .i64 (.var 4 z)])] [] 0)=(
  (decide ((z:Int)<0)=true→R (.int .i64 ((-1))) [])∧(decide ((z:Int)<0)=false→(decide ((z:Int)>8192)=true→R (.int .i64 ((-1))) [])∧(decide ((z:Int)>8192)=false→(decide ((((n:Nat):Int):Int)>8192)=true→R (.int .i64 ((-1))) [])∧(decide ((((n:Nat):Int):Int)>8192)=false→R (.int .i64 (IntKind.wrap .i64 (((n:Nat):Int)+z))) [])))):=by kernel_rfl
section
variable {C:Ctx}
theorem J1.sec {f:FuncId} {a r z:EI} {sl:EV} {n:EN} {H:DHp} {v:EV} (hs:slN sl=some n) (h:∀ B,ACalls ⟨C.P,fun _=>[],B⟩ f [.agg [.int .i64 (vI C.G a),.int .i64 (vI C.G r),.slice true (.ro 0) 0 (vN C.G n),.int .i64 (vI C.G z)]] [] fun v' _=>v'=vV C.G v) (hv:B4 0 (vV C.G v)=true∧P7 (vV C.G v)=true):J1 C f [.agg (.of [.int .i64 a,.int .i64 r,sl,.int .i64 z])] H v []:=by
 obtain ⟨rr,oo,hw⟩:∃ (rr:Ref) (oo:Nat),∀ (ρ:Env) cv,VR ρ (vV C.G sl) cv→VR ρ (.slice true rr oo (vN C.G n)) cv:=by
  unfold slN at hs;split at hs
  ·simp only [Option.some.injEq] at hs;subst hs;rename_i mb r' o' n';exact ⟨vR C.G r',vN C.G o',fun ρ cv hv=>by simp only [vV] at hv;exact Of hv⟩
  ·simp only [Option.some.injEq] at hs;subst hs;exact ⟨.ro 0,0,fun ρ cv hv=>gP _ _ (by simpa only [vV] using hv)⟩
  ·simp at hs
 refine J1.rdN (σ:=fun _=>(rr,oo)) (G':=fun _=>[]) (args0:=[.agg [.int .i64 (vI C.G a),.int .i64 (vI C.G r),.slice true (.ro 0) 0 (vN C.G n),.int .i64 (vI C.G z)]]) (fun k=>.inl rfl) rfl (fun ρ vs hvs=>?_) (fun B=>h B) hv;simp only [vVs,vV,vL,sbs,sb,VRs,VR] at hvs ⊢;obtain ⟨v,vs',e,⟨ws,e2,w1,t1,e3,q1,w2,t2,e4,q2,w3,t3,e5,q3,w4,t4,e6,q4,q5⟩,q6⟩:=hvs;exact ⟨v,vs',e,⟨ws,e2,w1,t1,e3,q1,w2,t2,e4,q2,w3,t3,e5,by have:=hw ρ w3 q3;simpa only [VR,Nat.add_zero] using this,w4,t4,e6,q4,q5⟩,q6⟩
theorem J1.plc {f:FuncId} {x:EI} {b:EB} {H:DHp} {v:EV} (h:∀ B,ACalls ⟨C.P,fun _=>[],B⟩ f [.agg [.int .i64 (vI C.G x),.bool (vB C.G b)]] [] fun v' _=>v'=vV C.G v) (hv:B4 0 (vV C.G v)=true∧P7 (vV C.G v)=true):J1 C f [.agg (.of [.int .i64 x,.bool b])] H v []:=
 J1.rdN (σ:=fun _=>(.ro 0,0)) (G':=fun _=>[]) (args0:=[.agg [.int .i64 (vI C.G x),.bool (vB C.G b)]]) (fun k=>.inl rfl) rfl (fun ρ vs hvs=>hvs) (fun B=>h B) hv
end
theorem dgI (G:Nat→List AV) (B:Nat) (M:Nat):Oj (⟨Try.prog,G,B⟩:Ctx) (Dc Try.prog [] [] [] M) []:=U3 (Af G B) (by kernel_rfl) .nil .nil
theorem fP (G:Nat→List AV) (B:Nat) (a r z:Int) (n:Nat):ACalls (⟨Try.prog,G,B⟩:Ctx) 44 [.agg [.int .i64 a,.int .i64 r,.slice true (.ro 0) 0 n,.int .i64 z]] [] fun v _=>v=.int .i64 (Sv n z):=by
 have:=O0 (C:=(⟨Try.prog,G,B⟩:Ctx)) (fuel:=100) (n0:=20) (f:=44) (fn:=Try.f44) (args:=[.agg (.of [.int .i64 (.var 1 a),.int .i64 (.var 2 r),.slice true (.ro (.lit 0)) (.lit 0) (.var 3 n),.int .i64 (.var 4 z)])]) (H:=[]) (keep:=0)
  (R:=fun v _=>v=.int .i64 (Sv n z)) (by rw [show C3 (H9 Try.f44)=[] by kernel_rfl];exact dgI G B 0) (by kernel_rfl) (by kernel_rfl) (by kernel_rfl) (by
  rw [t44 G a r z n];rfl)
 exact this.monoK fun v H' h=>h
theorem fL (G:Nat→List AV) (B:Nat) (x:Int) (h:Bool):ACalls (⟨Try.prog,G,B⟩:Ctx) 35 [.agg [.int .i64 x,.bool h]] [] fun v _=>v=.int .i64 (O4 h):=by
 have:=O0 (C:=(⟨Try.prog,G,B⟩:Ctx)) (fuel:=100) (n0:=20) (f:=35) (fn:=Try.f35) (args:=[.agg (.of [.int .i64 (.var 1 x),.bool (.var 2 h)])]) (H:=[]) (keep:=0)
  (R:=fun v _=>v=.int .i64 (O4 h)) (by rw [show C3 (H9 Try.f35)=[] by kernel_rfl];exact dgI G B 0) (by kernel_rfl) (by kernel_rfl) (by kernel_rfl) (by
  rw [t35 G x h];cases h<;>simp [O4])
 exact this.monoK fun v H' h=>h
theorem cK (G:Nat→List AV) (B:Nat) (x:Int) (h:Bool):ACalls (⟨Try.prog,G,B⟩:Ctx) 38 [.agg [.int .i64 x,.bool h]] [] fun v _=>v=.int .i64 (O4 h):=by
 have:=O0 (C:=(⟨Try.prog,G,B⟩:Ctx)) (fuel:=100) (n0:=20) (f:=38) (fn:=Try.f38) (args:=[.agg (.of [.int .i64 (.var 1 x),.bool (.var 2 h)])]) (H:=[]) (keep:=0)
  (R:=fun v _=>v=.int .i64 (O4 h)) (by rw [show C3 (H9 Try.f38)=[] by kernel_rfl];exact dgI G B 0) (by kernel_rfl) (by kernel_rfl) (by kernel_rfl) (by
  rw [t38 G x h];cases h<;>simp [O4])
 exact this.monoK fun v H' h=>h
theorem dC (G:Nat→List AV) (B:Nat) (a r z:Int) (n:Nat):ACalls (⟨Try.prog,G,B⟩:Ctx) 47 [.agg [.int .i64 a,.int .i64 r,.slice true (.ro 0) 0 n,.int .i64 z]] [] fun v _=>v=.int .i64 (Lc n z):=by
 have:=O0 (C:=(⟨Try.prog,G,B⟩:Ctx)) (fuel:=100) (n0:=20) (f:=47) (fn:=Try.f47) (args:=[.agg (.of [.int .i64 (.var 1 a),.int .i64 (.var 2 r),.slice true (.ro (.lit 0)) (.lit 0) (.var 3 n),.int .i64 (.var 4 z)])]) (H:=[]) (keep:=0)
  (R:=fun v _=>v=.int .i64 (Lc n z)) (by rw [show C3 (H9 Try.f47)=[] by kernel_rfl];exact dgI G B 0) (by kernel_rfl) (by kernel_rfl) (by kernel_rfl) (by
  rw [t47 G a r z n];unfold Lc;refine ⟨fun h1=>?_,fun h1=>⟨fun h2=>?_,fun h2=>⟨fun h3=>?_,fun h3=>?_⟩⟩⟩
  ·have:=of_decide_eq_true h1;rw [if_neg (by omega)]
  ·have:=of_decide_eq_true h2;rw [if_neg (by omega)]
  ·have:=of_decide_eq_true h3;rw [if_neg (by omega)]
  ·have h1:=of_decide_eq_false h1;have h2:=of_decide_eq_false h2;have h3:=of_decide_eq_false h3
   rw [if_pos (by omega),G8 (by omega)])
 exact this.monoK fun v H' h=>h
def szS:DSum:=fun args _=>match args with
 | [.agg (.of [.int .i64 _,.int .i64 _,sl,.int .i64 z])]=>match slN sl with
  | some n=>some (.one (.int .i64 (.uf 1701 Ha [.int .i64 (.ofN n),.int .i64 z])) [])
  | none=>none
 | _=>none
theorem hE (G:Nat→List AV) (B:Nat):Br (⟨Try.prog,G,B⟩:Ctx) 44 szS:=by
 intro args H o ho;unfold szS at ho;split at ho
 ·rename_i a r sl z;split at ho
  ·rename_i n hs;simp only [Option.some.injEq] at ho;subst ho;refine J1.sec (C:=(⟨Try.prog,G,B⟩:Ctx)) hs (fun B'=>?_) ⟨rfl,rfl⟩;refine (fP (fun _=>[]) B' _ _ _ _).monoK fun v _ e=>?_;rw [e];simp only [vV,vI,vVs,vN,Ha,K3]
  ·simp at ho
 ·simp at ho
def rszS:DSum:=fun args _=>match args with
 | [.agg (.of [.int .i64 _,.int .i64 _,sl,.int .i64 z])]=>match slN sl with
  | some n=>some (.one (.int .i64 (.uf 1703 Ho [.int .i64 (.ofN n),.int .i64 z])) [])
  | none=>none
 | _=>none
theorem fV (G:Nat→List AV) (B:Nat):Br (⟨Try.prog,G,B⟩:Ctx) 47 rszS:=by
 intro args H o ho;unfold rszS at ho;split at ho
 ·rename_i a r sl z;split at ho
  ·rename_i n hs;simp only [Option.some.injEq] at ho;subst ho;refine J1.sec (C:=(⟨Try.prog,G,B⟩:Ctx)) hs (fun B'=>?_) ⟨rfl,rfl⟩;refine (dC (fun _=>[]) B' _ _ _ _).monoK fun v _ e=>?_;rw [e];simp only [vV,vI,vVs,vN,Ho,K3]
  ·simp at ho
 ·simp at ho
def wdS:DSum:=fun args _=>match args with
 | [.agg (.of [.int .i64 _,.bool b])]=>some (.one (.int .i64 (.uf 1704 Sk [.bool b])) [])
 | _=>none
theorem Zx (G:Nat→List AV) (B:Nat) {f:Nat} (h:∀ (G:Nat→List AV) (B:Nat) (x:Int) (h:Bool),ACalls (⟨Try.prog,G,B⟩:Ctx) f [.agg [.int .i64 x,.bool h]] [] fun v _=>v=.int .i64 (O4 h)):Br (⟨Try.prog,G,B⟩:Ctx) f wdS:=by
 intro args H o ho;unfold wdS at ho;split at ho
 ·simp only [Option.some.injEq] at ho;subst ho;exact J1.plc (C:=(⟨Try.prog,G,B⟩:Ctx)) (fun B'=>h _ B' _ _) ⟨rfl,rfl⟩
 ·simp at ho
def progIa:List (Nat×DSum):=(44,szS)::(47,rszS)::(35,wdS)::(38,wdS)::[]
theorem Dw (G:Nat→List AV) (B:Nat):U5 (⟨Try.prog,G,B⟩:Ctx) progIa:=.cons (hE G B) (.cons (fV G B) (.cons (Zx G B fun G B x h=>fL G B x h) (.cons (Zx G B fun G B x h=>cK G B x h) .nil)))
theorem t43 (G:Nat→List AV) (a r z:Int) (n:Nat) (Q:Ex→List AV→Hp→Prop) (R:AV→Hp→Prop):vT G Q R (Z0 (Dc Try.prog [] progIa [] 0) 100 20 Try.f43 [.agg (.of [.int .i64 (.var 1 a),.int .i64 (.var 2 r),.slice true (.ro (.lit 0)) (.lit 0) (.var 3 n),.int .i64 (.var 4 z)])] [] 0)=(
  (decide ((z:Int)<0)=true→R (.bool (false)) [])∧(decide ((z:Int)<0)=false→(decide ((z:Int)>8192)=true→R (.bool (false)) [])∧(decide ((z:Int)>8192)=false→(decide ((((n:Nat):Int):Int)>8192)=true→R (.bool (false)) [])∧(decide ((((n:Nat):Int):Int)>8192)=false→(decide ((a:Int)<0)=true→R (.bool (false)) [])∧(decide ((a:Int)<0)=false→(decide ((a:Int)>8192)=true→R (.bool (false)) [])∧(decide ((a:Int)>8192)=false→(((Int.tmod (a) (256):Int)==0)=true→(decide ((r:Int)≥1)=true→(decide ((r:Int)≤7)=true→(decide ((Ha [.int .i64 (((n:Nat):Int)),.int .i64 (z)]:Int)≥1)=true→R (.bool (decide ((IntKind.wrap .i64 (a+Ha [.int .i64 (((n:Nat):Int)),.int .i64 (z)]):Int)≤8192))) [])∧(decide ((Ha [.int .i64 (((n:Nat):Int)),.int .i64 (z)]:Int)≥1)=false→R (.bool (false)) []))∧(decide ((r:Int)≤7)=false→R (.bool (false)) []))∧(decide ((r:Int)≥1)=false→R (.bool (false)) []))∧(((Int.tmod (a) (256):Int)==0)=false→R (.bool (false)) []))))))):=by kernel_rfl
theorem t45 (G:Nat→List AV) (a r z:Int) (n:Nat) (Q:Ex→List AV→Hp→Prop) (R:AV→Hp→Prop):vT G Q R (Z0 (Dc Try.prog [] progIa [] 0) 100 20 Try.f45 [.agg (.of [.int .i64 (.var 1 a),.int .i64 (.var 2 r),.slice true (.ro (.lit 0)) (.lit 0) (.var 3 n),.int .i64 (.var 4 z)])] [] 0)=(
  (decide ((a:Int)≥0)=true→(decide ((a:Int)≤8192)=true→(((Int.tmod (a) (256):Int)==0)=true→(decide ((r:Int)≥1)=true→(decide ((r:Int)≤7)=true→(decide ((Ho [.int .i64 (((n:Nat):Int)),.int .i64 (z)]:Int)≥1)=true→R (.bool (decide ((Ho [.int .i64 (((n:Nat):Int)),.int .i64 (z)]:Int)≤IntKind.wrap .i64 (8192 - a)))) [])∧(decide ((Ho [.int .i64 (((n:Nat):Int)),.int .i64 (z)]:Int)≥1)=false→R (.bool (false)) []))∧(decide ((r:Int)≤7)=false→R (.bool (false)) []))∧(decide ((r:Int)≥1)=false→R (.bool (false)) []))∧(((Int.tmod (a) (256):Int)==0)=false→R (.bool (false)) []))∧(decide ((a:Int)≤8192)=false→R (.bool (false)) []))∧(decide ((a:Int)≥0)=false→R (.bool (false)) [])):=by kernel_rfl
theorem t46 (G:Nat→List AV) (a r z:Int) (n:Nat) (Q:Ex→List AV→Hp→Prop) (R:AV→Hp→Prop):vT G Q R (Z0 (Dc Try.prog [] progIa [] 0) 100 20 Try.f46 [.agg (.of [.int .i64 (.var 1 a),.int .i64 (.var 2 r),.slice true (.ro (.lit 0)) (.lit 0) (.var 3 n),.int .i64 (.var 4 z)])] [] 0)=(
  R (.int .i64 (IntKind.wrap .i64 (IntKind.wrap .i64 (Int.tdiv (IntKind.wrap .i64 (IntKind.wrap .i64 (IntKind.wrap .i64 (a+Ho [.int .i64 (((n:Nat):Int)),.int .i64 (z)])+256) - 1)) (256))*256))) []):=by kernel_rfl
theorem Cz {a r z:Int} {n:Nat}:Bs a r n z=true↔(0≤z∧z≤8192∧n≤8192)∧(0≤a∧a≤8192∧a % 256=0)∧(1≤r∧r≤7)∧1≤(n:Int)+z∧a+(n+z)≤8192:=by
 simp only [Bs,Bool.and_eq_true,decide_eq_true_eq]
theorem M1 {a r z:Int} {n:Nat} (h:¬((0≤z∧z≤8192∧n≤8192)∧(0≤a∧a≤8192∧a % 256=0)∧(1≤r∧r≤7)∧1≤(n:Int)+z∧a+(n+z)≤8192)):Bs a r n z=false:=by
 cases e:Bs a r n z with
 | false=>rfl
 | true=>exact absurd (Cz.1 e) h
theorem aD {n:Nat} {z:Int}:Ha [.int .i64 (n:Int),.int .i64 z]=Sv n z:=by simp only [Ha,K3]
theorem Wr {n:Nat} {z:Int}:Ho [.int .i64 (n:Int),.int .i64 z]=Lc n z:=by simp only [Ho,K3]
theorem Wm {a:Int} (h:0≤a):((Int.tmod a 256:Int)==0)=decide (a % 256=0):=by
 rw [Int.tmod_eq_emod_of_nonneg h,Bool.eq_iff_iff,beq_iff_eq,decide_eq_true_iff]
theorem cY (G:Nat→List AV) (B:Nat) (a r z:Int) (n:Nat):ACalls (⟨Try.prog,G,B⟩:Ctx) 43 [.agg [.int .i64 a,.int .i64 r,.slice true (.ro 0) 0 n,.int .i64 z]] [] fun v _=>v=.bool (Bs a r n z):=by
 have:=O0 (C:=(⟨Try.prog,G,B⟩:Ctx)) (fuel:=100) (n0:=20) (f:=43) (fn:=Try.f43) (args:=[.agg (.of [.int .i64 (.var 1 a),.int .i64 (.var 2 r),.slice true (.ro (.lit 0)) (.lit 0) (.var 3 n),.int .i64 (.var 4 z)])]) (H:=[]) (keep:=0)
  (R:=fun v _=>v=.bool (Bs a r n z)) (by rw [show C3 (H9 Try.f43)=[] by kernel_rfl];exact U3 (inl:=[]) (ls:=[]) (M:=0) (Af G B) (by kernel_rfl) (Dw G B) .nil) (by kernel_rfl) (by kernel_rfl) (by kernel_rfl) (by
  rw [t43 G a r z n,aD];refine ⟨fun h1=>?_,fun h1=>⟨fun h2=>?_,fun h2=>⟨fun h3=>?_,fun h3=>⟨fun h4=>?_,fun h4=>⟨fun h5=>?_,fun h5=>?_⟩⟩⟩⟩⟩
  ·have:=of_decide_eq_true h1;rw [M1 (by omega)]
  ·have:=of_decide_eq_true h2;rw [M1 (by omega)]
  ·have:=of_decide_eq_true h3;rw [M1 (by omega)]
  ·have:=of_decide_eq_true h4;rw [M1 (by omega)]
  ·have:=of_decide_eq_true h5;rw [M1 (by omega)]
  ·have h1:=of_decide_eq_false h1;have h2:=of_decide_eq_false h2;have h3:=of_decide_eq_false h3;have h4:=of_decide_eq_false h4;have h5:=of_decide_eq_false h5;have e:Sv n z=(n:Int)+z:=G8 (by omega);rw [e,G8 (by omega),Wm (by omega)];refine ⟨fun h6=>⟨fun h7=>⟨fun h8=>⟨fun h9=>?_,fun h9=>?_⟩,fun h8=>?_⟩,fun h7=>?_⟩,fun h6=>?_⟩
   ·have h6:=of_decide_eq_true h6;have h7:=of_decide_eq_true h7;have h8:=of_decide_eq_true h8;have h9:=of_decide_eq_true h9;congr 1;rw [Bool.eq_iff_iff,decide_eq_true_iff,Cz];omega
   ·have:=of_decide_eq_false h9;rw [M1 (by omega)]
   ·have:=of_decide_eq_false h8;rw [M1 (by omega)]
   ·have:=of_decide_eq_false h7;rw [M1 (by omega)]
   ·have:=of_decide_eq_false h6;rw [M1 (by omega)])
 exact this.monoK fun v H' h=>h
theorem aK (G:Nat→List AV) (B:Nat) (a r z:Int) (n:Nat):ACalls (⟨Try.prog,G,B⟩:Ctx) 45 [.agg [.int .i64 a,.int .i64 r,.slice true (.ro 0) 0 n,.int .i64 z]] [] fun v _=>v=.bool (Bs a r n z):=by
 have:=O0 (C:=(⟨Try.prog,G,B⟩:Ctx)) (fuel:=100) (n0:=20) (f:=45) (fn:=Try.f45) (args:=[.agg (.of [.int .i64 (.var 1 a),.int .i64 (.var 2 r),.slice true (.ro (.lit 0)) (.lit 0) (.var 3 n),.int .i64 (.var 4 z)])]) (H:=[]) (keep:=0)
  (R:=fun v _=>v=.bool (Bs a r n z)) (by rw [show C3 (H9 Try.f45)=[] by kernel_rfl];exact U3 (inl:=[]) (ls:=[]) (M:=0) (Af G B) (by kernel_rfl) (Dw G B) .nil) (by kernel_rfl) (by kernel_rfl) (by kernel_rfl) (by
  rw [t45 G a r z n,Wr];have hr:Lc n z=if 0≤z∧z≤8192∧n≤8192 then (n:Int)+z else -1:=rfl
  refine ⟨fun h1=>⟨fun h2=>?_,fun h2=>?_⟩,fun h1=>?_⟩
  ·have h1:=of_decide_eq_true h1;have h2:=of_decide_eq_true h2;rw [Wm (by omega),G8 (by omega)];refine ⟨fun h6=>⟨fun h7=>⟨fun h8=>⟨fun h9=>?_,fun h9=>?_⟩,fun h8=>?_⟩,fun h7=>?_⟩,fun h6=>?_⟩
   ·have h6:=of_decide_eq_true h6;have h7:=of_decide_eq_true h7;have h8:=of_decide_eq_true h8;have h9:=of_decide_eq_true h9;congr 1;rw [Bool.eq_iff_iff,decide_eq_true_iff,Cz];split at hr<;>omega
   ·have:=of_decide_eq_false h9
    rw [M1 (by split at hr<;>omega)]
   ·have:=of_decide_eq_false h8;rw [M1 (by omega)]
   ·have:=of_decide_eq_false h7;rw [M1 (by omega)]
   ·have:=of_decide_eq_false h6;rw [M1 (by omega)]
  ·have:=of_decide_eq_false h2;rw [M1 (by omega)]
  ·have:=of_decide_eq_false h1;rw [M1 (by omega)])
 exact this.monoK fun v H' h=>h
def upF (a:Int) (n:Nat) (z:Int):Int:=IntKind.wrap .i64 (IntKind.wrap .i64 (Int.tdiv (IntKind.wrap .i64 (IntKind.wrap .i64 (IntKind.wrap .i64 (a+Lc n z)+256) - 1)) 256)*256)
theorem fN (G:Nat→List AV) (B:Nat) (a r z:Int) (n:Nat):ACalls (⟨Try.prog,G,B⟩:Ctx) 46 [.agg [.int .i64 a,.int .i64 r,.slice true (.ro 0) 0 n,.int .i64 z]] [] fun v _=>v=.int .i64 (upF a n z):=by
 have:=O0 (C:=(⟨Try.prog,G,B⟩:Ctx)) (fuel:=100) (n0:=20) (f:=46) (fn:=Try.f46) (args:=[.agg (.of [.int .i64 (.var 1 a),.int .i64 (.var 2 r),.slice true (.ro (.lit 0)) (.lit 0) (.var 3 n),.int .i64 (.var 4 z)])]) (H:=[]) (keep:=0)
  (R:=fun v _=>v=.int .i64 (upF a n z)) (by rw [show C3 (H9 Try.f46)=[] by kernel_rfl];exact U3 (inl:=[]) (ls:=[]) (M:=0) (Af G B) (by kernel_rfl) (Dw G B) .nil) (by kernel_rfl) (by kernel_rfl) (by kernel_rfl) (by
  rw [t46 G a r z n,Wr];rfl)
 exact this.monoK fun v H' h=>h
def upU:List AV→Int:=fun xs=>match xs with
 | [.int _ a,.int _ n,.int _ z]=>upF a n.toNat z
 | _=>0
def secS:DSum:=fun args _=>match args with
 | [.agg (.of [.int .i64 a,.int .i64 r,sl,.int .i64 z])]=>match slN sl with
  | some n=>some (.one (.bool (.uf 1702 Ou [.int .i64 a,.int .i64 r,.int .i64 (.ofN n),.int .i64 z])) [])
  | none=>none
 | _=>none
theorem Wp (G:Nat→List AV) (B:Nat) {f:Nat} (h:∀ (G:Nat→List AV) (B:Nat) (a r z:Int) (n:Nat),ACalls (⟨Try.prog,G,B⟩:Ctx) f [.agg [.int .i64 a,.int .i64 r,.slice true (.ro 0) 0 n,.int .i64 z]] [] fun v _=>v=.bool (Bs a r n z)):Br (⟨Try.prog,G,B⟩:Ctx) f secS:=by
 intro args H o ho;unfold secS at ho;split at ho
 ·rename_i a r sl z;split at ho
  ·rename_i n hs;simp only [Option.some.injEq] at ho;subst ho;refine J1.sec (C:=(⟨Try.prog,G,B⟩:Ctx)) hs (fun B'=>?_) ⟨rfl,rfl⟩;refine (h (fun _=>[]) B' _ _ _ _).monoK fun v _ e=>?_;rw [e];simp only [vV,vI,vB,vVs,vN,Ou,K3]
  ·simp at ho
 ·simp at ho
def upS:DSum:=fun args _=>match args with
 | [.agg (.of [.int .i64 a,.int .i64 _,sl,.int .i64 z])]=>match slN sl with
  | some n=>some (.one (.int .i64 (.uf 1705 upU [.int .i64 a,.int .i64 (.ofN n),.int .i64 z])) [])
  | none=>none
 | _=>none
theorem gV (G:Nat→List AV) (B:Nat):Br (⟨Try.prog,G,B⟩:Ctx) 46 upS:=by
 intro args H o ho;unfold upS at ho;split at ho
 ·rename_i a r sl z;split at ho
  ·rename_i n hs;simp only [Option.some.injEq] at ho;subst ho;refine J1.sec (C:=(⟨Try.prog,G,B⟩:Ctx)) hs (fun B'=>?_) ⟨rfl,rfl⟩;refine (fN (fun _=>[]) B' _ _ _ _).monoK fun v _ e=>?_;rw [e];simp only [vV,vI,vVs,vN,upU,K3]
  ·simp at ho
 ·simp at ho
def progIb:List (Nat×DSum):=(43,secS)::(45,secS)::(46,upS)::progIa
theorem Dv (G:Nat→List AV) (B:Nat):U5 (⟨Try.prog,G,B⟩:Ctx) progIb:=.cons (Wp G B fun G B a r z n=>cY G B a r z n) (.cons (Wp G B fun G B a r z n=>aK G B a r z n) (.cons (gV G B) (Dw G B)))
end Go.Am
namespace Go.Am
open Go.Proofs
set_option maxRecDepth 100000
theorem dt_b (G:Nat→List AV) (ks n:Nat) (x:Int) (h:Bool) (i:Nat) (Q:Ex→List AV→Hp→Prop) (R:AV→Hp→Prop):vT G Q R (Gs (Dc Try.prog [] progIb [] 1) 300 20 1 (G2 Try.f34 0) 42 [0,3,4,8,9] [.slice true (.ro (.var 2 ks)) (.lit 0) (.var 3 n),.ptr (.rw 0) (.lit 0),.nilp,.int .i64 (.ofN (.var 3 n)),.int .i64 (.ofN (.var 8 i))] [some ⟨1,.of [.int .i64 (.var 6 x),.bool (.var 7 h)]⟩])=(
  (decide ((((i:Nat):Int):Int)<((n:Nat):Int))=true→decide ((0:Int)≤((i:Nat):Int))=true∧decide ((((i:Nat):Int):Int)<((n:Nat):Int))=true∧isI .i64 (G (ks)) ((i)*4)=true∧(decide ((x:Int)≥A8 (G (ks)) ((i)*4))=true→isI .i64 (G (ks)) ((i)*4)=true∧Ph (G (ks)) ((i)*4+2)=true∧(decide ((IntKind.wrap .i64 (x - A8 (G (ks)) ((i)*4)):Int)≤IntKind.wrap .i64 (((N2 (G (ks)) ((i)*4+2):Nat):Int) - Sk [.bool (h)]))=true→Q .ret [.slice true (.ro (ks)) (0) (n),.ptr (.rw 0) (0),.ptr (.ro (ks)) ((i)*4),.int .i64 (((n:Nat):Int)),.int .i64 (((i:Nat):Int))] [some ⟨1,([.int .i64 (x),.bool (h)]:List AV)⟩])∧(decide ((IntKind.wrap .i64 (x - A8 (G (ks)) ((i)*4)):Int)≤IntKind.wrap .i64 (((N2 (G (ks)) ((i)*4+2):Nat):Int) - Sk [.bool (h)]))=false→Q .normal [.slice true (.ro (ks)) (0) (n),.ptr (.rw 0) (0),.nilp,.int .i64 (((n:Nat):Int)),.int .i64 (IntKind.wrap .i64 (((i:Nat):Int)+1))] [some ⟨1,([.int .i64 (x),.bool (h)]:List AV)⟩]))∧(decide ((x:Int)≥A8 (G (ks)) ((i)*4))=false→Q .normal [.slice true (.ro (ks)) (0) (n),.ptr (.rw 0) (0),.nilp,.int .i64 (((n:Nat):Int)),.int .i64 (IntKind.wrap .i64 (((i:Nat):Int)+1))] [some ⟨1,([.int .i64 (x),.bool (h)]:List AV)⟩]))∧(decide ((((i:Nat):Int):Int)<((n:Nat):Int))=false→Q (.exit 0) [.slice true (.ro (ks)) (0) (n),.ptr (.rw 0) (0),.nilp,.int .i64 (((n:Nat):Int)),.int .i64 (((i:Nat):Int))] [some ⟨1,([.int .i64 (x),.bool (h)]:List AV)⟩])):=by kernel_rfl
theorem in_b (G:Nat→List AV) (ks n kp m:Nat) (s x:Int) (h:Bool) (i:Nat) (Q:Ex→List AV→Hp→Prop) (R:AV→Hp→Prop):vT G Q R (Gs (Dc Try.prog [] progIb [] 2) 300 20 2 (G2 Try.f37 0) 44 [2,3,4,5] [.ptr (.rw 0) (.lit 0),.ptr (.rw 1) (.lit 0),.int .i64 (.lit 0),.int .i64 (.ofN (.var 8 i))] [some ⟨1,.of [.int .i64 (.var 1 s),.slice true (.ro (.var 2 ks)) (.lit 0) (.var 3 n),.slice true (.ro (.var 4 kp)) (.lit 0) (.var 5 m)]⟩,some ⟨1,.of [.int .i64 (.var 6 x),.bool (.var 7 h)]⟩])=(
  (decide ((((i:Nat):Int):Int)<((n:Nat):Int))=true→decide ((0:Int)≤((i:Nat):Int))=true∧decide ((((i:Nat):Int):Int)<((n:Nat):Int))=true∧H8 (G (ks)) ((i)*4) [.int .i64,.int .i64,.sl,.int .i64]=true∧(decide ((x:Int)≥A8 (G (ks)) ((i)*4))=true→(decide ((x:Int)≤8192)=true→(decide ((IntKind.wrap .i64 (x+Sk [.bool (h)]):Int)≤IntKind.wrap .i64 (A8 (G (ks)) ((i)*4)+((N2 (G (ks)) ((i)*4+2):Nat):Int)))=true→Q .ret [.ptr (.rw 0) (0),.ptr (.rw 1) (0),.int .i64 (((i:Nat):Int)),.int .i64 (((i:Nat):Int))] [some ⟨1,([.int .i64 (s),.slice true (.ro (ks)) (0) (n),.slice true (.ro (kp)) (0) (m)]:List AV)⟩,some ⟨1,([.int .i64 (x),.bool (h)]:List AV)⟩,some ⟨1,([.int .i64 (A8 (G (ks)) ((i)*4)),.int .i64 (A8 (G (ks)) ((i)*4+1)),.slice true (.ro (Bg (G (ks)) ((i)*4+2))) (Bf (G (ks)) ((i)*4+2)) (N2 (G (ks)) ((i)*4+2)),.int .i64 (A8 (G (ks)) ((i)*4+3))]:List AV)⟩])∧(decide ((IntKind.wrap .i64 (x+Sk [.bool (h)]):Int)≤IntKind.wrap .i64 (A8 (G (ks)) ((i)*4)+((N2 (G (ks)) ((i)*4+2):Nat):Int)))=false→Q .normal [.ptr (.rw 0) (0),.ptr (.rw 1) (0),.int .i64 (0),.int .i64 (IntKind.wrap .i64 (((i:Nat):Int)+1))] [some ⟨1,([.int .i64 (s),.slice true (.ro (ks)) (0) (n),.slice true (.ro (kp)) (0) (m)]:List AV)⟩,some ⟨1,([.int .i64 (x),.bool (h)]:List AV)⟩,some ⟨1,([.int .i64 (A8 (G (ks)) ((i)*4)),.int .i64 (A8 (G (ks)) ((i)*4+1)),.slice true (.ro (Bg (G (ks)) ((i)*4+2))) (Bf (G (ks)) ((i)*4+2)) (N2 (G (ks)) ((i)*4+2)),.int .i64 (A8 (G (ks)) ((i)*4+3))]:List AV)⟩]))∧(decide ((x:Int)≤8192)=false→
 Q .normal [.ptr (.rw 0) (0),.ptr (.rw 1) (0),.int .i64 (0),.int .i64 (IntKind.wrap .i64 (((i:Nat):Int)+1))] [some ⟨1,([.int .i64 (s),.slice true (.ro (ks)) (0) (n),.slice true (.ro (kp)) (0) (m)]:List AV)⟩,some ⟨1,([.int .i64 (x),.bool (h)]:List AV)⟩,some ⟨1,([.int .i64 (A8 (G (ks)) ((i)*4)),.int .i64 (A8 (G (ks)) ((i)*4+1)),.slice true (.ro (Bg (G (ks)) ((i)*4+2))) (Bf (G (ks)) ((i)*4+2)) (N2 (G (ks)) ((i)*4+2)),.int .i64 (A8 (G (ks)) ((i)*4+3))]:List AV)⟩]))∧(decide ((x:Int)≥A8 (G (ks)) ((i)*4))=false→Q .normal [.ptr (.rw 0) (0),.ptr (.rw 1) (0),.int .i64 (0),.int .i64 (IntKind.wrap .i64 (((i:Nat):Int)+1))] [some ⟨1,([.int .i64 (s),.slice true (.ro (ks)) (0) (n),.slice true (.ro (kp)) (0) (m)]:List AV)⟩,some ⟨1,([.int .i64 (x),.bool (h)]:List AV)⟩,some ⟨1,([.int .i64 (A8 (G (ks)) ((i)*4)),.int .i64 (A8 (G (ks)) ((i)*4+1)),.slice true (.ro (Bg (G (ks)) ((i)*4+2))) (Bf (G (ks)) ((i)*4+2)) (N2 (G (ks)) ((i)*4+2)),.int .i64 (A8 (G (ks)) ((i)*4+3))]:List AV)⟩]))∧(decide ((((i:Nat):Int):Int)<((n:Nat):Int))=false→Q (.exit 0) [.ptr (.rw 0) (0),.ptr (.rw 1) (0),.int .i64 (0),.int .i64 (((i:Nat):Int))] [some ⟨1,([.int .i64 (s),.slice true (.ro (ks)) (0) (n),.slice true (.ro (kp)) (0) (m)]:List AV)⟩,some ⟨1,([.int .i64 (x),.bool (h)]:List AV)⟩])):=by kernel_rfl
theorem ck_b (G:Nat→List AV) (ks n kp m:Nat) (s y:Int) (w:Bool) (i:Nat) (Q:Ex→List AV→Hp→Prop) (R:AV→Hp→Prop):vT G Q R (Gs (Dc Try.prog [] progIb [] 1) 300 20 1 (G2 Try.f20 0) 98 [1,2,3,4,31,32,33] [.ptr (.rw 0) (.lit 0),.int .i64 (.lit 0),.bool (.var 9 w),.int .i64 (.var 10 y),.slice true (.ro (.var 2 ks)) (.lit 0) (.var 3 n),.int .i64 (.ofN (.var 3 n)),.int .i64 (.ofN (.var 8 i))] [some ⟨1,.of [.int .i64 (.var 1 s),.slice true (.ro (.var 2 ks)) (.lit 0) (.var 3 n),.slice true (.ro (.var 4 kp)) (.lit 0) (.var 5 m)]⟩])=(
  (decide ((((i:Nat):Int):Int)<((n:Nat):Int))=true→decide ((0:Int)≤((i:Nat):Int))=true∧decide ((((i:Nat):Int):Int)<((n:Nat):Int))=true∧H8 (G (ks)) ((i)*4) [.int .i64,.int .i64,.sl,.int .i64]=true∧(Ou [.int .i64 (A8 (G (ks)) ((i)*4)),.int .i64 (A8 (G (ks)) ((i)*4+1)),.int .i64 (((N2 (G (ks)) ((i)*4+2):Nat):Int)),.int .i64 (A8 (G (ks)) ((i)*4+3))]=true→(decide ((A8 (G (ks)) ((i)*4):Int)<y)=true→Q .ret [.ptr (.rw 0) (0),.int .i64 (2),.bool (w),.int .i64 (y),.slice true (.ro (ks)) (0) (n),.int .i64 (((n:Nat):Int)),.int .i64 (((i:Nat):Int))] [some ⟨1,([.int .i64 (s),.slice true (.ro (ks)) (0) (n),.slice true (.ro (kp)) (0) (m)]:List AV)⟩,some ⟨1,([.int .i64 (A8 (G (ks)) ((i)*4)),.int .i64 (A8 (G (ks)) ((i)*4+1)),.slice true (.ro (Bg (G (ks)) ((i)*4+2))) (Bf (G (ks)) ((i)*4+2)) (N2 (G (ks)) ((i)*4+2)),.int .i64 (A8 (G (ks)) ((i)*4+3))]:List AV)⟩])∧(decide ((A8 (G (ks)) ((i)*4):Int)<y)=false→(w=true→Q .normal [.ptr (.rw 0) (0),.int .i64 (0),.bool (true),.int .i64 (IntKind.wrap .i64 (A8 (G (ks)) ((i)*4)+Ha [.int .i64 (((N2 (G (ks)) ((i)*4+2):Nat):Int)),.int .i64 (A8 (G (ks)) ((i)*4+3))])),.slice true (.ro (ks)) (0) (n),.int .i64 (((n:Nat):Int)),.int .i64 (IntKind.wrap .i64 (((i:Nat):Int)+1))] [some ⟨1,([.int .i64 (s),.slice true (.ro (ks)) (0) (n),.slice true (.ro (kp)) (0) (m)]:List AV)⟩,some ⟨1,([.int .i64 (A8 (G (ks)) ((i)*4)),.int .i64 (A8 (G (ks)) ((i)*4+1)),.slice true (.ro (Bg (G (ks)) ((i)*4+2))) (Bf (G (ks)) ((i)*4+2)) (N2 (G (ks)) ((i)*4+2)),.int .i64 (A8 (G (ks)) ((i)*4+3))]:List AV)⟩])∧(w=false→(((Gg .i64 (A8 (G (ks)) ((i)*4+1)) (4):Int)==0)=true→
 Q .normal [.ptr (.rw 0) (0),.int .i64 (0),.bool (false),.int .i64 (IntKind.wrap .i64 (A8 (G (ks)) ((i)*4)+Ha [.int .i64 (((N2 (G (ks)) ((i)*4+2):Nat):Int)),.int .i64 (A8 (G (ks)) ((i)*4+3))])),.slice true (.ro (ks)) (0) (n),.int .i64 (((n:Nat):Int)),.int .i64 (IntKind.wrap .i64 (((i:Nat):Int)+1))] [some ⟨1,([.int .i64 (s),.slice true (.ro (ks)) (0) (n),.slice true (.ro (kp)) (0) (m)]:List AV)⟩,some ⟨1,([.int .i64 (A8 (G (ks)) ((i)*4)),.int .i64 (A8 (G (ks)) ((i)*4+1)),.slice true (.ro (Bg (G (ks)) ((i)*4+2))) (Bf (G (ks)) ((i)*4+2)) (N2 (G (ks)) ((i)*4+2)),.int .i64 (A8 (G (ks)) ((i)*4+3))]:List AV)⟩])∧(((Gg .i64 (A8 (G (ks)) ((i)*4+1)) (4):Int)==0)=false→(decide ((s:Int)≥A8 (G (ks)) ((i)*4))=true→Q .normal [.ptr (.rw 0) (0),.int .i64 (0),.bool (decide ((s:Int)<IntKind.wrap .i64 (A8 (G (ks)) ((i)*4)+Ha [.int .i64 (((N2 (G (ks)) ((i)*4+2):Nat):Int)),.int .i64 (A8 (G (ks)) ((i)*4+3))]))),.int .i64 (IntKind.wrap .i64 (A8 (G (ks)) ((i)*4)+Ha [.int .i64 (((N2 (G (ks)) ((i)*4+2):Nat):Int)),.int .i64 (A8 (G (ks)) ((i)*4+3))])),.slice true (.ro (ks)) (0) (n),.int .i64 (((n:Nat):Int)),.int .i64 (IntKind.wrap .i64 (((i:Nat):Int)+1))] [some ⟨1,([.int .i64 (s),.slice true (.ro (ks)) (0) (n),.slice true (.ro (kp)) (0) (m)]:List AV)⟩,some ⟨1,([.int .i64 (A8 (G (ks)) ((i)*4)),.int .i64 (A8 (G (ks)) ((i)*4+1)),.slice true (.ro (Bg (G (ks)) ((i)*4+2))) (Bf (G (ks)) ((i)*4+2)) (N2 (G (ks)) ((i)*4+2)),.int .i64 (A8 (G (ks)) ((i)*4+3))]:List AV)⟩])∧(decide ((s:Int)≥A8 (G (ks)) ((i)*4))=false→
 Q .normal [.ptr (.rw 0) (0),.int .i64 (0),.bool (false),.int .i64 (IntKind.wrap .i64 (A8 (G (ks)) ((i)*4)+Ha [.int .i64 (((N2 (G (ks)) ((i)*4+2):Nat):Int)),.int .i64 (A8 (G (ks)) ((i)*4+3))])),.slice true (.ro (ks)) (0) (n),.int .i64 (((n:Nat):Int)),.int .i64 (IntKind.wrap .i64 (((i:Nat):Int)+1))] [some ⟨1,([.int .i64 (s),.slice true (.ro (ks)) (0) (n),.slice true (.ro (kp)) (0) (m)]:List AV)⟩,some ⟨1,([.int .i64 (A8 (G (ks)) ((i)*4)),.int .i64 (A8 (G (ks)) ((i)*4+1)),.slice true (.ro (Bg (G (ks)) ((i)*4+2))) (Bf (G (ks)) ((i)*4+2)) (N2 (G (ks)) ((i)*4+2)),.int .i64 (A8 (G (ks)) ((i)*4+3))]:List AV)⟩])))))∧(Ou [.int .i64 (A8 (G (ks)) ((i)*4)),.int .i64 (A8 (G (ks)) ((i)*4+1)),.int .i64 (((N2 (G (ks)) ((i)*4+2):Nat):Int)),.int .i64 (A8 (G (ks)) ((i)*4+3))]=false→Q .ret [.ptr (.rw 0) (0),.int .i64 (2),.bool (w),.int .i64 (y),.slice true (.ro (ks)) (0) (n),.int .i64 (((n:Nat):Int)),.int .i64 (((i:Nat):Int))] [some ⟨1,([.int .i64 (s),.slice true (.ro (ks)) (0) (n),.slice true (.ro (kp)) (0) (m)]:List AV)⟩,some ⟨1,([.int .i64 (A8 (G (ks)) ((i)*4)),.int .i64 (A8 (G (ks)) ((i)*4+1)),.slice true (.ro (Bg (G (ks)) ((i)*4+2))) (Bf (G (ks)) ((i)*4+2)) (N2 (G (ks)) ((i)*4+2)),.int .i64 (A8 (G (ks)) ((i)*4+3))]:List AV)⟩]))∧(decide ((((i:Nat):Int):Int)<((n:Nat):Int))=false→Q (.exit 0) [.ptr (.rw 0) (0),.int .i64 (0),.bool (w),.int .i64 (y),.slice true (.ro (ks)) (0) (n),.int .i64 (((n:Nat):Int)),.int .i64 (((i:Nat):Int))] [some ⟨1,([.int .i64 (s),.slice true (.ro (ks)) (0) (n),.slice true (.ro (kp)) (0) (m)]:List AV)⟩])):=by kernel_rfl
end Go.Am
