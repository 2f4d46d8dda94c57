/-
  An abstract machine over the kit's programs: abstract values, abstract
-/
import Derived.Orders
import Derived.Below
import Derived.KernelRfl
namespace Go.Am
open Nat renaming beq → zL
theorem zN.{u}:∀ {α:Type u} (a b:α),(some a=some b)=(a=b):=@Option.some.injEq
theorem zO:∀ a b:Bool,((a&&b)=true)=(a=true∧b=true):=@Bool.and_eq_true
theorem zP.{u}:∀ {α:Type u} {i:Nat} {a:α} {l:List α},l[i]?=some a↔∃ h:i<l.length,l[i]=a:=@List.getElem?_eq_some_iff
theorem zR:∀ {p:Prop} [Decidable p],decide p=true→p:=@of_decide_eq_true
theorem yI:∀ {p:Prop} [Decidable p],p→decide p=true:=@decide_eq_true
theorem xH.{u,v}:∀ {α:Type u} {β:Type v} (a:α) (b:β) (c:α) (d:β),((a,b)=(c,d))=(a=c∧b=d):=@Prod.mk.injEq
theorem xW.{u}:∀ {α:Type u} {l:List α} {i:Nat} (h:i<l.length),l[i]?=some l[i]:=@List.getElem?_eq_getElem
theorem sJ:∀ {p:Prop} [Decidable p],decide p=false→¬p:=@of_decide_eq_false
theorem sL:∀ {p:Prop} [Decidable p],¬p→decide p=false:=@decide_eq_false
theorem rG:∀ {n m:Nat},Nat.beq n m=true→n=m:=@Nat.eq_of_beq_eq_true
theorem qC:∀ {p:Prop} [Decidable p],(decide p=true)=p:=@decide_eq_true_eq
theorem qD.{u}:∀ {α:Type u} {p:α→Bool} {l:List α},l.all p=true↔∀ x,x∈l→p x=true:=@List.all_eq_true
theorem qP.{u}:∀ {α:Type u} {l k:List α} {i:Nat},l.length≤i→(l++k)[i]?=k[i-l.length]?:=@List.getElem?_append_right
theorem pY.{u}:∀ {α:Type u} {l k:List α} {i:Nat},i<l.length→(l++k)[i]?=l[i]?:=@List.getElem?_append_left
theorem zA0.{u,v}:∀ {α:Type u} {β:Type v} {f:α→β} {l:List α} {i:Nat},(l.map f)[i]?=(l[i]?).map f:=@List.getElem?_map
theorem zA1.{u}:∀ {α:Type u} {l:List α} {i:Nat} {a:α},l[i]?=some a→a∈l:=@List.mem_of_getElem?
theorem zA2:∀ {n m:Nat},Nat.ble n m=true→n≤m:=@Nat.le_of_ble_eq_true
theorem zA3.{u}:∀ {α:Type u} {l:List α} {i:Nat},l.length≤i→l[i]?=none:=@List.getElem?_eq_none
theorem zA4.{u}:∀ {α:Type u} {l:List α} {i j:Nat},(l.take i)[j]?=if j<i then l[j]? else none:=@List.getElem?_take
theorem zA5.{u}:∀ {α:Type u} {l:List α} {i j:Nat} {a:α},(l.set i a)[j]?=if i=j then if i<l.length then some a else none else l[j]?:=@List.getElem?_set
theorem zA6.{u}:∀ {α:Type u} {as bs:List α},(as++bs).length=as.length+bs.length:=@List.length_append
theorem zA7:∀ n:Nat,n≤n:=@Nat.le_refl
theorem zA8:∀ n:Nat,0≤n:=@Nat.zero_le
theorem zA9:∀ n:Nat,Nat.beq n n=true:=@Nat.beq_refl
inductive Ref where
 | rw (i:Nat)
 | ro (i:Nat)
 deriving DecidableEq
inductive AV where
 | undef
 | bool (b:Bool)
 | int (k:IntKind) (n:Int)
 | str (s:List UInt8)
 | nilp
 | ptr (r:Ref) (off:Nat)
 | nils
 | slice (mb:Bool) (r:Ref) (off len:Nat)
 | nilf
 | func (f:FuncId) (cap:List AV)
 | agg (cs:List AV)
 | tup (vs:List AV)
 /-- what a round of the loop with this record is asked for by -/
 | yld (i:Nat)
 /-- how the record of a loop over a function stands;what its rounds assign and do -/
 | rcd (p:Nat) (ps:Array Nat) (a b:Code)
structure Blk where
 esz:Nat
 cells:List AV
abbrev Hp:=List (Option Blk)
def isRec (b:Blk):Bool:=zL b.esz 4294967291
def R0:Code→Bool
 | .seq a b=>R0 a&&R0 b
 | .cond _ a b=>R0 a&&R0 b
 | .block _ c=>R0 c
 | .scope c=>R0 c
 | .loop c=>R0 c
 | .rangeFunc ..=>false
 | _=>true
def Ea (z:Nat):Bool:=!zL z 4294967291
abbrev Fr:=List AV
inductive Ex where
 | normal
 | exit (id:Nat)
 | ret
structure A1 where
 P:Program
 G:Nat→List AV
 B:Nat
def Y8:Value→AV
 | .bool b=>.bool b
 | .int k n=>.int k n
 | .string s=>.str s.data.toList
 | .pointer none=>.nilp
 | .slice none 0 0=>.nils
 | .nilFunc=>.nilf
 | _=>.undef
def D7:Value→AV
 | .agg cs=>.agg (cs.toList.map Y8)
 | v=>Y8 v
def ev (F:Fr):Operand→AV
 | .tmp t=>F.getD t .undef
 | .const v=>D7 v
 | .global _=>.undef
 | .func f=>.func f []
def put (F:Fr) (d:Option Tmp) (v:AV):Fr:=
 match d with
 | some d=>F.set d v
 | none=>F
def chk (c:Bool) (K:Prop):Prop:=match c with | true=>K | false=>False
def tst (b:Bool) (A B:Prop):Prop:=match b with | true=>A | false=>B
def cV (h:Option Bool) (b:Bool) (A B:Prop):Prop:=
 match h with
 | none=>tst b A B
 | some true=>chk b A
 | some false=>chk (!b) B
def Sp (o:Option (Bool×AV)) (K:AV→Prop):Prop:=match o with | some (c,v)=>chk c (K v) | none=>False
def Kf (n:Nat) (k:Nat→Prop):Prop:=match n with | 0=>k 0 | n+1=>k (n+1)
def nQ (n:Int) (k:Int→Prop):Prop:=match n with | .ofNat a=>Kf a fun a=>k (.ofNat a) | .negSucc a=>Kf a fun a=>k (.negSucc a)
def eR (r:Ref) (k:Ref→Prop):Prop:=match r with | .rw i=>Kf i fun i=>k (.rw i) | .ro i=>Kf i fun i=>k (.ro i)
def eY (v:AV) (k:AV→Prop):Prop:=
 match v with
 | .undef=>k .undef
 | .bool b=>match b with | true=>k (.bool true) | false=>k (.bool false)
 | .int t n=>nQ n fun n=>k (.int t n)
 | .str s=>k (.str s)
 | .nilp=>k .nilp
 | .ptr r off=>eR r fun r=>Kf off fun off=>k (.ptr r off)
 | .nils=>k .nils
 | .slice mb r off len=>eR r fun r=>Kf off fun off=>Kf len fun len=>k (.slice mb r off len)
 | .nilf=>k .nilf
 | .func f cap=>k (.func f cap)
 | .agg cs=>k (.agg cs)
 | .tup vs=>k (.tup vs)
 | .yld i=>Kf i fun i=>k (.yld i)
 | .rcd p ps a b=>Kf p fun p=>k (.rcd p ps a b)
def Rs (l:List AV) (k:List AV→Prop):Prop:=
 match l with
 | []=>k []
 | x::xs=>eY x fun x=>Rs xs fun xs=>k (x::xs)
def nO (v:AV) (k:AV→Prop):Prop:=
 match v with
 | .agg cs=>Rs cs fun cs=>k (.agg cs)
 | .tup vs=>Rs vs fun vs=>k (.tup vs)
 | .func f cap=>Rs cap fun cap=>k (.func f cap)
 | v=>eY v k
def Og {α:Type} (F:List α) (d:Nat) (v:α) (k:List α→Prop):Prop:=
 match F,d with
 | [],_=>k []
 | _::xs,0=>k (v::xs)
 | x::xs,d+1=>Og xs d v fun ys=>k (x::ys)
def Nl {α:Type} (F:List α) (v:α) (k:List α→Prop):Prop:=
 match F with
 | []=>k [v]
 | x::xs=>Nl xs v fun ys=>k (x::ys)
inductive Md where
 | lazy | half | full
def nS (v:AV) (k:AV→Prop):Prop:=
 match v with
 | .undef=>k .undef
 | .bool b=>k (.bool b)
 | .int t n=>k (.int t n)
 | .str s=>k (.str s)
 | .nilp=>k .nilp
 | .ptr r off=>k (.ptr r off)
 | .nils=>k .nils
 | .slice mb r off len=>k (.slice mb r off len)
 | .nilf=>k .nilf
 | .func f cap=>k (.func f cap)
 | .agg cs=>k (.agg cs)
 | .tup vs=>k (.tup vs)
 | .yld i=>k (.yld i)
 | .rcd p ps a b=>k (.rcd p ps a b)
def Xd (l:List AV) (k:List AV→Prop):Prop:=
 match l with
 | []=>k []
 | x::xs=>nS x fun x=>Xd xs fun xs=>k (x::xs)
def nP (v:AV) (k:AV→Prop):Prop:=
 match v with
 | .tup vs=>Xd vs fun vs=>k (.tup vs)
 | v=>nS v k
def S0 (s:Md) (F:Fr) (d:Option Tmp) (v:AV) (k:Fr→Prop):Prop:=
 match s with
 | .lazy=>k (put F d v)
 | .half=>match d with
  | some d=>nP v fun v=>Og F d v k
  | none=>k F
 | .full=>match d with
  | some d=>nO v fun v=>Og F d v k
  | none=>k F
def nam (e:Int) (K:Int→Prop):Prop:=∀ x,x=e→K x
def dL (nm:Bool) (s:Md) (F:Fr) (d:Option Tmp) (v:AV) (k:Fr→Prop):Prop:=
 match nm with
 | false=>S0 s F d v k
 | true=>match v with
  | .int t e=>nam e fun x=>S0 s F d (.int t x) k
  | v=>S0 s F d v k
def dJ (sp nm:Bool) (s:Md) (F:Fr) (d:Option Tmp) (v:AV) (k:Fr→Prop):Prop:=
 match sp with
 | false=>dL nm s F d v k
 | true=>match v with
  | .bool b=>tst b (S0 s F d (.bool true) k) (S0 s F d (.bool false) k)
  | v=>dL nm s F d v k
def dY:List AV→(List AV→Prop)→Prop
 | [],k=>k []
 | .int t e::l,k=>nam e fun x=>dY l fun l'=>k (.int t x::l')
 | v::l,k=>dY l fun l'=>k (v::l')
def namL (nm:Bool) (args:List AV) (k:List AV→Prop):Prop:=
 match nm with
 | false=>k args
 | true=>dY args k
def Ro:Op→Bool
 | .assign _=>true
 | _=>false
inductive Hop where
 | set (i:Nat) (b:Blk)
 | new (b:Blk)
 | app (j:Nat) (b:Blk)
def Hop.act (H:Hp):Hop→Hp
 | .set i b=>H.set i (some b)
 | .new b=>H++[some b]
 | .app j b=>H.set j none++[some b]
def acts (H:Hp):List Hop→Hp
 | []=>H
 | h::hs=>acts (h.act H) hs
def Zl (b:Blk) (k:Blk→Prop):Prop:=match b with | ⟨e,cs⟩=>Rs cs fun cs=>k ⟨e,cs⟩
def Un (s:Md) (H:Hp) (o:Hop) (k:Hp→Prop):Prop:=
 match s with
 | .lazy=>k (o.act H)
 | .half=>match o with
  | .set i b=>match b with | ⟨e,cs⟩=>Og H i (some ⟨e,cs⟩) k
  | .new b=>match b with | ⟨e,cs⟩=>Nl H (some ⟨e,cs⟩) k
  | .app j b=>match b with | ⟨e,cs⟩=>Og H j none fun H=>Nl H (some ⟨e,cs⟩) k
 | .full=>match o with
  | .set i b=>Zl b fun b=>Og H i (some b) k
  | .new b=>Zl b fun b=>Nl H (some b) k
  | .app j b=>Zl b fun b=>Og H j none fun H=>Nl H (some b) k
def Rq (s:Md) (H:Hp) (o:List Hop) (k:Hp→Prop):Prop:=
 match o with
 | []=>k H
 | h::hs=>Un s H h fun H=>Rq s H hs k
def P1 (k:IntKind) (x y:Int):Int:=k.wrap (BitVec.ofInt k.bits x &&& BitVec.ofInt k.bits y).toNat
def Kh (k:IntKind) (x y:Int):Int:=k.wrap (BitVec.ofInt k.bits x ||| BitVec.ofInt k.bits y).toNat
def Gw (k:IntKind) (x y:Int):Int:=k.wrap (BitVec.ofInt k.bits x ^^^ BitVec.ofInt k.bits y).toNat
def eJ (k:IntKind) (x y:Int):Int:=k.wrap (BitVec.ofInt k.bits x &&& ~~~ BitVec.ofInt k.bits y).toNat
def Zd (k:IntKind) (n:Int):Int:=k.wrap (BitVec.ofInt k.bits (if k.signed then -1 else k.max) ^^^ BitVec.ofInt k.bits n).toNat
def V7 (k:IntKind) (x y:Int):Int:=k.wrap (x*2^(min y.toNat k.bits))
def S4 (k:IntKind) (x y:Int):Int:=x.fdiv (2^(min y.toNat k.bits))
def Vp (op:BinOp) (k:IntKind) (x y:Int):Option (Bool×AV):=
 match op with
 | .add=>some (true,.int k (k.wrap (x+y)))
 | .sub=>some (true,.int k (k.wrap (x - y)))
 | .mul=>some (true,.int k (k.wrap (x*y)))
 | .quo=>some (!(y==0),.int k (k.wrap (x.tdiv y)))
 | .rem=>some (!(y==0),.int k (x.tmod y))
 | .and=>some (true,.int k (P1 k x y))
 | .or=>some (true,.int k (Kh k x y))
 | .xor=>some (true,.int k (Gw k x y))
 | .andNot=>some (true,.int k (eJ k x y))
 | .eql=>some (true,.bool (x==y))
 | .neq=>some (true,.bool (x != y))
 | .lss=>some (true,.bool (decide (x<y)))
 | .leq=>some (true,.bool (decide (x≤y)))
 | .gtr=>some (true,.bool (decide (x>y)))
 | .geq=>some (true,.bool (decide (x≥y)))
 | _=>none
def Mt (op:BinOp) (k:IntKind) (x y:Int):Option (Bool×AV):=
 match op with
 | .shl=>some (decide (0≤y),.int k (V7 k x y))
 | .shr=>some (decide (0≤y),.int k (S4 k x y))
 | _=>none
def Vn (op:BinOp) (x y:List UInt8):Option (Bool×AV):=
 match op with
 | .add=>some (decide (x.length+y.length≤9223372036854775807),.str (x++y))
 | .eql=>some (true,.bool (x==y))
 | .neq=>some (true,.bool (!(x==y)))
 | _=>none
def Fa (op:BinOp) (c:Bool) (b:Bool):Option (Bool×AV):=
 match op with
 | .eql=>some (c,.bool b)
 | .neq=>some (c,.bool (!b))
 | _=>none
def I0 (P:Program) (t:TypeId):Option Nat:=(P.info? t).map (·.size)
def A2 (cs:List AV) (off:Nat):Int:=match cs[off]? with | some (.int _ n)=>n | _=>0
def isI (k:IntKind) (cs:List AV) (off:Nat):Bool:=match cs[off]? with | some (.int k' _)=>k==k' | _=>false
def G8 (cs:List AV) (off:Nat):Bool:=match cs[off]? with | some (.bool b)=>b | _=>false
def isB (cs:List AV) (off:Nat):Bool:=match cs[off]? with | some (.bool _)=>true | _=>false
def V4 (P:Program) (t:TypeId) (cs:List AV) (off:Nat):Option (Bool×AV):=
 match P.underlying t with
 | some (.int k)=>some (isI k cs off,.int k (A2 cs off))
 | some .bool=>some (isB cs off,.bool (G8 cs off))
 | some (.struct _)=>match I0 P t with
  | some z=>some (decide (off+z≤cs.length),.agg ((cs.drop off).take z))
  | none=>none
 | some (.array _ _)=>match I0 P t with
  | some z=>some (decide (off+z≤cs.length),.agg ((cs.drop off).take z))
  | none=>none
 | some _=>match cs[off]? with
  | some v=>some (true,v)
  | none=>none
 | none=>none
def Rw (P:Program) (rec:TypeId→AV→AV→Option (Bool×Bool)) (xs ys:List AV):List Field→Option (Bool×Bool)
 | []=>some (true,true)
 | f::fs=>
  if f.name ≠ "_" then
   match V4 P f.type xs f.offset,V4 P f.type ys f.offset with
   | some (c1,a),some (c2,b)=>
    match rec f.type a b,Rw P rec xs ys fs with
    | some (c3,r),some (c4,s)=>some (c1&&(c2&&(c3&&c4)),r&&s)
    | _,_=>none
   | _,_=>none
  else Rw P rec xs ys fs
def Ve (P:Program) (rec:TypeId→AV→AV→Option (Bool×Bool)) (e:TypeId) (z:Nat) (xs ys:List AV):List Nat→Option (Bool×Bool)
 | []=>some (true,true)
 | i::is=>
   match V4 P e xs (i*z),V4 P e ys (i*z) with
   | some (c1,a),some (c2,b)=>
    match rec e a b,Ve P rec e z xs ys is with
    | some (c3,r),some (c4,s)=>some (c1&&(c2&&(c3&&c4)),r&&s)
    | _,_=>none
   | _,_=>none
def Su (P:Program):Nat→TypeId→AV→AV→Option (Bool×Bool)
 | 0,_,_,_=>none
 | n+1,t,x,y=>
  match P.underlying t with
  | some (.int _)=>match x,y with
   | .int k a,.int k' b=>some (decide (k=k'),a==b)
   | _,_=>none
  | some .bool=>match x,y with
   | .bool a,.bool b=>some (true,a==b)
   | _,_=>none
  | some .string=>match x,y with
   | .str a,.str b=>some (true,a==b)
   | _,_=>none
  | some (.struct fs)=>match x,y with
   | .agg xs,.agg ys=>match P.stoodInHeld t with
    | true=>none
    | false=>Rw P (Su P n) xs ys fs.toList
   | _,_=>none
  | some (.array m e)=>match x,y with
   | .agg xs,.agg ys=>match I0 P e with
    | some z=>Ve P (Su P n) e z xs ys (List.range m)
    | none=>none
   | _,_=>none
  | _=>none
def Jo (d:Option TypeDesc):Bool:=match d with | some (.pointer _)=>true | _=>false
def Ih (d:Option TypeDesc):Bool:=match d with | some (.slice _)=>true | _=>false
def Li (d:Option TypeDesc):Bool:=match d with | some (.func _ _ _)=>true | _=>false
def Xb (d:Option TypeDesc):Bool:=match d with | some .bool=>true | _=>false
def T9 (P:Program) (op:BinOp) (t:TypeId) (x y:AV):Option (Bool×AV):=
 match x,y with
 | .int k a,.int k' b=>
  match op with
  | .shl | .shr=>Mt op k a b
  | _=>if k=k' then Vp op k a b else none
 | .str a,.str b=>Vn op a b
 | .bool a,.bool b=>Fa op (Xb (P.underlying t)) (a==b)
 | .ptr _ _,.nilp=>Fa op (Jo (P.underlying t)) false
 | .nilp,.ptr _ _=>Fa op (Jo (P.underlying t)) false
 | .nilp,.nilp=>Fa op (Jo (P.underlying t)) true
 | .slice false _ _ _,.nils=>Fa op (Ih (P.underlying t)) false
 | .nils,.nils=>Fa op (Ih (P.underlying t)) true
 | .func _ _,.nilf=>Fa op (Li (P.underlying t)) false
 | .nilf,.nilf=>Fa op (Li (P.underlying t)) true
 | .agg xs,.agg ys=>
  match P.eqGuardType P.depth t with
  | true=>none
  | false=>match Su P 10 t (.agg xs) (.agg ys) with
   | some (c,b)=>Fa op c b
   | none=>none
 | _,_=>none
def lA (op:UnOp) (x:AV):Option (Bool×AV):=
 match op,x with
 | .neg,.int k n=>some (true,.int k (k.wrap (0 - n)))
 | .xor,.int k n=>some (true,.int k (Zd k n))
 | .not,.bool b=>some (true,.bool (!b))
 | _,_=>none
def Qe (P:Program) (src dst:TypeId) (x:AV):Option (Bool×AV):=
 match P.underlying src,P.underlying dst,x with
 | some _,some (.int k),.int _ n=>some (true,.int k (k.wrap n))
 | some _,some .string,.str s=>some (true,.str s)
 | _,_,_=>none
def Qb (P:Program) (s:TypeId) (x:AV) (f:Nat):Option (Bool×AV):=
 match P.underlying s,x with
 | some (.struct fs),.ptr r off=>
  match fs[f]? with
  | some fd=>
   match I0 P fd.type with
   | some 0=>none
   | some _=>some (true,.ptr r (off+fd.offset))
   | none=>none
  | none=>none
 | _,_=>none
def Uf (i z:Nat):Nat:=match z with | 1=>i | z=>i*z
def Lj (P:Program) (t:TypeId) (x i:AV):Option (Bool×AV):=
 match i with
 | .int _ i=>
  match P.underlying t,x with
  | some (.array len e),.ptr r off=>
   match I0 P e with
   | some z=>some (decide (0≤i)&&decide (i<len),.ptr r (Uf i.toNat z+off))
   | none=>none
  | some (.slice e),.slice _ r off len=>
   match I0 P e with
   | some z=>some (decide (0≤i)&&decide (i<len),.ptr r (Uf i.toNat z+off))
   | none=>none
  | _,_=>none
 | _=>none
def Y3 (x:Option AV) (d:Int):Option Int:=
 match x with
 | none=>some d
 | some (.int _ i)=>some i
 | some _=>none
def Hs (P:Program) (t:TypeId) (x:AV) (lo hi:Option AV):Option (Bool×AV):=
 match P.underlying t,x with
 | some (.slice e),.slice mb r off len=>
  match I0 P e,Y3 lo 0,Y3 hi len with
  | some z,some l,some h=>some (decide (0≤l)&&(decide (l≤h)&&decide (h≤len)),.slice mb r (Uf l.toNat z+off) (h.toNat - l.toNat))
  | _,_,_=>none
 | some (.slice e),.nils=>
  match I0 P e,Y3 lo 0,Y3 hi 0 with
  | some _,some l,some h=>some (decide (0≤l)&&(decide (l≤h)&&decide (h≤0)),.nils)
  | _,_,_=>none
 | some .string,.str s=>
  match Y3 lo 0,Y3 hi s.length with
  | some l,some h=>some (decide (0≤l)&&(decide (l≤h)&&decide (h≤s.length)),.str ((s.take h.toNat).drop l.toNat))
  | _,_=>none
 | _,_=>none
def C1:AV→List AV
 | .agg cs=>cs
 | v=>[v]
def gJ (cells:List AV) (off:Nat) (cs:List AV):List AV:=cells.take off++(cs++cells.drop (off+cs.length))
def G3 (cells:List AV) (off:Nat) (v:AV):List AV:=
 match v with
 | .agg cs=>gJ cells off cs
 | v=>cells.set off v
def Gv:AV→Bool
 | .undef | .rcd ..=>false
 | _=>true
def isCell:AV→Bool
 | .undef | .agg _ | .tup _ | .rcd ..=>false
 | _=>true
def O3:AV→Nat
 | .agg cs=>cs.length
 | _=>1
def Dg (place:Nat→Option (Nat×Nat)) (cells:List AV):List (Nat×AV)→Option (Bool×List AV)
 | []=>some (true,cells)
 | (i,v)::rest=>
  match place i with
  | none=>none
  | some (off,size)=>
   match Dg place (G3 cells off v) rest with
   | none=>none
   | some (c,r)=>some (Gv v&&(O3 v==size&&(decide (off+size≤cells.length)&&c)),r)
def Y4 (P:Program) (t:TypeId):Option AV:=
 match P.info? t with
 | some i=>match i.zero with
  | some z=>some (D7 z)
  | none=>none
 | none=>none
def Ia (P:Program):List Field→Option (List (Nat×Nat))
 | []=>some []
 | f::fs=>
  match I0 P f.type,Ia P fs with
  | some z,some r=>some ((f.offset,z)::r)
  | _,_=>none
def Lm (P:Program) (t:TypeId) (parts:List (Nat×AV)):Option (Bool×AV):=
 match P.underlying t,Y4 P t with
 | some (.struct fs),some (.agg z)=>
  match Ia P fs.toList with
  | some ps=>
   match Dg (fun i=>ps[i]?) z parts with
   | some (c,cs)=>some (c,.agg cs)
   | none=>none
  | none=>none
 | some (.array _ e),some (.agg z)=>
  match I0 P e with
  | some n=>
   match Dg (fun i=>some (i*n,n)) z parts with
   | some (c,cs)=>some (c,.agg cs)
   | none=>none
  | none=>none
 | _,_=>none
def Nu (P:Program) (t:TypeId) (x:AV):Option (Bool×AV):=
 match P.underlying t,x with
 | some .string,.str s=>some (true,.int .i64 s.length)
 | some (.array n _),_=>some (true,.int .i64 n)
 | some (.slice _),.slice _ _ _ n=>some (true,.int .i64 n)
 | some (.slice _),.nils=>some (true,.int .i64 0)
 | _,_=>none
def cE (P:Program) (t:TypeId) (x:AV):Option (Bool×AV):=
 match P.underlying t,x with
 | some (.slice _),.nils=>some (true,.int .i64 0)
 | _,_=>none
def bD (x y:AV):Option (Bool×AV):=
 match x,y with
 | .int k a,.int k' b=>if k=k' then some (true,.int k (if b>a then b else a)) else none
 | _,_=>none
def bB (x y:AV):Option (Bool×AV):=
 match x,y with
 | .int k a,.int k' b=>if k=k' then some (true,.int k (if b<a then b else a)) else none
 | _,_=>none
def Tw (c a b:AV):Option (Bool×AV):=
 match c with
 | .bool true=>some (true,a)
 | .bool false=>some (true,b)
 | _=>none
def Kr (x:AV):Option (Bool×AV):=
 match x with
 | .ptr r o=>some (true,.ptr r o)
 | .func f c=>some (true,.func f c)
 | .slice m r o n=>some (true,.slice m r o n)
 | _=>none
def G5 (P:Program) (F:Fr) (op:Op):Option (Bool×AV):=
 match op with
 | .move x=>some (true,ev F x)
 | .assign x=>some (true,ev F x)
 | .pick c a b=>Tw (ev F c) (ev F a) (ev F b)
 | .nilCheck x=>Kr (ev F x)
 | .binOp op t x y _=>T9 P op t (ev F x) (ev F y)
 | .unOp op _ x=>lA op (ev F x)
 | .convert s d x=>Qe P s d (ev F x)
 | .fieldAddr s x f=>Qb P s (ev F x) f
 | .indexAddr t x i=>Lj P t (ev F x) (ev F i)
 | .slice t x lo hi none=>Hs P t (ev F x) (lo.map (ev F)) (hi.map (ev F))
 | .build t parts=>Lm P t (parts.toList.map fun p=>(p.1,ev F p.2))
 | .extract x i=>match ev F x with
  | .tup vs=>match vs[i]? with
   | some v=>some (true,v)
   | none=>none
  | _=>none
 | .makeFunc (.func f) first cap=>if first.size=0 then some (true,.func f (cap.toList.map (ev F))) else none
 | .call { callee:=.builtin .len,args,argTypes }=>
  match args.toList,argTypes.toList with
  | [x],[t]=>Nu P t (ev F x)
  | _,_=>none
 | .call { callee:=.builtin .cap,args,argTypes }=>
  match args.toList,argTypes.toList with
  | [x],[t]=>cE P t (ev F x)
  | _,_=>none
 | .call { callee:=.builtin .max,args,.. }=>
  match args.toList with
  | [x,y]=>bD (ev F x) (ev F y)
  | _=>none
 | .call { callee:=.builtin .min,args,.. }=>
  match args.toList with
  | [x,y]=>bB (ev F x) (ev F y)
  | _=>none
 | _=>none
def E5 (C:A1) (H:Hp):Ref→Option (List AV)
 | .rw i=>match H[i]? with
  | some (some b)=>match isRec b with
   | true=>none
   | false=>some b.cells
  | _=>none
 | .ro i=>some (C.G i)
inductive Lf where
 | int (k:IntKind)
 | bool
 | str
 | sl
def G0 (cs:List AV) (off:Nat):Nat:=match cs[off]? with | some (.slice _ (.ro k) _ _)=>k | _=>0
def H8 (cs:List AV) (off:Nat):Nat:=match cs[off]? with | some (.slice _ (.ro _) o _)=>o | _=>0
def D1 (cs:List AV) (off:Nat):Nat:=match cs[off]? with | some (.slice _ (.ro _) _ n)=>n | _=>0
def Ey (cs:List AV) (off:Nat):Bool:=match cs[off]? with | some .nils=>true | some (.slice _ (.ro _) _ _)=>true | _=>false
def bK (cs:List AV) (off:Nat):List UInt8:=match cs[off]? with | some (.str s)=>s | _=>[]
def kD (cs:List AV) (off:Nat):Bool:=match cs[off]? with | some (.str _)=>true | _=>false
def Nv (l:Lf) (cs:List AV) (off:Nat):AV:=
 match l with
 | .int k=>.int k (A2 cs off)
 | .bool=>.bool (G8 cs off)
 | .str=>.str (bK cs off)
 | .sl=>.slice true (.ro (G0 cs off)) (H8 cs off) (D1 cs off)
def Ao (l:Lf) (cs:List AV) (off:Nat):Bool:=
 match l with
 | .int k=>isI k cs off
 | .bool=>isB cs off
 | .str=>kD cs off
 | .sl=>Ey cs off
def An (cs:List AV):Nat→List Lf→List AV
 | _,[]=>[]
 | off,l::ls=>Nv l cs off::An cs (off+1) ls
def G6 (cs:List AV):Nat→List Lf→Bool
 | _,[]=>true
 | off,l::ls=>Ao l cs off&&G6 cs (off+1) ls
def zU (rec:TypeId→Option (List Lf)):Nat→List Field→Option (List Lf)
 | _,[]=>some []
 | acc,f::fs=>
  match zL f.offset acc with
  | true=>match rec f.type with
   | some a=>match zU rec (acc+a.length) fs with
    | some b=>some (a++b)
    | none=>none
   | none=>none
  | false=>none
def Wz (P:Program):Nat→TypeId→Option (List Lf)
 | 0,_=>none
 | n+1,t=>
  match P.underlying t with
  | some (.int k)=>some [.int k]
  | some .bool=>some [.bool]
  | some .string=>some [.str]
  | some (.slice _)=>some [.sl]
  | some (.struct fs)=>zU (Wz P n) 0 fs.toList
  | some (.array m e)=>match Wz P n e with
   | some a=>some (List.replicate m a).flatten
   | none=>none
  | _=>none
def jY (P:Program) (t:TypeId) (cs:List AV) (off:Nat):Option (Bool×AV):=
 match P.underlying t with
 | some (.int k)=>some (isI k cs off,.int k (A2 cs off))
 | some .bool=>some (isB cs off,.bool (G8 cs off))
 | some .string=>some (kD cs off,.str (bK cs off))
 | some (.slice _)=>some (Ey cs off,.slice true (.ro (G0 cs off)) (H8 cs off) (D1 cs off))
 | some (.struct _)=>match I0 P t,Wz P 10 t with
  | some z,some ls=>some (zL ls.length z&&G6 cs off ls,.agg (An cs off ls))
  | _,_=>none
 | some (.array _ _)=>match I0 P t,Wz P 10 t with
  | some z,some ls=>some (zL ls.length z&&G6 cs off ls,.agg (An cs off ls))
  | _,_=>none
 | _=>none
def Np (P:Program) (r:Ref) (t:TypeId) (cs:List AV) (off:Nat):Option (Bool×AV):=
 match r with
 | .rw _=>V4 P t cs off
 | .ro _=>jY P t cs off
def Kt (C:A1) (H:Hp) (t:TypeId) (r:Ref) (off:Nat):Option (Bool×AV):=
 match E5 C H r with
 | some cs=>Np C.P r t cs off
 | none=>none
def Tb:AV→UInt8
 | .int _ n=>UInt8.ofNat n.toNat
 | _=>0
def Om:AV→Bool
 | .int .u8 _=>true
 | _=>false
def W3 (P:Program) (t:TypeId):Bool:=
 match P.underlying t with
 | some (.slice e)=>match P.underlying e with
  | some (.int .u8)=>true
  | _=>false
 | _=>false
def Z0 (P:Program) (t:TypeId):Bool:=match P.underlying t with | some .string=>true | _=>false
def tO (cs:List AV) (off n:Nat):Bool×AV:=
 (decide (off+n≤cs.length)&&((cs.drop off).take n).all Om,.str (((cs.drop off).take n).map Tb))
def M7 (C:A1) (F:Fr) (H:Hp) (op:Op):Option (Bool×AV):=
 match op with
 | .load t a=>match ev F a with
  | .ptr r off=>Kt C H t r off
  | _=>none
 | .field t x f=>
  match C.P.underlying t,ev F x with
  | some (.struct fs),.agg cs=>match fs[f]? with
   | some fd=>V4 C.P fd.type cs fd.offset
   | none=>none
  | _,_=>none
 | .index t x i=>
  match C.P.underlying t,ev F x,ev F i with
  | some (.array len e),.agg cs,.int _ i=>match I0 C.P e with
   | some z=>match V4 C.P e cs (Uf i.toNat z) with
    | some (c,v)=>some (decide (0≤i)&&(decide (i<len)&&c),v)
    | none=>none
   | none=>none
  | _,_,_=>none
 | .convert s d x=>
  match W3 C.P s&&Z0 C.P d,ev F x with
  | true,.nils=>some (true,.str [])
  | true,.slice _ r off n=>match E5 C H r with
   | some cs=>some (tO cs off n)
   | none=>none
  | _,_=>none
 | _=>none
def Lx (F:Fr) (op:Op):Option Ref:=
 match op with
 | .load _ a=>match ev F a with
  | .ptr r _=>some r
  | _=>none
 | .convert _ _ x=>match ev F x with
  | .slice _ r _ _=>some r
  | _=>none
 | _=>none
def here (H:Hp):Ref:=.rw H.length
def Yr (C:A1) (H:Hp) (z:Nat) (x:AV):Option (Bool×Nat×List AV):=
 match x with
 | .nils=>some (true,0,[])
 | .slice _ r off m=>match E5 C H r with
  | some cs=>some (decide (off+m*z≤cs.length)&&((cs.drop off).take (m*z)).all isCell,m,(cs.drop off).take (m*z))
  | none=>none
 | .str s=>some (decide (z=1),s.length,s.map fun b=>.int .u8 b.toNat)
 | _=>none
def Iq (C:A1) (H:Hp) (t:TypeId) (s x:AV):Option (Bool×AV×Hop):=
 match C.P.underlying t with
 | some (.slice e)=>
  match C.P.info? e,Y4 C.P e with
  | some i,some zv=>
   match Yr C H i.size x with
   | some (c,m,xs)=>
    match s with
    | .nils=>some (Ea i.size&&(c&&(decide (m*i.bytes≤140737488355328)&&(decide (1≤i.bytes)&&(C1 zv).length==i.size))),.slice true (here H) 0 m,.new ⟨i.size,xs⟩)
    | .slice mb (.rw j) 0 n=>
     match H[j]? with
     | some (some b)=>some (!isRec b&&(c&&(decide ((n+m)*i.bytes≤140737488355328)&&(decide (1≤i.bytes)&&((C1 zv).length==i.size&&(b.esz==i.size&&decide (n*i.size≤b.cells.length)))))),.slice mb (here H) 0 (n+m),.app j ⟨i.size,b.cells.take (n*i.size)++xs⟩)
     | _=>none
    | _=>none
   | none=>none
  | _,_=>none
 | _=>none
def Qg (C:A1) (H:Hp) (t:TypeId) (s x:AV):Option (Bool×AV×Hop):=
 match C.P.underlying t,s,x with
 | some (.slice e),.nils,.int .i64 n=>
  match C.P.info? e,Y4 C.P e with
  | some i,some zv=>some (Ea i.size&&(decide (0≤n)&&(decide (n*i.bytes≤140737488355328)&&(decide (1≤i.bytes)&&(decide ((C1 zv).length=i.size)&&decide (1≤i.size))))),.slice true (here H) 0 n.toNat,.new ⟨i.size,(List.replicate n.toNat (C1 zv)).flatten⟩)
  | _,_=>none
 | _,_,_=>none
def Vk (C:A1) (H:Hp) (t:TypeId) (x:AV):Option (Bool×AV×Hop):=
 match C.P.underlying t,x with
 | some (.slice e),.slice _ (.rw j) off n=>
  match I0 C.P e,Y4 C.P e,H[j]? with
  | some z,some zv,some (some b)=>some (!isRec b&&(decide (1≤n)&&(decide ((C1 zv).length=z)&&(decide (1≤z)&&((C1 zv).all isCell&&decide (off+n*z≤b.cells.length))))),.tup [],.set j ⟨b.esz,gJ b.cells off (List.replicate n (C1 zv)).flatten⟩)
  | _,_,_=>none
 | _,_=>none
def H7 (C:A1) (F:Fr) (H:Hp) (op:Op):Option (Bool×AV×Hop):=
 match op with
 | .store t a x=>
  match ev F a,I0 C.P t with
  | .ptr (.rw i) off,some z=>match H[i]? with
   | some (some b)=>some (!isRec b&&((C1 (ev F x)).all isCell&&(O3 (ev F x)==z&&decide (off+z≤b.cells.length))),.tup [],.set i ⟨b.esz,G3 b.cells off (ev F x)⟩)
   | _=>none
  | _,_=>none
 | .alloc e=>match Y4 C.P e with
  | some z=>some (true,.ptr (here H) 0,.new ⟨1,C1 z⟩)
  | none=>none
 | .box _ x=>some (Gv (ev F x),.ptr (here H) 0,.new ⟨1,C1 (ev F x)⟩)
 | .buildSlice t n parts=>
  match C.P.underlying t with
  | some (.slice e)=>match I0 C.P e,Y4 C.P e with
   | some z,some zv=>
    match Dg (fun i=>some (i*z,z)) ((List.replicate n (C1 zv)).flatten) (parts.toList.map fun p=>(p.1,ev F p.2)) with
    | some (c,cs)=>some (Ea z&&(c&&(decide (n*z≤16777216)&&decide ((C1 zv).length=z))),.slice false (here H) 0 n,.new ⟨z,cs⟩)
    | none=>none
   | _,_=>none
  | _=>none
 | .makeSlice t l c=>
  match C.P.underlying t,ev F l,ev F c with
  | some (.slice e),.int _ l,.int _ c=>match C.P.info? e,Y4 C.P e with
   | some i,some zv=>some (Ea i.size&&(decide (0≤l)&&(decide (l≤c)&&(decide (c*i.bytes≤140737488355328)&&(decide (c≤140737488355328)&&(decide ((C1 zv).length=i.size)&&decide (1≤i.size)))))),.slice false (here H) 0 l.toNat,.new ⟨i.size,(List.replicate l.toNat (C1 zv)).flatten⟩)
   | _,_=>none
  | _,_,_=>none
 | .convert s d x=>
  match Z0 C.P s&&W3 C.P d,ev F x with
  | true,.str s=>some (decide (s.length≤140737488355328),.slice false (here H) 0 s.length,.new ⟨1,s.map fun b=>.int .u8 b.toNat⟩)
  | false,.slice mb (.rw i) off n=>match W3 C.P s&&zL s d with
   | true=>match H[i]? with
    | some (some b)=>some (!isRec b&&Nat.ble 1 n,.slice mb (.rw i) off n,.set i b)
    | _=>none
   | false=>none
  | _,_=>none
 | .call { callee:=.builtin .append,args,argTypes }=>
  match args.toList,argTypes.toList with
  | [s,x],[t,u]=>match C.P.underlying u with
   | some (.slice _)=>Iq C H t (ev F s) (ev F x)
   | some .string=>Iq C H t (ev F s) (ev F x)
   | some (.int _)=>Qg C H t (ev F s) (ev F x)
   | _=>none
  | _,_=>none
 | .call { callee:=.builtin .clear,args,argTypes }=>
  match args.toList,argTypes.toList with
  | [x],[t]=>Vk C H t (ev F x)
  | _,_=>none
 | _=>none
inductive Kd where
 | pure | read | write | call
 deriving DecidableEq
def kdOf (P:Program) (op:Op):Kd:=
 match op with
 | .load _ _ | .field _ _ _ | .index _ _ _=>.read
 | .store _ _ _ | .alloc _ | .box _ _ | .buildSlice _ _ _ | .makeSlice _ _ _=>.write
 | .convert s d _=>if W3 P s&&Z0 P d then .read else if Z0 P s&&W3 P d then .write else if W3 P s&&zL s d then .write else .pure
 | .call { callee:=.builtin .append,.. }=>.write
 | .call { callee:=.builtin .clear,.. }=>.write
 | .call { callee:=.builtin _,.. }=>.pure
 | .call _=>.call
 | _=>.pure
def callOp (F:Fr) (op:Op):Option (FuncId×List AV):=
 match op with
 | .call { callee:=.value f,args,.. }=>match ev F f with
  | .func g cap=>some (g,args.toList.map (ev F)++cap)
  | _=>none
 | _=>none
def yldOp (F:Fr) (op:Op):Option (Nat×List AV):=
 match op with
 | .call { callee:=.value f,args,.. }=>match ev F f with
  | .yld i=>some (i,args.toList.map (ev F))
  | _=>none
 | _=>none
def Kk:Fr→List Nat→List AV→Fr
 | F,p::ps,v::vs=>Kk (F.set p v) ps vs
 | F,_,_=>F
def Tn (C:A1) (F:Fr) (H:Hp):ResultVar→Option (Bool×AV)
 | .tmp t=>some (true,F.getD t .undef)
 | .cell a t=>match F.getD a .undef with
  | .ptr r off=>Kt C H t r off
  | _=>none
def Gm (C:A1) (F:Fr) (H:Hp):List ResultVar→Option (Bool×List AV)
 | []=>some (true,[])
 | x::xs=>match Tn C F H x with
  | some (c,v)=>match Gm C F H xs with
   | some (d,r)=>some (c&&d,v::r)
   | none=>none
  | none=>none
def Kb (C:A1) (fn:Func) (F:Fr) (H:Hp):Option (Bool×AV):=
 match Gm C F H fn.results.toList with
 | some (c,[v])=>some (c,v)
 | some (c,vs)=>some (c,.tup vs)
 | none=>none
def L1 (C:A1) (fn:Func) (Q:AV→Hp→Prop) (e:Ex) (F:Fr) (H:Hp):Prop:=
 match e with
 | .exit _=>False
 | _=>Sp (Kb C fn F H) fun v=>Q v H
inductive TrK where
 | still
 | read (r:Ref)
 | write
structure Tr where
 kd:TrK
 len:Nat
 hs:List Hop
def Iu (i:Nat) (len:Nat):List Hop→Bool
 | []=>false
 | .set j _::hs=>j==i||Iu i len hs
 | .new _::hs=>len==i||Iu i (len+1) hs
 | .app j _::hs=>j==i||(len==i||Iu i (len+1) hs)
def Lq (r:Ref) (len:Nat) (hs:List Hop):Bool:=
 match r with
 | .rw i=>Iu i len hs
 | .ro _=>false
def Er:List Oper→List Nat→List Nat
 | [],acc=>acc
 | o::l,acc=>Er l (acc++[o.after.toList.foldl (fun s e=>bif Region.binds .any e then s ||| (2^e.on ||| acc.getD e.on 0) else s) 0])
def Ns (all:List Oper) (o:Oper):List Tmp:=
 (o.op.operands.toList.filterMap fun | .tmp t=>some t | _=>none) ++
 (match o.guard with
  | some (j,_)=>match (all[j]?).bind (·.dst) with
   | some t=>[t]
   | none=>[]
  | none=>[])
def Qh (all:List Oper) (x y:Oper):Bool:=
 (match x.dst with
  | some d=>!((Ns all y).contains d)&&!(y.dst==some d)
  | none=>true) &&
 (match y.dst with
  | some d=>!((Ns all x).contains d)
  | none=>true)
def Bs (x y:Tr):Bool:=
 match x.kd,y.kd with
 | .write,.write=>false
 | .write,.read r=>!Lq r x.len x.hs
 | .read r,.write=>!Lq r y.len y.hs
 | _,_=>true
def Qc:Nat→List Oper→Bool
 | _,[]=>true
 | j,o::l=>o.after.toList.all (fun e=>!Region.binds .any e||Nat.blt e.on j)&&Qc (j+1) l
def X4 (all:List Oper) (trs:List Tr):Bool:=
 let ms:=Er all []
 Qc 0 all&&(List.range all.length).all fun j=>(List.range j).all fun i=>
  (ms.getD j 0).testBit i ||
  (match all[i]?,all[j]?,trs[i]?,trs[j]? with
   | some x,some y,some a,some b=>Qh all x y&&Bs a b
   | _,_,_,_=>false)
inductive Wk where
 | code (c:Code)
 | ops (all l:List Oper)
 | dr (all l:List Oper) (trs:List Tr)
structure Cfg where
 C:A1
 /-- how much is written out at each step? -/
 strict:Md
 /-- are loops gone through round by round? -/
 unr:Bool
 /-- does a number that is assigned get a name? -/
 nm:Bool:=false
 /-- is a truth value that is assigned looked at once? -/
 sp:Bool:=false
 /-- does a number that a loop leaves get a name? -/
 nl:Bool:=false
 /-- how a test (of a slot,in a frame of so many slots) comes out: then the other way is not gone,and this is owed -/
 hint:Nat→Nat→Option Bool:=fun _ _=>none
 /-- of a call that is entered where the order is drawn: are the blocks that it leaves as they were told from the others? -/
 cmp:Bool:=false
 /-- is a call of this function entered in place? -/
 inl:FuncId→Bool
 /-- what a call that is not entered does -/
 sum:FuncId→List AV→Hp→Option (Bool×AV×List Hop)
 /-- what a loop that is not gone through does -/
 loop:Code→Fr→Hp→Option (Bool×Ex×Fr×Hp)
 /-- how many blocks of the heap the loops leave where they are -/
 M:Nat
def Gl (K:Cfg) (rec:Code→Bool) (o:Oper):Bool:=
 match kdOf K.C.P o.op with
 | .pure=>true
 | .read=>true
 | .write=>false
 | .call=>match o.op with
  | .call { callee:=.value (.func g),.. }=>K.inl g&&(match K.C.P.funcs[g]? with
   | some fn=>match fn.body with
    | some c=>rec c
    | none=>true
   | none=>true)
  | _=>false
def Ct (K:Cfg) (rec:Code→Bool):Code→Bool
 | .skip=>true
 | .region _ ops _=>ops.toList.all (Gl K rec)
 | .seq a b=>Ct K rec a&&Ct K rec b
 | .cond _ a b=>Ct K rec a&&Ct K rec b
 | .block _ c=>Ct K rec c
 | .loop c=>K.unr&&Ct K rec c
 | .exit _=>true
 | .scope c=>Ct K rec c
 | .label _=>true
 | .ret=>true
 | _=>false
def J1 (K:Cfg):Nat→Code→Bool
 | 0,_=>false
 | d+1,c=>Ct K (J1 K d) c
def tW:AV→AV→Bool
 | .bool a,.bool b=>a==b
 | .int k m,.int k' n=>decide (k=k')&&decide (m=n)
 | .nilp,.nilp=>true
 | .nils,.nils=>true
 | .nilf,.nilf=>true
 | .ptr (.rw i) o,.ptr (.rw j) o'=>zL i j&&zL o o'
 | .slice m (.rw i) o n,.slice m' (.rw j) o' n'=>m==m'&&(zL i j&&(zL o o'&&zL n n'))
 | _,_=>false
def Wj:List AV→List AV→Bool
 | [],[]=>true
 | x::xs,y::ys=>tW x y&&Wj xs ys
 | _,_=>false
def jT:Option Blk→Blk→Bool
 | some b,b'=>zL b.esz b'.esz&&Wj b.cells b'.cells
 | none,_=>false
def X8:Bool→Nat→Hp→Option (List Hop)
 | false,_,[]=>some []
 | true,_,[]=>none
 | false,i,some b::H'=>match X8 false (i+1) H' with
  | some hs=>some (.new b::hs)
  | none=>none
 | true,i,some b::H'=>match X8 false (i+1) H' with
  | some hs=>some (.app (i - 1) b::hs)
  | none=>none
 | false,i,none::H'=>match X8 true (i+1) H' with
  | some hs=>some (.new ⟨0,[]⟩::hs)
  | none=>none
 | true,i,none::H'=>match X8 true (i+1) H' with
  | some hs=>some (.app (i - 1) ⟨0,[]⟩::hs)
  | none=>none
def Ag (cmp:Bool):Nat→Hp→Hp→Option (List Hop)
 | i,[],H'=>X8 false i H'
 | i,x::H,some b::H'=>match cmp&&jT x b with
  | true=>Ag cmp (i+1) H H'
  | false=>match Ag cmp (i+1) H H' with
   | some hs=>some (.set i b::hs)
   | none=>none
 | i,none::H,none::H'=>Ag cmp (i+1) H H'
 | _,_,_=>none
def K7 (fn:Func) (args:List AV):Fr:=args++List.replicate (fn.ntmps - args.length) (.tup [])
abbrev Post:=Ex→Fr→Hp→Prop
abbrev Rec:=Nat→Wk→Fr→Hp→Post→Prop
def wrc (o:Option (Bool×AV×Hop)) (k:AV→Hop→Prop):Prop:=match o with | some (c,v,h)=>chk c (k v h) | none=>False
def smc (o:Option (Bool×AV×List Hop)) (k:AV→List Hop→Prop):Prop:=match o with | some (c,v,h)=>chk c (k v h) | none=>False
def lpc (o:Option (Bool×Ex×Fr×Hp)) (k:Ex→Fr→Hp→Prop):Prop:=match o with | some (c,e,F,H)=>chk c (k e F H) | none=>False
def Lu (K:Cfg) (rec:Rec) (m:Nat) (all l:List Oper) (dst:Option Tmp) (f:FuncId) (args:List AV) (F:Fr) (H:Hp) (Q:Post):Prop:=
 match K.inl f with
 | true=>
  match K.C.P.funcs[f]? with
  | some fn=>match fn.body with
   | some c => chk (!(fn.name == "runtime.NumGoroutine")) (rec H.length (.code c) (K7 fn args) H (L1 K.C fn fun v H' => S0 K.strict F dst v fun F => rec m (.ops all l) F H' Q))
   | none=>False
  | none=>False
 | false=>namL K.nm args fun args=>smc (K.sum f args H) fun v hs=>Rq K.strict H hs fun H=>S0 K.strict F dst v fun F=>rec m (.ops all l) F H Q
def tQ:Ex→Nat
 | .normal=>0
 | .ret=>2
 | .exit n=>n+3
def Ze:Ex→Bool
 | .normal=>true
 | _=>false
def Ow (K:Cfg) (rec:Rec) (m:Nat) (all l:List Oper) (dst:Option Tmp) (i:Nat) (F:Fr) (Q:Post):Post:=fun ex _ H=>
 match H[i]? with
 | some (some ⟨e,.rcd 1 ps as bd::F0⟩)=>chk (zL e 4294967291) (S0 K.strict F dst (.bool (Ze ex)) fun F=>rec m (.ops all l) F (H.set i (some ⟨e,.rcd (tQ ex) ps as bd::F0⟩)) Q)
 | _=>False
def Vy (K:Cfg) (rec:Rec) (k m:Nat) (all l:List Oper) (dst:Option Tmp) (i:Nat) (body:Code) (F:Fr) (Q:Post):Post:=fun ex F1 H=>
 match ex with
 | .normal=>match H[i]? with
  | some (some ⟨e,.rcd 0 ps as bd::F0⟩)=>chk (zL e 4294967291) (rec k (.code body) F1 (H.set i (some ⟨e,.rcd 1 ps as bd::F0⟩)) (Ow K rec m all l dst i F Q))
  | _=>False
 | _=>False
def La (K:Cfg) (rec:Rec) (m:Nat) (all l:List Oper) (dst:Option Tmp) (i:Nat) (args:List AV) (F:Fr) (H:Hp) (Q:Post):Prop:=
 match H[i]? with
 | some (some ⟨e,.rcd 0 ps as bd::F0⟩)=>
  chk (zL e 4294967291&&(zL args.length ps.size&&(R0 as&&(R0 bd&&K.unr))))
   (rec H.length (.code as) (Kk F0 ps.toList args) H (Vy K rec H.length m all l dst i bd F Q))
 | _=>False
def rngJ (p:Nat) (F:Fr) (H:Hp) (Q:Post):Prop:=
 match p with
 | 0=>Q .normal F H
 | 1=>False
 | 2=>Q .ret F H
 | n+3=>Q (.exit n) F H
def Jj (i:Nat) (F:Fr) (Q:Post):AV→Hp→Prop:=fun _ H=>
 match H[i]? with
 | some (some ⟨e,.rcd p _ _ _::_⟩)=>chk (zL e 4294967291) (rngJ p F (H.set i none) Q)
 | _=>False
def Pf (K:Cfg) (rec:Rec) (g:Operand) (ps:Array Tmp) (as bd:Code) (F:Fr) (H:Hp) (Q:Post):Prop:=
 match ev F g with
 | .func f cap=>match K.C.P.funcs[f]? with
  | some fn=>match fn.body with
   | some c => chk (!(fn.name == "runtime.NumGoroutine") && K.unr) (rec (H.length + 1) (.code c) (K7 fn (.yld H.length :: cap)) (H ++ [some ⟨4294967291, .rcd 0 ps as bd :: F⟩]) (L1 K.C fn (Jj H.length F Q)))
   | none=>False
  | none=>False
 | _=>False
def Gi (K:Cfg) (rec:Rec) (m:Nat) (all l:List Oper) (dst:Option Tmp) (op:Op) (F:Fr) (H:Hp) (Q:Post):Prop:=
 match kdOf K.C.P op with
 | .pure=>Sp (G5 K.C.P F op) fun v=>dJ (K.sp&&Ro op) (K.nm&&Ro op) K.strict F dst v fun F=>rec m (.ops all l) F H Q
 | .read=>Sp (M7 K.C F H op) fun v=>S0 K.strict F dst v fun F=>rec m (.ops all l) F H Q
 | .write=>wrc (H7 K.C F H op) fun v h=>Un K.strict H h fun H=>S0 K.strict F dst v fun F=>rec m (.ops all l) F H Q
 | .call=>match callOp F op with
  | some (f,args)=>Lu K rec m all l dst f args F H Q
  | none=>match yldOp F op with
   | some (i,args)=>La K rec m all l dst i args F H Q
   | none=>False
def guardK (hint:Nat→Option Bool) (s:Md) (all:List Oper) (guard:Option (Nat×Bool)) (F:Fr) (go skip:Fr→Prop):Prop:=
 match guard with
 | none=>go F
 | some (j,want)=>
  match (all[j]?).bind (·.dst) with
  | some t=>
   match F.getD t .undef with
   | .bool b=>cV (hint t) b
     (S0 s F (some t) (.bool true) fun F=>match want with | true=>go F | false=>skip F)
     (S0 s F (some t) (.bool false) fun F=>match want with | true=>skip F | false=>go F)
   | .tup []=>skip F
   | _=>False
  | none=>False
def Lb (K:Cfg) (rec:Rec) (m:Nat) (all l:List Oper) (F:Fr) (H:Hp) (Q:Post):Prop:=
 match l with
 | []=>Q .normal F H
 | ⟨dst,op,_,_,_,guard⟩::l=>
  guardK (K.hint F.length) K.strict all guard F (fun F=>Gi K rec m all l dst op F H Q) (fun F=>S0 K.strict F dst (.tup []) fun F=>rec m (.ops all l) F H Q)
def Av (K:Cfg) (rec:Rec) (m:Nat) (all l:List Oper) (trs:List Tr) (dst:Option Tmp) (op:Op) (F:Fr) (H:Hp) (Q:Post):Prop:=
  match kdOf K.C.P op with
  | .pure=>Sp (G5 K.C.P F op) fun v=>dJ (K.sp&&Ro op) (K.nm&&Ro op) K.strict F dst v fun F'=>rec m (.dr all l (trs++[⟨.still,H.length,[]⟩])) F' H Q
  | .read=>Sp (M7 K.C F H op) fun v=>S0 K.strict F dst v fun F'=>rec m (.dr all l (trs++[⟨(match Lx F op with | some r=>.read r | none=>.still),H.length,[]⟩])) F' H Q
  | .write => wrc (H7      K.C F H op) fun v h => Un   K.strict H h fun H' => S0   K.strict F dst v fun F' => rec m (.dr all l (trs ++ [⟨.write, H.length, [h]⟩])) F' H' Q
  | .call=>match callOp F op with
    | some (f,args)=>match K.inl f with
      | true=>
        match K.C.P.funcs[f]? with
        | some fn=>match fn.body with
          | some c => chk (!(fn.name == "runtime.NumGoroutine")) (rec H.length (.code c) (K7 fn args) H (L1 K.C fn fun v H' =>
              match J1 K 20 c with
              | true=>S0 K.strict F dst v fun F'=>rec m (.dr all l (trs++[⟨.write,H.length,[]⟩])) F' H Q
              | false=>match Ag K.cmp 0 H H' with
                | some hs=>S0 K.strict F dst v fun F'=>rec m (.dr all l (trs++[⟨.write,H.length,hs⟩])) F' H' Q
                | none=>False))
          | none=>False
        | none=>False
      | false=>namL K.nm args fun args=>smc (K.sum f args H) fun v hs=>Rq K.strict H hs fun H'=>S0 K.strict F dst v fun F'=>rec m (.dr all l (trs++[⟨.write,H.length,hs⟩])) F' H' Q
    | none=>False
def Pg (K:Cfg) (rec:Rec) (m:Nat) (all l:List Oper) (trs:List Tr) (F:Fr) (H:Hp) (Q:Post):Prop:=
 match l with
 | []=>chk (X4 all trs) (Q .normal F H)
 | ⟨dst,op,_,_,_,guard⟩::l=>
  guardK (K.hint F.length) K.strict all guard F (fun F=>Av K rec m all l trs dst op F H Q) (fun F=>S0 K.strict F dst (.tup []) fun F=>rec m (.dr all l (trs++[⟨.still,H.length,[]⟩])) F H Q)
def Yq (K:Cfg) (rec:Rec) (m:Nat) (c:Operand) (x y:Code) (F:Fr) (H:Hp) (Q:Post):Prop:=
 match c with
 | .tmp t=>match F.getD t .undef with
  | .bool b=>cV (K.hint F.length t) b (S0 K.strict F (some t) (.bool true) fun F=>rec m (.code x) F H Q) (S0 K.strict F (some t) (.bool false) fun F=>rec m (.code y) F H Q)
  | _=>False
 | .const (.bool b)=>match b with
  | true=>rec m (.code x) F H Q
  | false=>rec m (.code y) F H Q
 | _=>False
def Nc (rec:Rec) (m:Nat) (b:Code) (Q:Post):Post:=fun e F H=>match e with
 | .normal=>rec m (.code b) F H Q
 | e=>Q e F H
def Z3 (id:Nat) (Q:Post):Post:=fun e F H=>match e with
 | .exit i=>match i==id with
  | true=>Q .normal F H
  | false=>Q (.exit i) F H
 | e=>Q e F H
def U4 (K:Cfg) (rec:Rec) (m:Nat) (c:Code) (F:Fr) (H:Hp) (Q:Post):Prop:=
 match c with
 | .skip=>Q .normal F H
 | .region _ ops draw=>match draw with
  | true=>rec m (.dr ops.toList ops.toList []) F H Q
  | false=>rec m (.ops ops.toList ops.toList) F H Q
 | .seq a b=>rec m (.code a) F H (Nc rec m b Q)
 | .cond c x y=>Yq K rec m c x y F H Q
 | .block id c=>rec m (.code c) F H (Z3 id Q)
 | .loop c=>match K.unr with
  | true=>rec m (.code c) F H (Nc rec m (.loop c) Q)
  | false=>chk (Nat.ble m K.M) (lpc (K.loop c F H) fun e F' H'=>namL K.nl F' fun F'=>Q e F' H')
 | .exit id=>Q (.exit id) F H
 | .scope c=>rec m (.code c) F H Q
 | .label _=>Q .normal F H
 | .ret=>Q .ret F H
 | .rangeFunc g ps as bd=>Pf K rec g ps as bd F H Q
 | _=>False
def stepWk (K:Cfg) (rec:Rec) (m:Nat) (w:Wk) (F:Fr) (H:Hp) (Q:Post):Prop:=
 match w with
 | .ops all l=>Lb K rec m all l F H Q
 | .dr all l trs=>Pg K rec m all l trs F H Q
 | .code c=>U4 K rec m c F H Q
def vc (K:Cfg):Nat→Rec
 | 0=>fun _ _ _ _ _=>False
 | n+1=>stepWk K (vc K n)
end Go.Am
