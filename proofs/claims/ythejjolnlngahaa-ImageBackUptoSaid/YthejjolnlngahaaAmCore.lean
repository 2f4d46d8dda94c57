/-
  An abstract machine over the kit's programs: abstract values, abstract
-/
import Derived.Orders
import Derived.Below
import Derived.KernelRfl
namespace Go.Am
theorem zK.{u}:∀ {α:Type u} (a b:α),(some a=some b)=(a=b):=@Option.some.injEq
theorem zN:∀ a b:Bool,((a&&b)=true)=(a=true∧b=true):=@Bool.and_eq_true
theorem zQ.{u}:∀ {α:Type u} {i:Nat} {a:α} {l:List α},l[i]?=some a↔∃ h:i<l.length,l[i]=a:=@List.getElem?_eq_some_iff
theorem yL:∀ {p:Prop} [Decidable p],decide p=true→p:=@of_decide_eq_true
theorem yM:∀ {p:Prop} [Decidable p],p→decide p=true:=@decide_eq_true
theorem yN.{u,v}:∀ {α:Type u} {β:Type v} (a:α) (b:β) (c:α) (d:β),((a,b)=(c,d))=(a=c∧b=d):=@Prod.mk.injEq
theorem yO.{u}:∀ {α:Type u} {l:List α} {i:Nat} (h:i<l.length),l[i]?=some l[i]:=@List.getElem?_eq_getElem
theorem yP:∀ {p:Prop} [Decidable p],decide p=false→¬p:=@of_decide_eq_false
theorem yR:∀ {p:Prop} [Decidable p],¬p→decide p=false:=@decide_eq_false
theorem yV:∀ {n m:Nat},Nat.beq n m=true→n=m:=@Nat.eq_of_beq_eq_true
theorem xE:∀ {p:Prop} [Decidable p],(decide p=true)=p:=@decide_eq_true_eq
theorem xM.{u}:∀ {α:Type u} {p:α→Bool} {l:List α},l.all p=true↔∀ x,x∈l→p x=true:=@List.all_eq_true
theorem xN.{u}:∀ {α:Type u} {l k:List α} {i:Nat},l.length≤i→(l++k)[i]?=k[i-l.length]?:=@List.getElem?_append_right
theorem wM.{u}:∀ {α:Type u} {l k:List α} {i:Nat},i<l.length→(l++k)[i]?=l[i]?:=@List.getElem?_append_left
theorem sH.{u,v}:∀ {α:Type u} {β:Type v} {f:α→β} {l:List α} {i:Nat},(l.map f)[i]?=(l[i]?).map f:=@List.getElem?_map
theorem rM.{u}:∀ {α:Type u} {l:List α} {i:Nat} {a:α},l[i]?=some a→a∈l:=@List.mem_of_getElem?
theorem rR:∀ {n m:Nat},Nat.ble n m=true→n≤m:=@Nat.le_of_ble_eq_true
theorem qK.{u}:∀ {α:Type u} {l:List α} {i:Nat},l.length≤i→l[i]?=none:=@List.getElem?_eq_none
theorem qL.{u}:∀ {α:Type u} {l:List α} {i j:Nat},(l.take i)[j]?=if j<i then l[j]? else none:=@List.getElem?_take
theorem qX.{u}:∀ {α:Type u} {l:List α} {i j:Nat} {a:α},(l.set i a)[j]?=if i=j then if i<l.length then some a else none else l[j]?:=@List.getElem?_set
theorem zA0.{u}:∀ {α:Type u} {l k:List α},(l++k).length=l.length+k.length:=@List.length_append
theorem zA1:∀ n:Nat,n≤n:=@Nat.le_refl
theorem zA2:∀ n:Nat,0≤n:=@Nat.zero_le
theorem zA3:∀ n:Nat,Nat.beq n n=true:=@Nat.beq_refl
inductive Ref where
 | rw (i:Nat)
 | ro (i:Nat)
 deriving DecidableEq
inductive AV where
 | undef
 | bool (b:Bool)
 | int (k:IntKind) (n:Int)
 | str (s:List UInt8)
 | nilp
 | ptr (r:Ref) (off:Nat)
 | nils
 | slice (mb:Bool) (r:Ref) (off len:Nat)
 | nilf
 | func (f:FuncId) (cap:List AV)
 | agg (cs:List AV)
 | tup (vs:List AV)
 /-- what a round of the loop with this record is asked for by -/
 | yld (i:Nat)
 /-- how the record of a loop over a function stands;what its rounds assign and do -/
 | rcd (p:Nat) (ps:Array Nat) (a b:Code)
structure Blk where
 esz:Nat
 cells:List AV
abbrev Hp:=List (Option Blk)
def isRec (b:Blk):Bool:=Nat.beq b.esz 4294967291
def Q7:Code→Bool
 | .seq a b=>Q7 a&&Q7 b
 | .cond _ a b=>Q7 a&&Q7 b
 | .block _ c=>Q7 c
 | .scope c=>Q7 c
 | .loop c=>Q7 c
 | .rangeFunc ..=>false
 | _=>true
def Dz (z:Nat):Bool:=!Nat.beq z 4294967291
abbrev Fr:=List AV
inductive Ex where
 | normal
 | exit (id:Nat)
 | ret
structure A0 where
 P:Program
 G:Nat→List AV
 B:Nat
def Y4:Value→AV
 | .bool b=>.bool b
 | .int k n=>.int k n
 | .string s=>.str s.data.toList
 | .pointer none=>.nilp
 | .slice none 0 0=>.nils
 | .nilFunc=>.nilf
 | _=>.undef
def D5:Value→AV
 | .agg cs=>.agg (cs.toList.map Y4)
 | v=>Y4 v
def ev (F:Fr):Operand→AV
 | .tmp t=>F.getD t .undef
 | .const v=>D5 v
 | .global _=>.undef
 | .func f=>.func f []
def put (F:Fr) (d:Option Tmp) (v:AV):Fr:=
 match d with
 | some d=>F.set d v
 | none=>F
def chk (c:Bool) (K:Prop):Prop:=match c with | true=>K | false=>False
def tst (b:Bool) (A B:Prop):Prop:=match b with | true=>A | false=>B
def dJ (h:Option Bool) (b:Bool) (A B:Prop):Prop:=
 match h with
 | none=>tst b A B
 | some true=>chk b A
 | some false=>chk (!b) B
def Up (o:Option (Bool×AV)) (K:AV→Prop):Prop:=match o with | some (c,v)=>chk c (K v) | none=>False
def Jv (n:Nat) (k:Nat→Prop):Prop:=match n with | 0=>k 0 | n+1=>k (n+1)
def nY (n:Int) (k:Int→Prop):Prop:=match n with | .ofNat a=>Jv a fun a=>k (.ofNat a) | .negSucc a=>Jv a fun a=>k (.negSucc a)
def fH (r:Ref) (k:Ref→Prop):Prop:=match r with | .rw i=>Jv i fun i=>k (.rw i) | .ro i=>Jv i fun i=>k (.ro i)
def fK (v:AV) (k:AV→Prop):Prop:=
 match v with
 | .undef=>k .undef
 | .bool b=>match b with | true=>k (.bool true) | false=>k (.bool false)
 | .int t n=>nY n fun n=>k (.int t n)
 | .str s=>k (.str s)
 | .nilp=>k .nilp
 | .ptr r off=>fH r fun r=>Jv off fun off=>k (.ptr r off)
 | .nils=>k .nils
 | .slice mb r off len=>fH r fun r=>Jv off fun off=>Jv len fun len=>k (.slice mb r off len)
 | .nilf=>k .nilf
 | .func f cap=>k (.func f cap)
 | .agg cs=>k (.agg cs)
 | .tup vs=>k (.tup vs)
 | .yld i=>Jv i fun i=>k (.yld i)
 | .rcd p ps a b=>Jv p fun p=>k (.rcd p ps a b)
def Sg (l:List AV) (k:List AV→Prop):Prop:=
 match l with
 | []=>k []
 | x::xs=>fK x fun x=>Sg xs fun xs=>k (x::xs)
def nW (v:AV) (k:AV→Prop):Prop:=
 match v with
 | .agg cs=>Sg cs fun cs=>k (.agg cs)
 | .tup vs=>Sg vs fun vs=>k (.tup vs)
 | .func f cap=>Sg cap fun cap=>k (.func f cap)
 | v=>fK v k
def Oj {α:Type} (F:List α) (d:Nat) (v:α) (k:List α→Prop):Prop:=
 match F,d with
 | [],_=>k []
 | _::xs,0=>k (v::xs)
 | x::xs,d+1=>Oj xs d v fun ys=>k (x::ys)
def Np {α:Type} (F:List α) (v:α) (k:List α→Prop):Prop:=
 match F with
 | []=>k [v]
 | x::xs=>Np xs v fun ys=>k (x::ys)
inductive Md where
 | lazy | half | full
def oB (v:AV) (k:AV→Prop):Prop:=
 match v with
 | .undef=>k .undef
 | .bool b=>k (.bool b)
 | .int t n=>k (.int t n)
 | .str s=>k (.str s)
 | .nilp=>k .nilp
 | .ptr r off=>k (.ptr r off)
 | .nils=>k .nils
 | .slice mb r off len=>k (.slice mb r off len)
 | .nilf=>k .nilf
 | .func f cap=>k (.func f cap)
 | .agg cs=>k (.agg cs)
 | .tup vs=>k (.tup vs)
 | .yld i=>k (.yld i)
 | .rcd p ps a b=>k (.rcd p ps a b)
def Xe (l:List AV) (k:List AV→Prop):Prop:=
 match l with
 | []=>k []
 | x::xs=>oB x fun x=>Xe xs fun xs=>k (x::xs)
def nX (v:AV) (k:AV→Prop):Prop:=
 match v with
 | .tup vs=>Xe vs fun vs=>k (.tup vs)
 | v=>oB v k
def S0 (s:Md) (F:Fr) (d:Option Tmp) (v:AV) (k:Fr→Prop):Prop:=
 match s with
 | .lazy=>k (put F d v)
 | .half=>match d with
  | some d=>nX v fun v=>Oj F d v k
  | none=>k F
 | .full=>match d with
  | some d=>nW v fun v=>Oj F d v k
  | none=>k F
def nam (e:Int) (K:Int→Prop):Prop:=∀ x,x=e→K x
def eJ (nm:Bool) (s:Md) (F:Fr) (d:Option Tmp) (v:AV) (k:Fr→Prop):Prop:=
 match nm with
 | false=>S0 s F d v k
 | true=>match v with
  | .int t e=>nam e fun x=>S0 s F d (.int t x) k
  | v=>S0 s F d v k
def eI (sp nm:Bool) (s:Md) (F:Fr) (d:Option Tmp) (v:AV) (k:Fr→Prop):Prop:=
 match sp with
 | false=>eJ nm s F d v k
 | true=>match v with
  | .bool b=>tst b (S0 s F d (.bool true) k) (S0 s F d (.bool false) k)
  | v=>eJ nm s F d v k
def eY:List AV→(List AV→Prop)→Prop
 | [],k=>k []
 | .int t e::l,k=>nam e fun x=>eY l fun l'=>k (.int t x::l')
 | v::l,k=>eY l fun l'=>k (v::l')
def namL (nm:Bool) (args:List AV) (k:List AV→Prop):Prop:=
 match nm with
 | false=>k args
 | true=>eY args k
def Sb:Op→Bool
 | .assign _=>true
 | _=>false
inductive Hop where
 | set (i:Nat) (b:Blk)
 | new (b:Blk)
 | app (j:Nat) (b:Blk)
def Hop.act (H:Hp):Hop→Hp
 | .set i b=>H.set i (some b)
 | .new b=>H++[some b]
 | .app j b=>H.set j none++[some b]
def acts (H:Hp):List Hop→Hp
 | []=>H
 | h::hs=>acts (h.act H) hs
def Zo (b:Blk) (k:Blk→Prop):Prop:=match b with | ⟨e,cs⟩=>Sg cs fun cs=>k ⟨e,cs⟩
def Vd (s:Md) (H:Hp) (o:Hop) (k:Hp→Prop):Prop:=
 match s with
 | .lazy=>k (o.act H)
 | .half=>match o with
  | .set i b=>match b with | ⟨e,cs⟩=>Oj H i (some ⟨e,cs⟩) k
  | .new b=>match b with | ⟨e,cs⟩=>Np H (some ⟨e,cs⟩) k
  | .app j b=>match b with | ⟨e,cs⟩=>Oj H j none fun H=>Np H (some ⟨e,cs⟩) k
 | .full=>match o with
  | .set i b=>Zo b fun b=>Oj H i (some b) k
  | .new b=>Zo b fun b=>Np H (some b) k
  | .app j b=>Zo b fun b=>Oj H j none fun H=>Np H (some b) k
def Se (s:Md) (H:Hp) (o:List Hop) (k:Hp→Prop):Prop:=
 match o with
 | []=>k H
 | h::hs=>Vd s H h fun H=>Se s H hs k
def P0 (k:IntKind) (x y:Int):Int:=k.wrap (BitVec.ofInt k.bits x &&& BitVec.ofInt k.bits y).toNat
def Gp (k:IntKind) (x y:Int):Int:=k.wrap (BitVec.ofInt k.bits x ||| BitVec.ofInt k.bits y).toNat
def Sa (k:IntKind) (x y:Int):Int:=k.wrap (BitVec.ofInt k.bits x ^^^ BitVec.ofInt k.bits y).toNat
def fC (k:IntKind) (x y:Int):Int:=k.wrap (BitVec.ofInt k.bits x &&& ~~~ BitVec.ofInt k.bits y).toNat
def Ze (k:IntKind) (n:Int):Int:=k.wrap (BitVec.ofInt k.bits (if k.signed then -1 else k.max) ^^^ BitVec.ofInt k.bits n).toNat
def Be (k:IntKind) (x y:Int):Int:=k.wrap (x*2^(min y.toNat k.bits))
def O0 (k:IntKind) (x y:Int):Int:=x.fdiv (2^(min y.toNat k.bits))
def Vu (op:BinOp) (k:IntKind) (x y:Int):Option (Bool×AV):=
 match op with
 | .add=>some (true,.int k (k.wrap (x+y)))
 | .sub=>some (true,.int k (k.wrap (x - y)))
 | .mul=>some (true,.int k (k.wrap (x*y)))
 | .quo=>some (!(y==0),.int k (k.wrap (x.tdiv y)))
 | .rem=>some (!(y==0),.int k (x.tmod y))
 | .and=>some (true,.int k (P0 k x y))
 | .or=>some (true,.int k (Gp k x y))
 | .xor=>some (true,.int k (Sa k x y))
 | .andNot=>some (true,.int k (fC k x y))
 | .eql=>some (true,.bool (x==y))
 | .neq=>some (true,.bool (x != y))
 | .lss=>some (true,.bool (decide (x<y)))
 | .leq=>some (true,.bool (decide (x≤y)))
 | .gtr=>some (true,.bool (decide (x>y)))
 | .geq=>some (true,.bool (decide (x≥y)))
 | _=>none
def Mw (op:BinOp) (k:IntKind) (x y:Int):Option (Bool×AV):=
 match op with
 | .shl=>some (decide (0≤y),.int k (Be k x y))
 | .shr=>some (decide (0≤y),.int k (O0 k x y))
 | _=>none
def Vs (op:BinOp) (x y:List UInt8):Option (Bool×AV):=
 match op with
 | .add=>some (decide (x.length+y.length≤9223372036854775807),.str (x++y))
 | .eql=>some (true,.bool (x==y))
 | .neq=>some (true,.bool (!(x==y)))
 | _=>none
def Fg (op:BinOp) (c:Bool) (b:Bool):Option (Bool×AV):=
 match op with
 | .eql=>some (c,.bool b)
 | .neq=>some (c,.bool (!b))
 | _=>none
def G9 (P:Program) (t:TypeId):Option Nat:=(P.info? t).map (·.size)
def A1 (cs:List AV) (off:Nat):Int:=match cs[off]? with | some (.int _ n)=>n | _=>0
def isI (k:IntKind) (cs:List AV) (off:Nat):Bool:=match cs[off]? with | some (.int k' _)=>k==k' | _=>false
def E1 (cs:List AV) (off:Nat):Bool:=match cs[off]? with | some (.bool b)=>b | _=>false
def isB (cs:List AV) (off:Nat):Bool:=match cs[off]? with | some (.bool _)=>true | _=>false
def U9 (P:Program) (t:TypeId) (cs:List AV) (off:Nat):Option (Bool×AV):=
 match P.underlying t with
 | some (.int k)=>some (isI k cs off,.int k (A1 cs off))
 | some .bool=>some (isB cs off,.bool (E1 cs off))
 | some (.struct _)=>match G9 P t with
  | some z=>some (decide (off+z≤cs.length),.agg ((cs.drop off).take z))
  | none=>none
 | some (.array _ _)=>match G9 P t with
  | some z=>some (decide (off+z≤cs.length),.agg ((cs.drop off).take z))
  | none=>none
 | some _=>match cs[off]? with
  | some v=>some (true,v)
  | none=>none
 | none=>none
def Sl (P:Program) (rec:TypeId→AV→AV→Option (Bool×Bool)) (xs ys:List AV):List Field→Option (Bool×Bool)
 | []=>some (true,true)
 | f::fs=>
  if f.name ≠ "_" then
   match U9 P f.type xs f.offset,U9 P f.type ys f.offset with
   | some (c1,a),some (c2,b)=>
    match rec f.type a b,Sl P rec xs ys fs with
    | some (c3,r),some (c4,s)=>some (c1&&(c2&&(c3&&c4)),r&&s)
    | _,_=>none
   | _,_=>none
  else Sl P rec xs ys fs
def Vl (P:Program) (rec:TypeId→AV→AV→Option (Bool×Bool)) (e:TypeId) (z:Nat) (xs ys:List AV):List Nat→Option (Bool×Bool)
 | []=>some (true,true)
 | i::is=>
   match U9 P e xs (i*z),U9 P e ys (i*z) with
   | some (c1,a),some (c2,b)=>
    match rec e a b,Vl P rec e z xs ys is with
    | some (c3,r),some (c4,s)=>some (c1&&(c2&&(c3&&c4)),r&&s)
    | _,_=>none
   | _,_=>none
def Ti (P:Program):Nat→TypeId→AV→AV→Option (Bool×Bool)
 | 0,_,_,_=>none
 | n+1,t,x,y=>
  match P.underlying t with
  | some (.int _)=>match x,y with
   | .int k a,.int k' b=>some (decide (k=k'),a==b)
   | _,_=>none
  | some .bool=>match x,y with
   | .bool a,.bool b=>some (true,a==b)
   | _,_=>none
  | some .string=>match x,y with
   | .str a,.str b=>some (true,a==b)
   | _,_=>none
  | some (.struct fs)=>match x,y with
   | .agg xs,.agg ys=>match P.stoodInHeld t with
    | true=>none
    | false=>Sl P (Ti P n) xs ys fs.toList
   | _,_=>none
  | some (.array m e)=>match x,y with
   | .agg xs,.agg ys=>match G9 P e with
    | some z=>Vl P (Ti P n) e z xs ys (List.range m)
    | none=>none
   | _,_=>none
  | _=>none
def Jg (d:Option TypeDesc):Bool:=match d with | some (.pointer _)=>true | _=>false
def Hx (d:Option TypeDesc):Bool:=match d with | some (.slice _)=>true | _=>false
def Lc (d:Option TypeDesc):Bool:=match d with | some (.func _ _ _)=>true | _=>false
def Xd (d:Option TypeDesc):Bool:=match d with | some .bool=>true | _=>false
def T8 (P:Program) (op:BinOp) (t:TypeId) (x y:AV):Option (Bool×AV):=
 match x,y with
 | .int k a,.int k' b=>
  match op with
  | .shl | .shr=>Mw op k a b
  | _=>if k=k' then Vu op k a b else none
 | .str a,.str b=>Vs op a b
 | .bool a,.bool b=>Fg op (Xd (P.underlying t)) (a==b)
 | .ptr _ _,.nilp=>Fg op (Jg (P.underlying t)) false
 | .nilp,.ptr _ _=>Fg op (Jg (P.underlying t)) false
 | .nilp,.nilp=>Fg op (Jg (P.underlying t)) true
 | .slice false _ _ _,.nils=>Fg op (Hx (P.underlying t)) false
 | .nils,.nils=>Fg op (Hx (P.underlying t)) true
 | .func _ _,.nilf=>Fg op (Lc (P.underlying t)) false
 | .nilf,.nilf=>Fg op (Lc (P.underlying t)) true
 | .agg xs,.agg ys=>
  match P.eqGuardType P.depth t with
  | true=>none
  | false=>match Ti P 10 t (.agg xs) (.agg ys) with
   | some (c,b)=>Fg op c b
   | none=>none
 | _,_=>none
def lA (op:UnOp) (x:AV):Option (Bool×AV):=
 match op,x with
 | .neg,.int k n=>some (true,.int k (k.wrap (0 - n)))
 | .xor,.int k n=>some (true,.int k (Ze k n))
 | .not,.bool b=>some (true,.bool (!b))
 | _,_=>none
def Qr (P:Program) (src dst:TypeId) (x:AV):Option (Bool×AV):=
 match P.underlying src,P.underlying dst,x with
 | some _,some (.int k),.int _ n=>some (true,.int k (k.wrap n))
 | some _,some .string,.str s=>some (true,.str s)
 | _,_,_=>none
def Qo (P:Program) (s:TypeId) (x:AV) (f:Nat):Option (Bool×AV):=
 match P.underlying s,x with
 | some (.struct fs),.ptr r off=>
  match fs[f]? with
  | some fd=>
   match G9 P fd.type with
   | some 0=>none
   | some _=>some (true,.ptr r (off+fd.offset))
   | none=>none
  | none=>none
 | _,_=>none
def Uy (i z:Nat):Nat:=match z with | 1=>i | z=>i*z
def Ld (P:Program) (t:TypeId) (x i:AV):Option (Bool×AV):=
 match i with
 | .int _ i=>
  match P.underlying t,x with
  | some (.array len e),.ptr r off=>
   match G9 P e with
   | some z=>some (decide (0≤i)&&decide (i<len),.ptr r (Uy i.toNat z+off))
   | none=>none
  | some (.slice e),.slice _ r off len=>
   match G9 P e with
   | some z=>some (decide (0≤i)&&decide (i<len),.ptr r (Uy i.toNat z+off))
   | none=>none
  | _,_=>none
 | _=>none
def X8 (x:Option AV) (d:Int):Option Int:=
 match x with
 | none=>some d
 | some (.int _ i)=>some i
 | some _=>none
def Hl (P:Program) (t:TypeId) (x:AV) (lo hi:Option AV):Option (Bool×AV):=
 match P.underlying t,x with
 | some (.slice e),.slice mb r off len=>
  match G9 P e,X8 lo 0,X8 hi len with
  | some z,some l,some h=>some (decide (0≤l)&&(decide (l≤h)&&decide (h≤len)),.slice mb r (Uy l.toNat z+off) (h.toNat - l.toNat))
  | _,_,_=>none
 | some (.slice e),.nils=>
  match G9 P e,X8 lo 0,X8 hi 0 with
  | some _,some l,some h=>some (decide (0≤l)&&(decide (l≤h)&&decide (h≤0)),.nils)
  | _,_,_=>none
 | some .string,.str s=>
  match X8 lo 0,X8 hi s.length with
  | some l,some h=>some (decide (0≤l)&&(decide (l≤h)&&decide (h≤s.length)),.str ((s.take h.toNat).drop l.toNat))
  | _,_=>none
 | _,_=>none
def B8:AV→List AV
 | .agg cs=>cs
 | v=>[v]
def gS (cells:List AV) (off:Nat) (cs:List AV):List AV:=cells.take off++(cs++cells.drop (off+cs.length))
def E2 (cells:List AV) (off:Nat) (v:AV):List AV:=
 match v with
 | .agg cs=>gS cells off cs
 | v=>cells.set off v
def Gn:AV→Bool
 | .undef | .rcd ..=>false
 | _=>true
def isCell:AV→Bool
 | .undef | .agg _ | .tup _ | .rcd ..=>false
 | _=>true
def O9:AV→Nat
 | .agg cs=>cs.length
 | _=>1
def Cy (place:Nat→Option (Nat×Nat)) (cells:List AV):List (Nat×AV)→Option (Bool×List AV)
 | []=>some (true,cells)
 | (i,v)::rest=>
  match place i with
  | none=>none
  | some (off,size)=>
   match Cy place (E2 cells off v) rest with
   | none=>none
   | some (c,r)=>some (Gn v&&(O9 v==size&&(decide (off+size≤cells.length)&&c)),r)
def Y0 (P:Program) (t:TypeId):Option AV:=
 match P.info? t with
 | some i=>match i.zero with
  | some z=>some (D5 z)
  | none=>none
 | none=>none
def Hr (P:Program):List Field→Option (List (Nat×Nat))
 | []=>some []
 | f::fs=>
  match G9 P f.type,Hr P fs with
  | some z,some r=>some ((f.offset,z)::r)
  | _,_=>none
def Lk (P:Program) (t:TypeId) (parts:List (Nat×AV)):Option (Bool×AV):=
 match P.underlying t,Y0 P t with
 | some (.struct fs),some (.agg z)=>
  match Hr P fs.toList with
  | some ps=>
   match Cy (fun i=>ps[i]?) z parts with
   | some (c,cs)=>some (c,.agg cs)
   | none=>none
  | none=>none
 | some (.array _ e),some (.agg z)=>
  match G9 P e with
  | some n=>
   match Cy (fun i=>some (i*n,n)) z parts with
   | some (c,cs)=>some (c,.agg cs)
   | none=>none
  | none=>none
 | _,_=>none
def Nv (P:Program) (t:TypeId) (x:AV):Option (Bool×AV):=
 match P.underlying t,x with
 | some .string,.str s=>some (true,.int .i64 s.length)
 | some (.array n _),_=>some (true,.int .i64 n)
 | some (.slice _),.slice _ _ _ n=>some (true,.int .i64 n)
 | some (.slice _),.nils=>some (true,.int .i64 0)
 | _,_=>none
def cL (P:Program) (t:TypeId) (x:AV):Option (Bool×AV):=
 match P.underlying t,x with
 | some (.slice _),.nils=>some (true,.int .i64 0)
 | _,_=>none
def bI (x y:AV):Option (Bool×AV):=
 match x,y with
 | .int k a,.int k' b=>if k=k' then some (true,.int k (if b>a then b else a)) else none
 | _,_=>none
def bH (x y:AV):Option (Bool×AV):=
 match x,y with
 | .int k a,.int k' b=>if k=k' then some (true,.int k (if b<a then b else a)) else none
 | _,_=>none
def Uk (c a b:AV):Option (Bool×AV):=
 match c with
 | .bool true=>some (true,a)
 | .bool false=>some (true,b)
 | _=>none
def Kj (x:AV):Option (Bool×AV):=
 match x with
 | .ptr r o=>some (true,.ptr r o)
 | .func f c=>some (true,.func f c)
 | .slice m r o n=>some (true,.slice m r o n)
 | _=>none
def F8 (P:Program) (F:Fr) (op:Op):Option (Bool×AV):=
 match op with
 | .move x=>some (true,ev F x)
 | .assign x=>some (true,ev F x)
 | .pick c a b=>Uk (ev F c) (ev F a) (ev F b)
 | .nilCheck x=>Kj (ev F x)
 | .binOp op t x y _=>T8 P op t (ev F x) (ev F y)
 | .unOp op _ x=>lA op (ev F x)
 | .convert s d x=>Qr P s d (ev F x)
 | .fieldAddr s x f=>Qo P s (ev F x) f
 | .indexAddr t x i=>Ld P t (ev F x) (ev F i)
 | .slice t x lo hi none=>Hl P t (ev F x) (lo.map (ev F)) (hi.map (ev F))
 | .build t parts=>Lk P t (parts.toList.map fun p=>(p.1,ev F p.2))
 | .extract x i=>match ev F x with
  | .tup vs=>match vs[i]? with
   | some v=>some (true,v)
   | none=>none
  | _=>none
 | .makeFunc (.func f) first cap=>if first.size=0 then some (true,.func f (cap.toList.map (ev F))) else none
 | .call { callee:=.builtin .len,args,argTypes }=>
  match args.toList,argTypes.toList with
  | [x],[t]=>Nv P t (ev F x)
  | _,_=>none
 | .call { callee:=.builtin .cap,args,argTypes }=>
  match args.toList,argTypes.toList with
  | [x],[t]=>cL P t (ev F x)
  | _,_=>none
 | .call { callee:=.builtin .max,args,.. }=>
  match args.toList with
  | [x,y]=>bI (ev F x) (ev F y)
  | _=>none
 | .call { callee:=.builtin .min,args,.. }=>
  match args.toList with
  | [x,y]=>bH (ev F x) (ev F y)
  | _=>none
 | _=>none
def H4 (C:A0) (H:Hp):Ref→Option (List AV)
 | .rw i=>match H[i]? with
  | some (some b)=>match isRec b with
   | true=>none
   | false=>some b.cells
  | _=>none
 | .ro i=>some (C.G i)
inductive Lf where
 | int (k:IntKind)
 | bool
 | str
 | sl
def C8 (cs:List AV) (off:Nat):Nat:=match cs[off]? with | some (.slice _ (.ro k) _ _)=>k | _=>0
def E9 (cs:List AV) (off:Nat):Nat:=match cs[off]? with | some (.slice _ (.ro _) o _)=>o | _=>0
def C7 (cs:List AV) (off:Nat):Nat:=match cs[off]? with | some (.slice _ (.ro _) _ n)=>n | _=>0
def Fd (cs:List AV) (off:Nat):Bool:=match cs[off]? with | some .nils=>true | some (.slice _ (.ro _) _ _)=>true | _=>false
def bS (cs:List AV) (off:Nat):List UInt8:=match cs[off]? with | some (.str s)=>s | _=>[]
def kH (cs:List AV) (off:Nat):Bool:=match cs[off]? with | some (.str _)=>true | _=>false
def Nw (l:Lf) (cs:List AV) (off:Nat):AV:=
 match l with
 | .int k=>.int k (A1 cs off)
 | .bool=>.bool (E1 cs off)
 | .str=>.str (bS cs off)
 | .sl=>.slice true (.ro (C8 cs off)) (E9 cs off) (C7 cs off)
def Ak (l:Lf) (cs:List AV) (off:Nat):Bool:=
 match l with
 | .int k=>isI k cs off
 | .bool=>isB cs off
 | .str=>kH cs off
 | .sl=>Fd cs off
def Aj (cs:List AV):Nat→List Lf→List AV
 | _,[]=>[]
 | off,l::ls=>Nw l cs off::Aj cs (off+1) ls
def E5 (cs:List AV):Nat→List Lf→Bool
 | _,[]=>true
 | off,l::ls=>Ak l cs off&&E5 cs (off+1) ls
def yX (rec:TypeId→Option (List Lf)):Nat→List Field→Option (List Lf)
 | _,[]=>some []
 | acc,f::fs=>
  match Nat.beq f.offset acc with
  | true=>match rec f.type with
   | some a=>match yX rec (acc+a.length) fs with
    | some b=>some (a++b)
    | none=>none
   | none=>none
  | false=>none
def Xb (P:Program):Nat→TypeId→Option (List Lf)
 | 0,_=>none
 | n+1,t=>
  match P.underlying t with
  | some (.int k)=>some [.int k]
  | some .bool=>some [.bool]
  | some .string=>some [.str]
  | some (.slice _)=>some [.sl]
  | some (.struct fs)=>yX (Xb P n) 0 fs.toList
  | some (.array m e)=>match Xb P n e with
   | some a=>some (List.replicate m a).flatten
   | none=>none
  | _=>none
def kC (P:Program) (t:TypeId) (cs:List AV) (off:Nat):Option (Bool×AV):=
 match P.underlying t with
 | some (.int k)=>some (isI k cs off,.int k (A1 cs off))
 | some .bool=>some (isB cs off,.bool (E1 cs off))
 | some .string=>some (kH cs off,.str (bS cs off))
 | some (.slice _)=>some (Fd cs off,.slice true (.ro (C8 cs off)) (E9 cs off) (C7 cs off))
 | some (.struct _)=>match G9 P t,Xb P 10 t with
  | some z,some ls=>some (Nat.beq ls.length z&&E5 cs off ls,.agg (Aj cs off ls))
  | _,_=>none
 | some (.array _ _)=>match G9 P t,Xb P 10 t with
  | some z,some ls=>some (Nat.beq ls.length z&&E5 cs off ls,.agg (Aj cs off ls))
  | _,_=>none
 | _=>none
def Nr (P:Program) (r:Ref) (t:TypeId) (cs:List AV) (off:Nat):Option (Bool×AV):=
 match r with
 | .rw _=>U9 P t cs off
 | .ro _=>kC P t cs off
def Kk (C:A0) (H:Hp) (t:TypeId) (r:Ref) (off:Nat):Option (Bool×AV):=
 match H4 C H r with
 | some cs=>Nr C.P r t cs off
 | none=>none
def Tp:AV→UInt8
 | .int _ n=>UInt8.ofNat n.toNat
 | _=>0
def Fc:AV→Bool
 | .int .u8 _=>true
 | _=>false
def V9 (P:Program) (t:TypeId):Bool:=
 match P.underlying t with
 | some (.slice e)=>match P.underlying e with
  | some (.int .u8)=>true
  | _=>false
 | _=>false
def Y6 (P:Program) (t:TypeId):Bool:=match P.underlying t with | some .string=>true | _=>false
def tT (cs:List AV) (off n:Nat):Bool×AV:=
 (decide (off+n≤cs.length)&&((cs.drop off).take n).all Fc,.str (((cs.drop off).take n).map Tp))
def M5 (C:A0) (F:Fr) (H:Hp) (op:Op):Option (Bool×AV):=
 match op with
 | .load t a=>match ev F a with
  | .ptr r off=>Kk C H t r off
  | _=>none
 | .field t x f=>
  match C.P.underlying t,ev F x with
  | some (.struct fs),.agg cs=>match fs[f]? with
   | some fd=>U9 C.P fd.type cs fd.offset
   | none=>none
  | _,_=>none
 | .index t x i=>
  match C.P.underlying t,ev F x,ev F i with
  | some (.array len e),.agg cs,.int _ i=>match G9 C.P e with
   | some z=>match U9 C.P e cs (Uy i.toNat z) with
    | some (c,v)=>some (decide (0≤i)&&(decide (i<len)&&c),v)
    | none=>none
   | none=>none
  | _,_,_=>none
 | .convert s d x=>
  match V9 C.P s&&Y6 C.P d,ev F x with
  | true,.nils=>some (true,.str [])
  | true,.slice _ r off n=>match H4 C H r with
   | some cs=>some (tT cs off n)
   | none=>none
  | _,_=>none
 | _=>none
def Lu (F:Fr) (op:Op):Option Ref:=
 match op with
 | .load _ a=>match ev F a with
  | .ptr r _=>some r
  | _=>none
 | .convert _ _ x=>match ev F x with
  | .slice _ r _ _=>some r
  | _=>none
 | _=>none
def here (H:Hp):Ref:=.rw H.length
def Yr (C:A0) (H:Hp) (z:Nat) (x:AV):Option (Bool×Nat×List AV):=
 match x with
 | .nils=>some (true,0,[])
 | .slice _ r off m=>match H4 C H r with
  | some cs=>some (decide (off+m*z≤cs.length)&&((cs.drop off).take (m*z)).all isCell,m,(cs.drop off).take (m*z))
  | none=>none
 | .str s=>some (decide (z=1),s.length,s.map fun b=>.int .u8 b.toNat)
 | _=>none
def If (C:A0) (H:Hp) (t:TypeId) (s x:AV):Option (Bool×AV×Hop):=
 match C.P.underlying t with
 | some (.slice e)=>
  match C.P.info? e,Y0 C.P e with
  | some i,some zv=>
   match Yr C H i.size x with
   | some (c,m,xs)=>
    match s with
    | .nils=>some (Dz i.size&&(c&&(decide (m*i.bytes≤140737488355328)&&(decide (1≤i.bytes)&&(B8 zv).length==i.size))),.slice true (here H) 0 m,.new ⟨i.size,xs⟩)
    | .slice mb (.rw j) 0 n=>
     match H[j]? with
     | some (some b)=>some (!isRec b&&(c&&(decide ((n+m)*i.bytes≤140737488355328)&&(decide (1≤i.bytes)&&((B8 zv).length==i.size&&(b.esz==i.size&&decide (n*i.size≤b.cells.length)))))),.slice mb (here H) 0 (n+m),.app j ⟨i.size,b.cells.take (n*i.size)++xs⟩)
     | _=>none
    | _=>none
   | none=>none
  | _,_=>none
 | _=>none
def Qt (C:A0) (H:Hp) (t:TypeId) (s x:AV):Option (Bool×AV×Hop):=
 match C.P.underlying t,s,x with
 | some (.slice e),.nils,.int .i64 n=>
  match C.P.info? e,Y0 C.P e with
  | some i,some zv=>some (Dz i.size&&(decide (0≤n)&&(decide (n*i.bytes≤140737488355328)&&(decide (1≤i.bytes)&&(decide ((B8 zv).length=i.size)&&decide (1≤i.size))))),.slice true (here H) 0 n.toNat,.new ⟨i.size,(List.replicate n.toNat (B8 zv)).flatten⟩)
  | _,_=>none
 | _,_,_=>none
def Vq (C:A0) (H:Hp) (t:TypeId) (x:AV):Option (Bool×AV×Hop):=
 match C.P.underlying t,x with
 | some (.slice e),.slice _ (.rw j) off n=>
  match G9 C.P e,Y0 C.P e,H[j]? with
  | some z,some zv,some (some b)=>some (!isRec b&&(decide (1≤n)&&(decide ((B8 zv).length=z)&&(decide (1≤z)&&((B8 zv).all isCell&&decide (off+n*z≤b.cells.length))))),.tup [],.set j ⟨b.esz,gS b.cells off (List.replicate n (B8 zv)).flatten⟩)
  | _,_,_=>none
 | _,_=>none
def G7 (C:A0) (F:Fr) (H:Hp) (op:Op):Option (Bool×AV×Hop):=
 match op with
 | .store t a x=>
  match ev F a,G9 C.P t with
  | .ptr (.rw i) off,some z=>match H[i]? with
   | some (some b)=>some (!isRec b&&((B8 (ev F x)).all isCell&&(O9 (ev F x)==z&&decide (off+z≤b.cells.length))),.tup [],.set i ⟨b.esz,E2 b.cells off (ev F x)⟩)
   | _=>none
  | _,_=>none
 | .alloc e=>match Y0 C.P e with
  | some z=>some (true,.ptr (here H) 0,.new ⟨1,B8 z⟩)
  | none=>none
 | .box _ x=>some (Gn (ev F x),.ptr (here H) 0,.new ⟨1,B8 (ev F x)⟩)
 | .buildSlice t n parts=>
  match C.P.underlying t with
  | some (.slice e)=>match G9 C.P e,Y0 C.P e with
   | some z,some zv=>
    match Cy (fun i=>some (i*z,z)) ((List.replicate n (B8 zv)).flatten) (parts.toList.map fun p=>(p.1,ev F p.2)) with
    | some (c,cs)=>some (Dz z&&(c&&(decide (n*z≤16777216)&&decide ((B8 zv).length=z))),.slice false (here H) 0 n,.new ⟨z,cs⟩)
    | none=>none
   | _,_=>none
  | _=>none
 | .makeSlice t l c=>
  match C.P.underlying t,ev F l,ev F c with
  | some (.slice e),.int _ l,.int _ c=>match C.P.info? e,Y0 C.P e with
   | some i,some zv=>some (Dz i.size&&(decide (0≤l)&&(decide (l≤c)&&(decide (c*i.bytes≤140737488355328)&&(decide (c≤140737488355328)&&(decide ((B8 zv).length=i.size)&&decide (1≤i.size)))))),.slice false (here H) 0 l.toNat,.new ⟨i.size,(List.replicate l.toNat (B8 zv)).flatten⟩)
   | _,_=>none
  | _,_,_=>none
 | .convert s d x=>
  match Y6 C.P s&&V9 C.P d,ev F x with
  | true,.str s=>some (decide (s.length≤140737488355328),.slice false (here H) 0 s.length,.new ⟨1,s.map fun b=>.int .u8 b.toNat⟩)
  | false,.slice mb (.rw i) off n=>match V9 C.P s&&Nat.beq s d with
   | true=>match H[i]? with
    | some (some b)=>some (!isRec b&&Nat.ble 1 n,.slice mb (.rw i) off n,.set i b)
    | _=>none
   | false=>none
  | _,_=>none
 | .call { callee:=.builtin .append,args,argTypes }=>
  match args.toList,argTypes.toList with
  | [s,x],[t,u]=>match C.P.underlying u with
   | some (.slice _)=>If C H t (ev F s) (ev F x)
   | some .string=>If C H t (ev F s) (ev F x)
   | some (.int _)=>Qt C H t (ev F s) (ev F x)
   | _=>none
  | _,_=>none
 | .call { callee:=.builtin .clear,args,argTypes }=>
  match args.toList,argTypes.toList with
  | [x],[t]=>Vq C H t (ev F x)
  | _,_=>none
 | _=>none
inductive Kd where
 | pure | read | write | call
 deriving DecidableEq
def kdOf (P:Program) (op:Op):Kd:=
 match op with
 | .load _ _ | .field _ _ _ | .index _ _ _=>.read
 | .store _ _ _ | .alloc _ | .box _ _ | .buildSlice _ _ _ | .makeSlice _ _ _=>.write
 | .convert s d _=>if V9 P s&&Y6 P d then .read else if Y6 P s&&V9 P d then .write else if V9 P s&&Nat.beq s d then .write else .pure
 | .call { callee:=.builtin .append,.. }=>.write
 | .call { callee:=.builtin .clear,.. }=>.write
 | .call { callee:=.builtin _,.. }=>.pure
 | .call _=>.call
 | _=>.pure
def callOp (F:Fr) (op:Op):Option (FuncId×List AV):=
 match op with
 | .call { callee:=.value f,args,.. }=>match ev F f with
  | .func g cap=>some (g,args.toList.map (ev F)++cap)
  | _=>none
 | _=>none
def yldOp (F:Fr) (op:Op):Option (Nat×List AV):=
 match op with
 | .call { callee:=.value f,args,.. }=>match ev F f with
  | .yld i=>some (i,args.toList.map (ev F))
  | _=>none
 | _=>none
def Kb:Fr→List Nat→List AV→Fr
 | F,p::ps,v::vs=>Kb (F.set p v) ps vs
 | F,_,_=>F
def Ud (C:A0) (F:Fr) (H:Hp):ResultVar→Option (Bool×AV)
 | .tmp t=>some (true,F.getD t .undef)
 | .cell a t=>match F.getD a .undef with
  | .ptr r off=>Kk C H t r off
  | _=>none
def Gh (C:A0) (F:Fr) (H:Hp):List ResultVar→Option (Bool×List AV)
 | []=>some (true,[])
 | x::xs=>match Ud C F H x with
  | some (c,v)=>match Gh C F H xs with
   | some (d,r)=>some (c&&d,v::r)
   | none=>none
  | none=>none
def On (C:A0) (fn:Func) (F:Fr) (H:Hp):Option (Bool×AV):=
 match Gh C F H fn.results.toList with
 | some (c,[v])=>some (c,v)
 | some (c,vs)=>some (c,.tup vs)
 | none=>none
def N0 (C:A0) (fn:Func) (Q:AV→Hp→Prop) (e:Ex) (F:Fr) (H:Hp):Prop:=
 match e with
 | .exit _=>False
 | _=>Up (On C fn F H) fun v=>Q v H
inductive TrK where
 | still
 | read (r:Ref)
 | write
structure Tr where
 kd:TrK
 len:Nat
 hs:List Hop
def Ij (i:Nat) (len:Nat):List Hop→Bool
 | []=>false
 | .set j _::hs=>j==i||Ij i len hs
 | .new _::hs=>len==i||Ij i (len+1) hs
 | .app j _::hs=>j==i||(len==i||Ij i (len+1) hs)
def Lo (r:Ref) (len:Nat) (hs:List Hop):Bool:=
 match r with
 | .rw i=>Ij i len hs
 | .ro _=>false
def Er:List Oper→List Nat→List Nat
 | [],acc=>acc
 | o::l,acc=>Er l (acc++[o.after.toList.foldl (fun s e=>bif Region.binds .any e then s ||| (2^e.on ||| acc.getD e.on 0) else s) 0])
def Nt (all:List Oper) (o:Oper):List Tmp:=
 (o.op.operands.toList.filterMap fun | .tmp t=>some t | _=>none) ++
 (match o.guard with
  | some (j,_)=>match (all[j]?).bind (·.dst) with
   | some t=>[t]
   | none=>[]
  | none=>[])
def Qu (all:List Oper) (x y:Oper):Bool:=
 (match x.dst with
  | some d=>!((Nt all y).contains d)&&!(y.dst==some d)
  | none=>true) &&
 (match y.dst with
  | some d=>!((Nt all x).contains d)
  | none=>true)
def Bn (x y:Tr):Bool:=
 match x.kd,y.kd with
 | .write,.write=>false
 | .write,.read r=>!Lo r x.len x.hs
 | .read r,.write=>!Lo r y.len y.hs
 | _,_=>true
def Qq:Nat→List Oper→Bool
 | _,[]=>true
 | j,o::l=>o.after.toList.all (fun e=>!Region.binds .any e||Nat.blt e.on j)&&Qq (j+1) l
def X1 (all:List Oper) (trs:List Tr):Bool:=
 let ms:=Er all []
 Qq 0 all&&(List.range all.length).all fun j=>(List.range j).all fun i=>
  (ms.getD j 0).testBit i ||
  (match all[i]?,all[j]?,trs[i]?,trs[j]? with
   | some x,some y,some a,some b=>Qu all x y&&Bn a b
   | _,_,_,_=>false)
inductive Wk where
 | code (c:Code)
 | ops (all l:List Oper)
 | dr (all l:List Oper) (trs:List Tr)
structure Cfg where
 C:A0
 /-- how much is written out at each step? -/
 strict:Md
 /-- are loops gone through round by round? -/
 unr:Bool
 /-- does a number that is assigned get a name? -/
 nm:Bool:=false
 /-- is a truth value that is assigned looked at once? -/
 sp:Bool:=false
 /-- does a number that a loop leaves get a name? -/
 nl:Bool:=false
 /-- how a test (of a slot,in a frame of so many slots) comes out: then the other way is not gone,and this is owed -/
 hint:Nat→Nat→Option Bool:=fun _ _=>none
 /-- of a call that is entered where the order is drawn: are the blocks that it leaves as they were told from the others? -/
 cmp:Bool:=false
 /-- is a call of this function entered in place? -/
 inl:FuncId→Bool
 /-- what a call that is not entered does -/
 sum:FuncId→List AV→Hp→Option (Bool×AV×List Hop)
 /-- what a loop that is not gone through does -/
 loop:Code→Fr→Hp→Option (Bool×Ex×Fr×Hp)
 /-- how many blocks of the heap the loops leave where they are -/
 M:Nat
def Gg (K:Cfg) (rec:Code→Bool) (o:Oper):Bool:=
 match kdOf K.C.P o.op with
 | .pure=>true
 | .read=>true
 | .write=>false
 | .call=>match o.op with
  | .call { callee:=.value (.func g),.. }=>K.inl g&&(match K.C.P.funcs[g]? with
   | some fn=>match fn.body with
    | some c=>rec c
    | none=>true
   | none=>true)
  | _=>false
def Cp (K:Cfg) (rec:Code→Bool):Code→Bool
 | .skip=>true
 | .region _ ops _=>ops.toList.all (Gg K rec)
 | .seq a b=>Cp K rec a&&Cp K rec b
 | .cond _ a b=>Cp K rec a&&Cp K rec b
 | .block _ c=>Cp K rec c
 | .loop c=>K.unr&&Cp K rec c
 | .exit _=>true
 | .scope c=>Cp K rec c
 | .label _=>true
 | .ret=>true
 | _=>false
def I8 (K:Cfg):Nat→Code→Bool
 | 0,_=>false
 | d+1,c=>Cp K (I8 K d) c
def uA:AV→AV→Bool
 | .bool a,.bool b=>a==b
 | .int k m,.int k' n=>decide (k=k')&&decide (m=n)
 | .nilp,.nilp=>true
 | .nils,.nils=>true
 | .nilf,.nilf=>true
 | .ptr (.rw i) o,.ptr (.rw j) o'=>Nat.beq i j&&Nat.beq o o'
 | .slice m (.rw i) o n,.slice m' (.rw j) o' n'=>m==m'&&(Nat.beq i j&&(Nat.beq o o'&&Nat.beq n n'))
 | _,_=>false
def Wi:List AV→List AV→Bool
 | [],[]=>true
 | x::xs,y::ys=>uA x y&&Wi xs ys
 | _,_=>false
def jX:Option Blk→Blk→Bool
 | some b,b'=>Nat.beq b.esz b'.esz&&Wi b.cells b'.cells
 | none,_=>false
def X5:Bool→Nat→Hp→Option (List Hop)
 | false,_,[]=>some []
 | true,_,[]=>none
 | false,i,some b::H'=>match X5 false (i+1) H' with
  | some hs=>some (.new b::hs)
  | none=>none
 | true,i,some b::H'=>match X5 false (i+1) H' with
  | some hs=>some (.app (i - 1) b::hs)
  | none=>none
 | false,i,none::H'=>match X5 true (i+1) H' with
  | some hs=>some (.new ⟨0,[]⟩::hs)
  | none=>none
 | true,i,none::H'=>match X5 true (i+1) H' with
  | some hs=>some (.app (i - 1) ⟨0,[]⟩::hs)
  | none=>none
def Ac (cmp:Bool):Nat→Hp→Hp→Option (List Hop)
 | i,[],H'=>X5 false i H'
 | i,x::H,some b::H'=>match cmp&&jX x b with
  | true=>Ac cmp (i+1) H H'
  | false=>match Ac cmp (i+1) H H' with
   | some hs=>some (.set i b::hs)
   | none=>none
 | i,none::H,none::H'=>Ac cmp (i+1) H H'
 | _,_,_=>none
def N3 (fn:Func) (args:List AV):Fr:=args++List.replicate (fn.ntmps - args.length) (.tup [])
abbrev Post:=Ex→Fr→Hp→Prop
abbrev Rec:=Nat→Wk→Fr→Hp→Post→Prop
def wrc (o:Option (Bool×AV×Hop)) (k:AV→Hop→Prop):Prop:=match o with | some (c,v,h)=>chk c (k v h) | none=>False
def smc (o:Option (Bool×AV×List Hop)) (k:AV→List Hop→Prop):Prop:=match o with | some (c,v,h)=>chk c (k v h) | none=>False
def lpc (o:Option (Bool×Ex×Fr×Hp)) (k:Ex→Fr→Hp→Prop):Prop:=match o with | some (c,e,F,H)=>chk c (k e F H) | none=>False
def Ls (K:Cfg) (rec:Rec) (m:Nat) (all l:List Oper) (dst:Option Tmp) (f:FuncId) (args:List AV) (F:Fr) (H:Hp) (Q:Post):Prop:=
 match K.inl f with
 | true=>
  match K.C.P.funcs[f]? with
  | some fn=>match fn.body with
   | some c => chk (!(fn.name == "runtime.NumGoroutine")) (rec H.length (.code c) (N3 fn args) H (N0 K.C fn fun v H' => S0 K.strict F dst v fun F => rec m (.ops all l) F H' Q))
   | none=>False
  | none=>False
 | false=>namL K.nm args fun args=>smc (K.sum f args H) fun v hs=>Se K.strict H hs fun H=>S0 K.strict F dst v fun F=>rec m (.ops all l) F H Q
def tW:Ex→Nat
 | .normal=>0
 | .ret=>2
 | .exit n=>n+3
def Zf:Ex→Bool
 | .normal=>true
 | _=>false
def Oz (K:Cfg) (rec:Rec) (m:Nat) (all l:List Oper) (dst:Option Tmp) (i:Nat) (F:Fr) (Q:Post):Post:=fun ex _ H=>
 match H[i]? with
 | some (some ⟨e,.rcd 1 ps as bd::F0⟩)=>chk (Nat.beq e 4294967291) (S0 K.strict F dst (.bool (Zf ex)) fun F=>rec m (.ops all l) F (H.set i (some ⟨e,.rcd (tW ex) ps as bd::F0⟩)) Q)
 | _=>False
def Wa (K:Cfg) (rec:Rec) (k m:Nat) (all l:List Oper) (dst:Option Tmp) (i:Nat) (body:Code) (F:Fr) (Q:Post):Post:=fun ex F1 H=>
 match ex with
 | .normal=>match H[i]? with
  | some (some ⟨e,.rcd 0 ps as bd::F0⟩)=>chk (Nat.beq e 4294967291) (rec k (.code body) F1 (H.set i (some ⟨e,.rcd 1 ps as bd::F0⟩)) (Oz K rec m all l dst i F Q))
  | _=>False
 | _=>False
def Kx (K:Cfg) (rec:Rec) (m:Nat) (all l:List Oper) (dst:Option Tmp) (i:Nat) (args:List AV) (F:Fr) (H:Hp) (Q:Post):Prop:=
 match H[i]? with
 | some (some ⟨e,.rcd 0 ps as bd::F0⟩)=>
  chk (Nat.beq e 4294967291&&(Nat.beq args.length ps.size&&(Q7 as&&(Q7 bd&&K.unr))))
   (rec H.length (.code as) (Kb F0 ps.toList args) H (Wa K rec H.length m all l dst i bd F Q))
 | _=>False
def rngJ (p:Nat) (F:Fr) (H:Hp) (Q:Post):Prop:=
 match p with
 | 0=>Q .normal F H
 | 1=>False
 | 2=>Q .ret F H
 | n+3=>Q (.exit n) F H
def Ja (i:Nat) (F:Fr) (Q:Post):AV→Hp→Prop:=fun _ H=>
 match H[i]? with
 | some (some ⟨e,.rcd p _ _ _::_⟩)=>chk (Nat.beq e 4294967291) (rngJ p F (H.set i none) Q)
 | _=>False
def Ph (K:Cfg) (rec:Rec) (g:Operand) (ps:Array Tmp) (as bd:Code) (F:Fr) (H:Hp) (Q:Post):Prop:=
 match ev F g with
 | .func f cap=>match K.C.P.funcs[f]? with
  | some fn=>match fn.body with
   | some c => chk (!(fn.name == "runtime.NumGoroutine") && K.unr) (rec (H.length + 1) (.code c) (N3 fn (.yld H.length :: cap)) (H ++ [some ⟨4294967291, .rcd 0 ps as bd :: F⟩]) (N0 K.C fn (Ja H.length F Q)))
   | none=>False
  | none=>False
 | _=>False
def Ge (K:Cfg) (rec:Rec) (m:Nat) (all l:List Oper) (dst:Option Tmp) (op:Op) (F:Fr) (H:Hp) (Q:Post):Prop:=
 match kdOf K.C.P op with
 | .pure=>Up (F8 K.C.P F op) fun v=>eI (K.sp&&Sb op) (K.nm&&Sb op) K.strict F dst v fun F=>rec m (.ops all l) F H Q
 | .read=>Up (M5 K.C F H op) fun v=>S0 K.strict F dst v fun F=>rec m (.ops all l) F H Q
 | .write=>wrc (G7 K.C F H op) fun v h=>Vd K.strict H h fun H=>S0 K.strict F dst v fun F=>rec m (.ops all l) F H Q
 | .call=>match callOp F op with
  | some (f,args)=>Ls K rec m all l dst f args F H Q
  | none=>match yldOp F op with
   | some (i,args)=>Kx K rec m all l dst i args F H Q
   | none=>False
def guardK (hint:Nat→Option Bool) (s:Md) (all:List Oper) (guard:Option (Nat×Bool)) (F:Fr) (go skip:Fr→Prop):Prop:=
 match guard with
 | none=>go F
 | some (j,want)=>
  match (all[j]?).bind (·.dst) with
  | some t=>
   match F.getD t .undef with
   | .bool b=>dJ (hint t) b
     (S0 s F (some t) (.bool true) fun F=>match want with | true=>go F | false=>skip F)
     (S0 s F (some t) (.bool false) fun F=>match want with | true=>skip F | false=>go F)
   | .tup []=>skip F
   | _=>False
  | none=>False
def Ky (K:Cfg) (rec:Rec) (m:Nat) (all l:List Oper) (F:Fr) (H:Hp) (Q:Post):Prop:=
 match l with
 | []=>Q .normal F H
 | ⟨dst,op,_,_,_,guard⟩::l=>
  guardK (K.hint F.length) K.strict all guard F (fun F=>Ge K rec m all l dst op F H Q) (fun F=>S0 K.strict F dst (.tup []) fun F=>rec m (.ops all l) F H Q)
def Au (K:Cfg) (rec:Rec) (m:Nat) (all l:List Oper) (trs:List Tr) (dst:Option Tmp) (op:Op) (F:Fr) (H:Hp) (Q:Post):Prop:=
  match kdOf K.C.P op with
  | .pure=>Up (F8 K.C.P F op) fun v=>eI (K.sp&&Sb op) (K.nm&&Sb op) K.strict F dst v fun F'=>rec m (.dr all l (trs++[⟨.still,H.length,[]⟩])) F' H Q
  | .read=>Up (M5 K.C F H op) fun v=>S0 K.strict F dst v fun F'=>rec m (.dr all l (trs++[⟨(match Lu F op with | some r=>.read r | none=>.still),H.length,[]⟩])) F' H Q
  | .write => wrc (G7      K.C F H op) fun v h => Vd   K.strict H h fun H' => S0   K.strict F dst v fun F' => rec m (.dr all l (trs ++ [⟨.write, H.length, [h]⟩])) F' H' Q
  | .call=>match callOp F op with
    | some (f,args)=>match K.inl f with
      | true=>
        match K.C.P.funcs[f]? with
        | some fn=>match fn.body with
          | some c => chk (!(fn.name == "runtime.NumGoroutine")) (rec H.length (.code c) (N3 fn args) H (N0 K.C fn fun v H' =>
              match I8 K 20 c with
              | true=>S0 K.strict F dst v fun F'=>rec m (.dr all l (trs++[⟨.write,H.length,[]⟩])) F' H Q
              | false=>match Ac K.cmp 0 H H' with
                | some hs=>S0 K.strict F dst v fun F'=>rec m (.dr all l (trs++[⟨.write,H.length,hs⟩])) F' H' Q
                | none=>False))
          | none=>False
        | none=>False
      | false=>namL K.nm args fun args=>smc (K.sum f args H) fun v hs=>Se K.strict H hs fun H'=>S0 K.strict F dst v fun F'=>rec m (.dr all l (trs++[⟨.write,H.length,hs⟩])) F' H' Q
    | none=>False
def Pi (K:Cfg) (rec:Rec) (m:Nat) (all l:List Oper) (trs:List Tr) (F:Fr) (H:Hp) (Q:Post):Prop:=
 match l with
 | []=>chk (X1 all trs) (Q .normal F H)
 | ⟨dst,op,_,_,_,guard⟩::l=>
  guardK (K.hint F.length) K.strict all guard F (fun F=>Au K rec m all l trs dst op F H Q) (fun F=>S0 K.strict F dst (.tup []) fun F=>rec m (.dr all l (trs++[⟨.still,H.length,[]⟩])) F H Q)
def Yq (K:Cfg) (rec:Rec) (m:Nat) (c:Operand) (x y:Code) (F:Fr) (H:Hp) (Q:Post):Prop:=
 match c with
 | .tmp t=>match F.getD t .undef with
  | .bool b=>dJ (K.hint F.length t) b (S0 K.strict F (some t) (.bool true) fun F=>rec m (.code x) F H Q) (S0 K.strict F (some t) (.bool false) fun F=>rec m (.code y) F H Q)
  | _=>False
 | .const (.bool b)=>match b with
  | true=>rec m (.code x) F H Q
  | false=>rec m (.code y) F H Q
 | _=>False
def Ik (rec:Rec) (m:Nat) (b:Code) (Q:Post):Post:=fun e F H=>match e with
 | .normal=>rec m (.code b) F H Q
 | e=>Q e F H
def T0 (id:Nat) (Q:Post):Post:=fun e F H=>match e with
 | .exit i=>match i==id with
  | true=>Q .normal F H
  | false=>Q (.exit i) F H
 | e=>Q e F H
def U1 (K:Cfg) (rec:Rec) (m:Nat) (c:Code) (F:Fr) (H:Hp) (Q:Post):Prop:=
 match c with
 | .skip=>Q .normal F H
 | .region _ ops draw=>match draw with
  | true=>rec m (.dr ops.toList ops.toList []) F H Q
  | false=>rec m (.ops ops.toList ops.toList) F H Q
 | .seq a b=>rec m (.code a) F H (Ik rec m b Q)
 | .cond c x y=>Yq K rec m c x y F H Q
 | .block id c=>rec m (.code c) F H (T0 id Q)
 | .loop c=>match K.unr with
  | true=>rec m (.code c) F H (Ik rec m (.loop c) Q)
  | false=>chk (Nat.ble m K.M) (lpc (K.loop c F H) fun e F' H'=>namL K.nl F' fun F'=>Q e F' H')
 | .exit id=>Q (.exit id) F H
 | .scope c=>rec m (.code c) F H Q
 | .label _=>Q .normal F H
 | .ret=>Q .ret F H
 | .rangeFunc g ps as bd=>Ph K rec g ps as bd F H Q
 | _=>False
def stepWk (K:Cfg) (rec:Rec) (m:Nat) (w:Wk) (F:Fr) (H:Hp) (Q:Post):Prop:=
 match w with
 | .ops all l=>Ky K rec m all l F H Q
 | .dr all l trs=>Pi K rec m all l trs F H Q
 | .code c=>U1 K rec m c F H Q
def vc (K:Cfg):Nat→Rec
 | 0=>fun _ _ _ _ _=>False
 | n+1=>stepWk K (vc K n)
end Go.Am
