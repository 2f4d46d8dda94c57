/-
  An abstract machine over the kit's programs: abstract values, abstract
-/
import Derived.Orders
import Derived.Below
import Derived.KernelRfl
namespace Go.Am
inductive Ref where
 | rw (i:Nat)
 | ro (i:Nat)
 deriving DecidableEq
inductive AV where
 | undef
 | bool (b:Bool)
 | int (k:IntKind) (n:Int)
 | str (s:List UInt8)
 | nilp
 | ptr (r:Ref) (off:Nat)
 | nils
 | slice (mb:Bool) (r:Ref) (off len:Nat)
 | nilf
 | func (f:FuncId) (cap:List AV)
 | agg (cs:List AV)
 | tup (vs:List AV)
 /-- what a round of the loop with this record is asked for by -/
 | yld (i:Nat)
 /-- how the record of a loop over a function stands;what its rounds assign and do -/
 | rcd (p:Nat) (ps:Array Nat) (a b:Code)
structure Blk where
 esz:Nat
 cells:List AV
abbrev Hp:=List (Option Blk)
def isRec (b:Blk):Bool:=Nat.beq b.esz 4294967291
def M3:Code→Bool
 | .seq a b=>M3 a&&M3 b
 | .cond _ a b=>M3 a&&M3 b
 | .block _ c=>M3 c
 | .scope c=>M3 c
 | .loop c=>M3 c
 | .rangeFunc ..=>false
 | _=>true
def Bp (z:Nat):Bool:=!Nat.beq z 4294967291
abbrev Fr:=List AV
inductive Ex where
 | normal
 | exit (id:Nat)
 | ret
structure A2 where
 P:Program
 G:Nat→List AV
 B:Nat
def T7:Value→AV
 | .bool b=>.bool b
 | .int k n=>.int k n
 | .string s=>.str s.data.toList
 | .pointer none=>.nilp
 | .slice none 0 0=>.nils
 | .nilFunc=>.nilf
 | _=>.undef
def C6:Value→AV
 | .agg cs=>.agg (cs.toList.map T7)
 | v=>T7 v
def ev (F:Fr):Operand→AV
 | .tmp t=>F.getD t .undef
 | .const v=>C6 v
 | .global _=>.undef
 | .func f=>.func f []
def put (F:Fr) (d:Option Tmp) (v:AV):Fr:=
 match d with
 | some d=>F.set d v
 | none=>F
def chk (c:Bool) (K:Prop):Prop:=match c with | true=>K | false=>False
def tst (b:Bool) (A B:Prop):Prop:=match b with | true=>A | false=>B
def Xd (h:Option Bool) (b:Bool) (A B:Prop):Prop:=
 match h with
 | none=>tst b A B
 | some true=>chk b A
 | some false=>chk (!b) B
def Sh (o:Option (Bool×AV)) (K:AV→Prop):Prop:=match o with | some (c,v)=>chk c (K v) | none=>False
def Gu (n:Nat) (k:Nat→Prop):Prop:=match n with | 0=>k 0 | n+1=>k (n+1)
def eQ (n:Int) (k:Int→Prop):Prop:=match n with | .ofNat a=>Gu a fun a=>k (.ofNat a) | .negSucc a=>Gu a fun a=>k (.negSucc a)
def Ya (r:Ref) (k:Ref→Prop):Prop:=match r with | .rw i=>Gu i fun i=>k (.rw i) | .ro i=>Gu i fun i=>k (.ro i)
def Yd (v:AV) (k:AV→Prop):Prop:=
 match v with
 | .undef=>k .undef
 | .bool b=>match b with | true=>k (.bool true) | false=>k (.bool false)
 | .int t n=>eQ n fun n=>k (.int t n)
 | .str s=>k (.str s)
 | .nilp=>k .nilp
 | .ptr r off=>Ya r fun r=>Gu off fun off=>k (.ptr r off)
 | .nils=>k .nils
 | .slice mb r off len=>Ya r fun r=>Gu off fun off=>Gu len fun len=>k (.slice mb r off len)
 | .nilf=>k .nilf
 | .func f cap=>k (.func f cap)
 | .agg cs=>k (.agg cs)
 | .tup vs=>k (.tup vs)
 | .yld i=>Gu i fun i=>k (.yld i)
 | .rcd p ps a b=>Gu p fun p=>k (.rcd p ps a b)
def Nh (l:List AV) (k:List AV→Prop):Prop:=
 match l with
 | []=>k []
 | x::xs=>Yd x fun x=>Nh xs fun xs=>k (x::xs)
def eO (v:AV) (k:AV→Prop):Prop:=
 match v with
 | .agg cs=>Nh cs fun cs=>k (.agg cs)
 | .tup vs=>Nh vs fun vs=>k (.tup vs)
 | .func f cap=>Nh cap fun cap=>k (.func f cap)
 | v=>Yd v k
def Kf {α:Type} (F:List α) (d:Nat) (v:α) (k:List α→Prop):Prop:=
 match F,d with
 | [],_=>k []
 | _::xs,0=>k (v::xs)
 | x::xs,d+1=>Kf xs d v fun ys=>k (x::ys)
def Ji {α:Type} (F:List α) (v:α) (k:List α→Prop):Prop:=
 match F with
 | []=>k [v]
 | x::xs=>Ji xs v fun ys=>k (x::ys)
inductive Md where
 | lazy | half | full
def eU (v:AV) (k:AV→Prop):Prop:=
 match v with
 | .undef=>k .undef
 | .bool b=>k (.bool b)
 | .int t n=>k (.int t n)
 | .str s=>k (.str s)
 | .nilp=>k .nilp
 | .ptr r off=>k (.ptr r off)
 | .nils=>k .nils
 | .slice mb r off len=>k (.slice mb r off len)
 | .nilf=>k .nilf
 | .func f cap=>k (.func f cap)
 | .agg cs=>k (.agg cs)
 | .tup vs=>k (.tup vs)
 | .yld i=>k (.yld i)
 | .rcd p ps a b=>k (.rcd p ps a b)
def Rn (l:List AV) (k:List AV→Prop):Prop:=
 match l with
 | []=>k []
 | x::xs=>eU x fun x=>Rn xs fun xs=>k (x::xs)
def eP (v:AV) (k:AV→Prop):Prop:=
 match v with
 | .tup vs=>Rn vs fun vs=>k (.tup vs)
 | v=>eU v k
def N8 (s:Md) (F:Fr) (d:Option Tmp) (v:AV) (k:Fr→Prop):Prop:=
 match s with
 | .lazy=>k (put F d v)
 | .half=>match d with
  | some d=>eP v fun v=>Kf F d v k
  | none=>k F
 | .full=>match d with
  | some d=>eO v fun v=>Kf F d v k
  | none=>k F
def nam (e:Int) (K:Int→Prop):Prop:=∀ x,x=e→K x
def Xm (nm:Bool) (s:Md) (F:Fr) (d:Option Tmp) (v:AV) (k:Fr→Prop):Prop:=
 match nm with
 | false=>N8 s F d v k
 | true=>match v with
  | .int t e=>nam e fun x=>N8 s F d (.int t x) k
  | v=>N8 s F d v k
def Xl (sp nm:Bool) (s:Md) (F:Fr) (d:Option Tmp) (v:AV) (k:Fr→Prop):Prop:=
 match sp with
 | false=>Xm nm s F d v k
 | true=>match v with
  | .bool b=>tst b (N8 s F d (.bool true) k) (N8 s F d (.bool false) k)
  | v=>Xm nm s F d v k
def Xt:List AV→(List AV→Prop)→Prop
 | [],k=>k []
 | .int t e::l,k=>nam e fun x=>Xt l fun l'=>k (.int t x::l')
 | v::l,k=>Xt l fun l'=>k (v::l')
def namL (nm:Bool) (args:List AV) (k:List AV→Prop):Prop:=
 match nm with
 | false=>k args
 | true=>Xt args k
def Nc:Op→Bool
 | .assign _=>true
 | _=>false
inductive Hop where
 | set (i:Nat) (b:Blk)
 | new (b:Blk)
 | app (j:Nat) (b:Blk)
def Hop.act (H:Hp):Hop→Hp
 | .set i b=>H.set i (some b)
 | .new b=>H++[some b]
 | .app j b=>H.set j none++[some b]
def acts (H:Hp):List Hop→Hp
 | []=>H
 | h::hs=>acts (h.act H) hs
def Tm (b:Blk) (k:Blk→Prop):Prop:=match b with | ⟨e,cs⟩=>Nh cs fun cs=>k ⟨e,cs⟩
def Pp (s:Md) (H:Hp) (o:Hop) (k:Hp→Prop):Prop:=
 match s with
 | .lazy=>k (o.act H)
 | .half=>match o with
  | .set i b=>match b with | ⟨e,cs⟩=>Kf H i (some ⟨e,cs⟩) k
  | .new b=>match b with | ⟨e,cs⟩=>Ji H (some ⟨e,cs⟩) k
  | .app j b=>match b with | ⟨e,cs⟩=>Kf H j none fun H=>Ji H (some ⟨e,cs⟩) k
 | .full=>match o with
  | .set i b=>Tm b fun b=>Kf H i (some b) k
  | .new b=>Tm b fun b=>Ji H (some b) k
  | .app j b=>Tm b fun b=>Kf H j none fun H=>Ji H (some b) k
def Nf (s:Md) (H:Hp) (o:List Hop) (k:Hp→Prop):Prop:=
 match o with
 | []=>k H
 | h::hs=>Pp s H h fun H=>Nf s H hs k
def L7 (k:IntKind) (x y:Int):Int:=k.wrap (BitVec.ofInt k.bits x &&& BitVec.ofInt k.bits y).toNat
def Gw (k:IntKind) (x y:Int):Int:=k.wrap (BitVec.ofInt k.bits x ||| BitVec.ofInt k.bits y).toNat
def Dw (k:IntKind) (x y:Int):Int:=k.wrap (BitVec.ofInt k.bits x ^^^ BitVec.ofInt k.bits y).toNat
def Xw (k:IntKind) (x y:Int):Int:=k.wrap (BitVec.ofInt k.bits x &&& ~~~ BitVec.ofInt k.bits y).toNat
def Ti (k:IntKind) (n:Int):Int:=k.wrap (BitVec.ofInt k.bits (if k.signed then -1 else k.max) ^^^ BitVec.ofInt k.bits n).toNat
def Cl (k:IntKind) (x y:Int):Int:=k.wrap (x*2^(min y.toNat k.bits))
def O2 (k:IntKind) (x y:Int):Int:=x.fdiv (2^(min y.toNat k.bits))
def Qj (op:BinOp) (k:IntKind) (x y:Int):Option (Bool×AV):=
 match op with
 | .add=>some (true,.int k (k.wrap (x+y)))
 | .sub=>some (true,.int k (k.wrap (x - y)))
 | .mul=>some (true,.int k (k.wrap (x*y)))
 | .quo=>some (!(y==0),.int k (k.wrap (x.tdiv y)))
 | .rem=>some (!(y==0),.int k (x.tmod y))
 | .and=>some (true,.int k (L7 k x y))
 | .or=>some (true,.int k (Gw k x y))
 | .xor=>some (true,.int k (Dw k x y))
 | .andNot=>some (true,.int k (Xw k x y))
 | .eql=>some (true,.bool (x==y))
 | .neq=>some (true,.bool (x != y))
 | .lss=>some (true,.bool (decide (x<y)))
 | .leq=>some (true,.bool (decide (x≤y)))
 | .gtr=>some (true,.bool (decide (x>y)))
 | .geq=>some (true,.bool (decide (x≥y)))
 | _=>none
def Iq (op:BinOp) (k:IntKind) (x y:Int):Option (Bool×AV):=
 match op with
 | .shl=>some (decide (0≤y),.int k (Cl k x y))
 | .shr=>some (decide (0≤y),.int k (O2 k x y))
 | _=>none
def Qh (op:BinOp) (x y:List UInt8):Option (Bool×AV):=
 match op with
 | .add=>some (decide (x.length+y.length≤9223372036854775807),.str (x++y))
 | .eql=>some (true,.bool (x==y))
 | .neq=>some (true,.bool (!(x==y)))
 | _=>none
def Co (op:BinOp) (c:Bool) (b:Bool):Option (Bool×AV):=
 match op with
 | .eql=>some (c,.bool b)
 | .neq=>some (c,.bool (!b))
 | _=>none
def E4 (P:Program) (t:TypeId):Option Nat:=(P.info? t).map (·.size)
def A0 (cs:List AV) (off:Nat):Int:=match cs[off]? with | some (.int _ n)=>n | _=>0
def isI (k:IntKind) (cs:List AV) (off:Nat):Bool:=match cs[off]? with | some (.int k' _)=>k==k' | _=>false
def E7 (cs:List AV) (off:Nat):Bool:=match cs[off]? with | some (.bool b)=>b | _=>false
def isB (cs:List AV) (off:Nat):Bool:=match cs[off]? with | some (.bool _)=>true | _=>false
def Q4 (P:Program) (t:TypeId) (cs:List AV) (off:Nat):Option (Bool×AV):=
 match P.underlying t with
 | some (.int k)=>some (isI k cs off,.int k (A0 cs off))
 | some .bool=>some (isB cs off,.bool (E7 cs off))
 | some (.struct _)=>match E4 P t with
  | some z=>some (decide (off+z≤cs.length),.agg ((cs.drop off).take z))
  | none=>none
 | some (.array _ _)=>match E4 P t with
  | some z=>some (decide (off+z≤cs.length),.agg ((cs.drop off).take z))
  | none=>none
 | some _=>match cs[off]? with
  | some v=>some (true,v)
  | none=>none
 | none=>none
def Nl (P:Program) (rec:TypeId→AV→AV→Option (Bool×Bool)) (xs ys:List AV):List Field→Option (Bool×Bool)
 | []=>some (true,true)
 | f::fs=>
  if f.name ≠ "_" then
   match Q4 P f.type xs f.offset,Q4 P f.type ys f.offset with
   | some (c1,a),some (c2,b)=>
    match rec f.type a b,Nl P rec xs ys fs with
    | some (c3,r),some (c4,s)=>some (c1&&(c2&&(c3&&c4)),r&&s)
    | _,_=>none
   | _,_=>none
  else Nl P rec xs ys fs
def Qb (P:Program) (rec:TypeId→AV→AV→Option (Bool×Bool)) (e:TypeId) (z:Nat) (xs ys:List AV):List Nat→Option (Bool×Bool)
 | []=>some (true,true)
 | i::is=>
   match Q4 P e xs (i*z),Q4 P e ys (i*z) with
   | some (c1,a),some (c2,b)=>
    match rec e a b,Qb P rec e z xs ys is with
    | some (c3,r),some (c4,s)=>some (c1&&(c2&&(c3&&c4)),r&&s)
    | _,_=>none
   | _,_=>none
def Oa (P:Program):Nat→TypeId→AV→AV→Option (Bool×Bool)
 | 0,_,_,_=>none
 | n+1,t,x,y=>
  match P.underlying t with
  | some (.int _)=>match x,y with
   | .int k a,.int k' b=>some (decide (k=k'),a==b)
   | _,_=>none
  | some .bool=>match x,y with
   | .bool a,.bool b=>some (true,a==b)
   | _,_=>none
  | some .string=>match x,y with
   | .str a,.str b=>some (true,a==b)
   | _,_=>none
  | some (.struct fs)=>match x,y with
   | .agg xs,.agg ys=>match P.stoodInHeld t with
    | true=>none
    | false=>Nl P (Oa P n) xs ys fs.toList
   | _,_=>none
  | some (.array m e)=>match x,y with
   | .agg xs,.agg ys=>match E4 P e with
    | some z=>Qb P (Oa P n) e z xs ys (List.range m)
    | none=>none
   | _,_=>none
  | _=>none
def Gd (d:Option TypeDesc):Bool:=match d with | some (.pointer _)=>true | _=>false
def Fb (d:Option TypeDesc):Bool:=match d with | some (.slice _)=>true | _=>false
def Ho (d:Option TypeDesc):Bool:=match d with | some (.func _ _ _)=>true | _=>false
def Rm (d:Option TypeDesc):Bool:=match d with | some .bool=>true | _=>false
def P4 (P:Program) (op:BinOp) (t:TypeId) (x y:AV):Option (Bool×AV):=
 match x,y with
 | .int k a,.int k' b=>
  match op with
  | .shl | .shr=>Iq op k a b
  | _=>if k=k' then Qj op k a b else none
 | .str a,.str b=>Qh op a b
 | .bool a,.bool b=>Co op (Rm (P.underlying t)) (a==b)
 | .ptr _ _,.nilp=>Co op (Gd (P.underlying t)) false
 | .nilp,.ptr _ _=>Co op (Gd (P.underlying t)) false
 | .nilp,.nilp=>Co op (Gd (P.underlying t)) true
 | .slice false _ _ _,.nils=>Co op (Fb (P.underlying t)) false
 | .nils,.nils=>Co op (Fb (P.underlying t)) true
 | .func _ _,.nilf=>Co op (Ho (P.underlying t)) false
 | .nilf,.nilf=>Co op (Ho (P.underlying t)) true
 | .agg xs,.agg ys=>
  match P.eqGuardType P.depth t with
  | true=>none
  | false=>match Oa P 10 t (.agg xs) (.agg ys) with
   | some (c,b)=>Co op c b
   | none=>none
 | _,_=>none
def cC (op:UnOp) (x:AV):Option (Bool×AV):=
 match op,x with
 | .neg,.int k n=>some (true,.int k (k.wrap (0 - n)))
 | .xor,.int k n=>some (true,.int k (Ti k n))
 | .not,.bool b=>some (true,.bool (!b))
 | _,_=>none
def Lw (P:Program) (src dst:TypeId) (x:AV):Option (Bool×AV):=
 match P.underlying src,P.underlying dst,x with
 | some _,some (.int k),.int _ n=>some (true,.int k (k.wrap n))
 | some _,some .string,.str s=>some (true,.str s)
 | _,_,_=>none
def Lu (P:Program) (s:TypeId) (x:AV) (f:Nat):Option (Bool×AV):=
 match P.underlying s,x with
 | some (.struct fs),.ptr r off=>
  match fs[f]? with
  | some fd=>
   match E4 P fd.type with
   | some 0=>none
   | some _=>some (true,.ptr r (off+fd.offset))
   | none=>none
  | none=>none
 | _,_=>none
def Pg (i z:Nat):Nat:=match z with | 1=>i | z=>i*z
def Hq (P:Program) (t:TypeId) (x i:AV):Option (Bool×AV):=
 match i with
 | .int _ i=>
  match P.underlying t,x with
  | some (.array len e),.ptr r off=>
   match E4 P e with
   | some z=>some (decide (0≤i)&&decide (i<len),.ptr r (Pg i.toNat z+off))
   | none=>none
  | some (.slice e),.slice _ r off len=>
   match E4 P e with
   | some z=>some (decide (0≤i)&&decide (i<len),.ptr r (Pg i.toNat z+off))
   | none=>none
  | _,_=>none
 | _=>none
def T2 (x:Option AV) (d:Int):Option Int:=
 match x with
 | none=>some d
 | some (.int _ i)=>some i
 | some _=>none
def En (P:Program) (t:TypeId) (x:AV) (lo hi:Option AV):Option (Bool×AV):=
 match P.underlying t,x with
 | some (.slice e),.slice mb r off len=>
  match E4 P e,T2 lo 0,T2 hi len with
  | some z,some l,some h=>some (decide (0≤l)&&(decide (l≤h)&&decide (h≤len)),.slice mb r (Pg l.toNat z+off) (h.toNat - l.toNat))
  | _,_,_=>none
 | some (.slice e),.nils=>
  match E4 P e,T2 lo 0,T2 hi 0 with
  | some _,some l,some h=>some (decide (0≤l)&&(decide (l≤h)&&decide (h≤0)),.nils)
  | _,_,_=>none
 | some .string,.str s=>
  match T2 lo 0,T2 hi s.length with
  | some l,some h=>some (decide (0≤l)&&(decide (l≤h)&&decide (h≤s.length)),.str ((s.take h.toNat).drop l.toNat))
  | _,_=>none
 | _,_=>none
def B2:AV→List AV
 | .agg cs=>cs
 | v=>[v]
def Zc (cells:List AV) (off:Nat) (cs:List AV):List AV:=cells.take off++(cs++cells.drop (off+cs.length))
def J7 (cells:List AV) (off:Nat) (v:AV):List AV:=
 match v with
 | .agg cs=>Zc cells off cs
 | v=>cells.set off v
def Dv:AV→Bool
 | .undef | .rcd ..=>false
 | _=>true
def isCell:AV→Bool
 | .undef | .agg _ | .tup _ | .rcd ..=>false
 | _=>true
def L6:AV→Nat
 | .agg cs=>cs.length
 | _=>1
def At (place:Nat→Option (Nat×Nat)) (cells:List AV):List (Nat×AV)→Option (Bool×List AV)
 | []=>some (true,cells)
 | (i,v)::rest=>
  match place i with
  | none=>none
  | some (off,size)=>
   match At place (J7 cells off v) rest with
   | none=>none
   | some (c,r)=>some (Dv v&&(L6 v==size&&(decide (off+size≤cells.length)&&c)),r)
def T3 (P:Program) (t:TypeId):Option AV:=
 match P.info? t with
 | some i=>match i.zero with
  | some z=>some (C6 z)
  | none=>none
 | none=>none
def Ev (P:Program):List Field→Option (List (Nat×Nat))
 | []=>some []
 | f::fs=>
  match E4 P f.type,Ev P fs with
  | some z,some r=>some ((f.offset,z)::r)
  | _,_=>none
def Ht (P:Program) (t:TypeId) (parts:List (Nat×AV)):Option (Bool×AV):=
 match P.underlying t,T3 P t with
 | some (.struct fs),some (.agg z)=>
  match Ev P fs.toList with
  | some ps=>
   match At (fun i=>ps[i]?) z parts with
   | some (c,cs)=>some (c,.agg cs)
   | none=>none
  | none=>none
 | some (.array _ e),some (.agg z)=>
  match E4 P e with
  | some n=>
   match At (fun i=>some (i*n,n)) z parts with
   | some (c,cs)=>some (c,.agg cs)
   | none=>none
  | none=>none
 | _,_=>none
def Jr (P:Program) (t:TypeId) (x:AV):Option (Bool×AV):=
 match P.underlying t,x with
 | some .string,.str s=>some (true,.int .i64 s.length)
 | some (.array n _),_=>some (true,.int .i64 n)
 | some (.slice _),.slice _ _ _ n=>some (true,.int .i64 n)
 | some (.slice _),.nils=>some (true,.int .i64 0)
 | _,_=>none
def Wm (P:Program) (t:TypeId) (x:AV):Option (Bool×AV):=
 match P.underlying t,x with
 | some (.slice _),.nils=>some (true,.int .i64 0)
 | _,_=>none
def Vj (x y:AV):Option (Bool×AV):=
 match x,y with
 | .int k a,.int k' b=>if k=k' then some (true,.int k (if b>a then b else a)) else none
 | _,_=>none
def Vi (x y:AV):Option (Bool×AV):=
 match x,y with
 | .int k a,.int k' b=>if k=k' then some (true,.int k (if b<a then b else a)) else none
 | _,_=>none
def Ow (c a b:AV):Option (Bool×AV):=
 match c with
 | .bool true=>some (true,a)
 | .bool false=>some (true,b)
 | _=>none
def Hb (x:AV):Option (Bool×AV):=
 match x with
 | .ptr r o=>some (true,.ptr r o)
 | .func f c=>some (true,.func f c)
 | .slice m r o n=>some (true,.slice m r o n)
 | _=>none
def E1 (P:Program) (F:Fr) (op:Op):Option (Bool×AV):=
 match op with
 | .move x=>some (true,ev F x)
 | .assign x=>some (true,ev F x)
 | .pick c a b=>Ow (ev F c) (ev F a) (ev F b)
 | .nilCheck x=>Hb (ev F x)
 | .binOp op t x y _=>P4 P op t (ev F x) (ev F y)
 | .unOp op _ x=>cC op (ev F x)
 | .convert s d x=>Lw P s d (ev F x)
 | .fieldAddr s x f=>Lu P s (ev F x) f
 | .indexAddr t x i=>Hq P t (ev F x) (ev F i)
 | .slice t x lo hi none=>En P t (ev F x) (lo.map (ev F)) (hi.map (ev F))
 | .build t parts=>Ht P t (parts.toList.map fun p=>(p.1,ev F p.2))
 | .extract x i=>match ev F x with
  | .tup vs=>match vs[i]? with
   | some v=>some (true,v)
   | none=>none
  | _=>none
 | .makeFunc (.func f) first cap=>if first.size=0 then some (true,.func f (cap.toList.map (ev F))) else none
 | .call { callee:=.builtin .len,args,argTypes }=>
  match args.toList,argTypes.toList with
  | [x],[t]=>Jr P t (ev F x)
  | _,_=>none
 | .call { callee:=.builtin .cap,args,argTypes }=>
  match args.toList,argTypes.toList with
  | [x],[t]=>Wm P t (ev F x)
  | _,_=>none
 | .call { callee:=.builtin .max,args,.. }=>
  match args.toList with
  | [x,y]=>Vj (ev F x) (ev F y)
  | _=>none
 | .call { callee:=.builtin .min,args,.. }=>
  match args.toList with
  | [x,y]=>Vi (ev F x) (ev F y)
  | _=>none
 | _=>none
def D0 (C:A2) (H:Hp):Ref→Option (List AV)
 | .rw i=>match H[i]? with
  | some (some b)=>match isRec b with
   | true=>none
   | false=>some b.cells
  | _=>none
 | .ro i=>some (C.G i)
inductive Lf where
 | int (k:IntKind)
 | bool
 | str
 | sl
def C9 (cs:List AV) (off:Nat):Nat:=match cs[off]? with | some (.slice _ (.ro k) _ _)=>k | _=>0
def E5 (cs:List AV) (off:Nat):Nat:=match cs[off]? with | some (.slice _ (.ro _) o _)=>o | _=>0
def B9 (cs:List AV) (off:Nat):Nat:=match cs[off]? with | some (.slice _ (.ro _) _ n)=>n | _=>0
def Gt (cs:List AV) (off:Nat):Bool:=match cs[off]? with | some .nils=>true | some (.slice _ (.ro _) _ _)=>true | _=>false
def Vq (cs:List AV) (off:Nat):List UInt8:=match cs[off]? with | some (.str s)=>s | _=>[]
def bJ (cs:List AV) (off:Nat):Bool:=match cs[off]? with | some (.str _)=>true | _=>false
def Js (l:Lf) (cs:List AV) (off:Nat):AV:=
 match l with
 | .int k=>.int k (A0 cs off)
 | .bool=>.bool (E7 cs off)
 | .str=>.str (Vq cs off)
 | .sl=>.slice true (.ro (C9 cs off)) (E5 cs off) (B9 cs off)
def Ar (l:Lf) (cs:List AV) (off:Nat):Bool:=
 match l with
 | .int k=>isI k cs off
 | .bool=>isB cs off
 | .str=>bJ cs off
 | .sl=>Gt cs off
def W7 (cs:List AV):Nat→List Lf→List AV
 | _,[]=>[]
 | off,l::ls=>Js l cs off::W7 cs (off+1) ls
def E2 (cs:List AV):Nat→List Lf→Bool
 | _,[]=>true
 | off,l::ls=>Ar l cs off&&E2 cs (off+1) ls
def oX (rec:TypeId→Option (List Lf)):Nat→List Field→Option (List Lf)
 | _,[]=>some []
 | acc,f::fs=>
  match Nat.beq f.offset acc with
  | true=>match rec f.type with
   | some a=>match oX rec (acc+a.length) fs with
    | some b=>some (a++b)
    | none=>none
   | none=>none
  | false=>none
def Rj (P:Program):Nat→TypeId→Option (List Lf)
 | 0,_=>none
 | n+1,t=>
  match P.underlying t with
  | some (.int k)=>some [.int k]
  | some .bool=>some [.bool]
  | some .string=>some [.str]
  | some (.slice _)=>some [.sl]
  | some (.struct fs)=>oX (Rj P n) 0 fs.toList
  | some (.array m e)=>match Rj P n e with
   | some a=>some (List.replicate m a).flatten
   | none=>none
  | _=>none
def bF (P:Program) (t:TypeId) (cs:List AV) (off:Nat):Option (Bool×AV):=
 match P.underlying t with
 | some (.int k)=>some (isI k cs off,.int k (A0 cs off))
 | some .bool=>some (isB cs off,.bool (E7 cs off))
 | some .string=>some (bJ cs off,.str (Vq cs off))
 | some (.slice _)=>some (Gt cs off,.slice true (.ro (C9 cs off)) (E5 cs off) (B9 cs off))
 | some (.struct _)=>match E4 P t,Rj P 10 t with
  | some z,some ls=>some (Nat.beq ls.length z&&E2 cs off ls,.agg (W7 cs off ls))
  | _,_=>none
 | some (.array _ _)=>match E4 P t,Rj P 10 t with
  | some z,some ls=>some (Nat.beq ls.length z&&E2 cs off ls,.agg (W7 cs off ls))
  | _,_=>none
 | _=>none
def Jm (P:Program) (r:Ref) (t:TypeId) (cs:List AV) (off:Nat):Option (Bool×AV):=
 match r with
 | .rw _=>Q4 P t cs off
 | .ro _=>bF P t cs off
def Hd (C:A2) (H:Hp) (t:TypeId) (r:Ref) (off:Nat):Option (Bool×AV):=
 match D0 C H r with
 | some cs=>Jm C.P r t cs off
 | none=>none
def Uj:AV→UInt8
 | .int _ n=>UInt8.ofNat n.toNat
 | _=>0
def Bq:AV→Bool
 | .int .u8 _=>true
 | _=>false
def R2 (P:Program) (t:TypeId):Bool:=
 match P.underlying t with
 | some (.slice e)=>match P.underlying e with
  | some (.int .u8)=>true
  | _=>false
 | _=>false
def U0 (P:Program) (t:TypeId):Bool:=match P.underlying t with | some .string=>true | _=>false
def kD (cs:List AV) (off n:Nat):Bool×AV:=
 (decide (off+n≤cs.length)&&((cs.drop off).take n).all Bq,.str (((cs.drop off).take n).map Uj))
def J4 (C:A2) (F:Fr) (H:Hp) (op:Op):Option (Bool×AV):=
 match op with
 | .load t a=>match ev F a with
  | .ptr r off=>Hd C H t r off
  | _=>none
 | .field t x f=>
  match C.P.underlying t,ev F x with
  | some (.struct fs),.agg cs=>match fs[f]? with
   | some fd=>Q4 C.P fd.type cs fd.offset
   | none=>none
  | _,_=>none
 | .index t x i=>
  match C.P.underlying t,ev F x,ev F i with
  | some (.array len e),.agg cs,.int _ i=>match E4 C.P e with
   | some z=>match Q4 C.P e cs (Pg i.toNat z) with
    | some (c,v)=>some (decide (0≤i)&&(decide (i<len)&&c),v)
    | none=>none
   | none=>none
  | _,_,_=>none
 | .convert s d x=>
  match R2 C.P s&&U0 C.P d,ev F x with
  | true,.nils=>some (true,.str [])
  | true,.slice _ r off n=>match D0 C H r with
   | some cs=>some (kD cs off n)
   | none=>none
  | _,_=>none
 | _=>none
def Ic (F:Fr) (op:Op):Option Ref:=
 match op with
 | .load _ a=>match ev F a with
  | .ptr r _=>some r
  | _=>none
 | .convert _ _ x=>match ev F x with
  | .slice _ r _ _=>some r
  | _=>none
 | _=>none
def here (H:Hp):Ref:=.rw H.length
def Sx (C:A2) (H:Hp) (z:Nat) (x:AV):Option (Bool×Nat×List AV):=
 match x with
 | .nils=>some (true,0,[])
 | .slice _ r off m=>match D0 C H r with
  | some cs=>some (decide (off+m*z≤cs.length)&&((cs.drop off).take (m*z)).all isCell,m,(cs.drop off).take (m*z))
  | none=>none
 | .str s=>some (decide (z=1),s.length,s.map fun b=>.int .u8 b.toNat)
 | _=>none
def Fh (C:A2) (H:Hp) (t:TypeId) (s x:AV):Option (Bool×AV×Hop):=
 match C.P.underlying t with
 | some (.slice e)=>
  match C.P.info? e,T3 C.P e with
  | some i,some zv=>
   match Sx C H i.size x with
   | some (c,m,xs)=>
    match s with
    | .nils=>some (Bp i.size&&(c&&(decide (m*i.bytes≤140737488355328)&&(decide (1≤i.bytes)&&(B2 zv).length==i.size))),.slice true (here H) 0 m,.new ⟨i.size,xs⟩)
    | .slice mb (.rw j) 0 n=>
     match H[j]? with
     | some (some b)=>some (!isRec b&&(c&&(decide ((n+m)*i.bytes≤140737488355328)&&(decide (1≤i.bytes)&&((B2 zv).length==i.size&&(b.esz==i.size&&decide (n*i.size≤b.cells.length)))))),.slice mb (here H) 0 (n+m),.app j ⟨i.size,b.cells.take (n*i.size)++xs⟩)
     | _=>none
    | _=>none
   | none=>none
  | _,_=>none
 | _=>none
def Ly (C:A2) (H:Hp) (t:TypeId) (s x:AV):Option (Bool×AV×Hop):=
 match C.P.underlying t,s,x with
 | some (.slice e),.nils,.int .i64 n=>
  match C.P.info? e,T3 C.P e with
  | some i,some zv=>some (Bp i.size&&(decide (0≤n)&&(decide (n*i.bytes≤140737488355328)&&(decide (1≤i.bytes)&&(decide ((B2 zv).length=i.size)&&decide (1≤i.size))))),.slice true (here H) 0 n.toNat,.new ⟨i.size,(List.replicate n.toNat (B2 zv)).flatten⟩)
  | _,_=>none
 | _,_,_=>none
def Qf (C:A2) (H:Hp) (t:TypeId) (x:AV):Option (Bool×AV×Hop):=
 match C.P.underlying t,x with
 | some (.slice e),.slice _ (.rw j) off n=>
  match E4 C.P e,T3 C.P e,H[j]? with
  | some z,some zv,some (some b)=>some (!isRec b&&(decide (1≤n)&&(decide ((B2 zv).length=z)&&(decide (1≤z)&&((B2 zv).all isCell&&decide (off+n*z≤b.cells.length))))),.tup [],.set j ⟨b.esz,Zc b.cells off (List.replicate n (B2 zv)).flatten⟩)
  | _,_,_=>none
 | _,_=>none
def G4 (C:A2) (F:Fr) (H:Hp) (op:Op):Option (Bool×AV×Hop):=
 match op with
 | .store t a x=>
  match ev F a,E4 C.P t with
  | .ptr (.rw i) off,some z=>match H[i]? with
   | some (some b)=>some (!isRec b&&((B2 (ev F x)).all isCell&&(L6 (ev F x)==z&&decide (off+z≤b.cells.length))),.tup [],.set i ⟨b.esz,J7 b.cells off (ev F x)⟩)
   | _=>none
  | _,_=>none
 | .alloc e=>match T3 C.P e with
  | some z=>some (true,.ptr (here H) 0,.new ⟨1,B2 z⟩)
  | none=>none
 | .box _ x=>some (Dv (ev F x),.ptr (here H) 0,.new ⟨1,B2 (ev F x)⟩)
 | .buildSlice t n parts=>
  match C.P.underlying t with
  | some (.slice e)=>match E4 C.P e,T3 C.P e with
   | some z,some zv=>
    match At (fun i=>some (i*z,z)) ((List.replicate n (B2 zv)).flatten) (parts.toList.map fun p=>(p.1,ev F p.2)) with
    | some (c,cs)=>some (Bp z&&(c&&(decide (n*z≤16777216)&&decide ((B2 zv).length=z))),.slice false (here H) 0 n,.new ⟨z,cs⟩)
    | none=>none
   | _,_=>none
  | _=>none
 | .makeSlice t l c=>
  match C.P.underlying t,ev F l,ev F c with
  | some (.slice e),.int _ l,.int _ c=>match C.P.info? e,T3 C.P e with
   | some i,some zv=>some (Bp i.size&&(decide (0≤l)&&(decide (l≤c)&&(decide (c*i.bytes≤140737488355328)&&(decide (c≤140737488355328)&&(decide ((B2 zv).length=i.size)&&decide (1≤i.size)))))),.slice false (here H) 0 l.toNat,.new ⟨i.size,(List.replicate l.toNat (B2 zv)).flatten⟩)
   | _,_=>none
  | _,_,_=>none
 | .convert s d x=>
  match U0 C.P s&&R2 C.P d,ev F x with
  | true,.str s=>some (decide (s.length≤140737488355328),.slice false (here H) 0 s.length,.new ⟨1,s.map fun b=>.int .u8 b.toNat⟩)
  | false,.slice mb (.rw i) off n=>match R2 C.P s&&Nat.beq s d with
   | true=>match H[i]? with
    | some (some b)=>some (!isRec b&&Nat.ble 1 n,.slice mb (.rw i) off n,.set i b)
    | _=>none
   | false=>none
  | _,_=>none
 | .call { callee:=.builtin .append,args,argTypes }=>
  match args.toList,argTypes.toList with
  | [s,x],[t,u]=>match C.P.underlying u with
   | some (.slice _)=>Fh C H t (ev F s) (ev F x)
   | some .string=>Fh C H t (ev F s) (ev F x)
   | some (.int _)=>Ly C H t (ev F s) (ev F x)
   | _=>none
  | _,_=>none
 | .call { callee:=.builtin .clear,args,argTypes }=>
  match args.toList,argTypes.toList with
  | [x],[t]=>Qf C H t (ev F x)
  | _,_=>none
 | _=>none
inductive Kd where
 | pure | read | write | call
 deriving DecidableEq
def kdOf (P:Program) (op:Op):Kd:=
 match op with
 | .load _ _ | .field _ _ _ | .index _ _ _=>.read
 | .store _ _ _ | .alloc _ | .box _ _ | .buildSlice _ _ _ | .makeSlice _ _ _=>.write
 | .convert s d _=>if R2 P s&&U0 P d then .read else if U0 P s&&R2 P d then .write else if R2 P s&&Nat.beq s d then .write else .pure
 | .call { callee:=.builtin .append,.. }=>.write
 | .call { callee:=.builtin .clear,.. }=>.write
 | .call { callee:=.builtin _,.. }=>.pure
 | .call _=>.call
 | _=>.pure
def callOp (F:Fr) (op:Op):Option (FuncId×List AV):=
 match op with
 | .call { callee:=.value f,args,.. }=>match ev F f with
  | .func g cap=>some (g,args.toList.map (ev F)++cap)
  | _=>none
 | _=>none
def yldOp (F:Fr) (op:Op):Option (Nat×List AV):=
 match op with
 | .call { callee:=.value f,args,.. }=>match ev F f with
  | .yld i=>some (i,args.toList.map (ev F))
  | _=>none
 | _=>none
def Gy:Fr→List Nat→List AV→Fr
 | F,p::ps,v::vs=>Gy (F.set p v) ps vs
 | F,_,_=>F
def Oo (C:A2) (F:Fr) (H:Hp):ResultVar→Option (Bool×AV)
 | .tmp t=>some (true,F.getD t .undef)
 | .cell a t=>match F.getD a .undef with
  | .ptr r off=>Hd C H t r off
  | _=>none
def Dp (C:A2) (F:Fr) (H:Hp):List ResultVar→Option (Bool×List AV)
 | []=>some (true,[])
 | x::xs=>match Oo C F H x with
  | some (c,v)=>match Dp C F H xs with
   | some (d,r)=>some (c&&d,v::r)
   | none=>none
  | none=>none
def Mo (C:A2) (fn:Func) (F:Fr) (H:Hp):Option (Bool×AV):=
 match Dp C F H fn.results.toList with
 | some (c,[v])=>some (c,v)
 | some (c,vs)=>some (c,.tup vs)
 | none=>none
def J6 (C:A2) (fn:Func) (Q:AV→Hp→Prop) (e:Ex) (F:Fr) (H:Hp):Prop:=
 match e with
 | .exit _=>False
 | _=>Sh (Mo C fn F H) fun v=>Q v H
inductive TrK where
 | still
 | read (r:Ref)
 | write
structure Tr where
 kd:TrK
 len:Nat
 hs:List Hop
def Fj (i:Nat) (len:Nat):List Hop→Bool
 | []=>false
 | .set j _::hs=>j==i||Fj i len hs
 | .new _::hs=>len==i||Fj i (len+1) hs
 | .app j _::hs=>j==i||(len==i||Fj i (len+1) hs)
def Hy (r:Ref) (len:Nat) (hs:List Hop):Bool:=
 match r with
 | .rw i=>Fj i len hs
 | .ro _=>false
def Cd:List Oper→List Nat→List Nat
 | [],acc=>acc
 | o::l,acc=>Cd l (acc++[o.after.toList.foldl (fun s e=>bif Region.binds .any e then s ||| (2^e.on ||| acc.getD e.on 0) else s) 0])
def Jp (all:List Oper) (o:Oper):List Tmp:=
 (o.op.operands.toList.filterMap fun | .tmp t=>some t | _=>none) ++
 (match o.guard with
  | some (j,_)=>match (all[j]?).bind (·.dst) with
   | some t=>[t]
   | none=>[]
  | none=>[])
def Lz (all:List Oper) (x y:Oper):Bool:=
 (match x.dst with
  | some d=>!((Jp all y).contains d)&&!(y.dst==some d)
  | none=>true) &&
 (match y.dst with
  | some d=>!((Jp all x).contains d)
  | none=>true)
def Y9 (x y:Tr):Bool:=
 match x.kd,y.kd with
 | .write,.write=>false
 | .write,.read r=>!Hy r x.len x.hs
 | .read r,.write=>!Hy r y.len y.hs
 | _,_=>true
def Lv:Nat→List Oper→Bool
 | _,[]=>true
 | j,o::l=>o.after.toList.all (fun e=>!Region.binds .any e||Nat.blt e.on j)&&Lv (j+1) l
def S4 (all:List Oper) (trs:List Tr):Bool:=
 let ms:=Cd all []
 Lv 0 all&&(List.range all.length).all fun j=>(List.range j).all fun i=>
  (ms.getD j 0).testBit i ||
  (match all[i]?,all[j]?,trs[i]?,trs[j]? with
   | some x,some y,some a,some b=>Lz all x y&&Y9 a b
   | _,_,_,_=>false)
inductive Wk where
 | code (c:Code)
 | ops (all l:List Oper)
 | dr (all l:List Oper) (trs:List Tr)
structure Cfg where
 C:A2
 /-- how much is written out at each step? -/
 strict:Md
 /-- are loops gone through round by round? -/
 unr:Bool
 /-- does a number that is assigned get a name? -/
 nm:Bool:=false
 /-- is a truth value that is assigned looked at once? -/
 sp:Bool:=false
 /-- does a number that a loop leaves get a name? -/
 nl:Bool:=false
 /-- how a test (of a slot,in a frame of so many slots) comes out: then the other way is not gone,and this is owed -/
 hint:Nat→Nat→Option Bool:=fun _ _=>none
 /-- of a call that is entered where the order is drawn: are the blocks that it leaves as they were told from the others? -/
 cmp:Bool:=false
 /-- is a call of this function entered in place? -/
 inl:FuncId→Bool
 /-- what a call that is not entered does -/
 sum:FuncId→List AV→Hp→Option (Bool×AV×List Hop)
 /-- what a loop that is not gone through does -/
 loop:Code→Fr→Hp→Option (Bool×Ex×Fr×Hp)
 /-- how many blocks of the heap the loops leave where they are -/
 M:Nat
def Do (K:Cfg) (rec:Code→Bool) (o:Oper):Bool:=
 match kdOf K.C.P o.op with
 | .pure=>true
 | .read=>true
 | .write=>false
 | .call=>match o.op with
  | .call { callee:=.value (.func g),.. }=>K.inl g&&(match K.C.P.funcs[g]? with
   | some fn=>match fn.body with
    | some c=>rec c
    | none=>true
   | none=>true)
  | _=>false
def Ai (K:Cfg) (rec:Code→Bool):Code→Bool
 | .skip=>true
 | .region _ ops _=>ops.toList.all (Do K rec)
 | .seq a b=>Ai K rec a&&Ai K rec b
 | .cond _ a b=>Ai K rec a&&Ai K rec b
 | .block _ c=>Ai K rec c
 | .loop c=>K.unr&&Ai K rec c
 | .exit _=>true
 | .scope c=>Ai K rec c
 | .label _=>true
 | .ret=>true
 | _=>false
def G7 (K:Cfg):Nat→Code→Bool
 | 0,_=>false
 | d+1,c=>Ai K (G7 K d) c
def kJ:AV→AV→Bool
 | .bool a,.bool b=>a==b
 | .int k m,.int k' n=>decide (k=k')&&decide (m=n)
 | .nilp,.nilp=>true
 | .nils,.nils=>true
 | .nilf,.nilf=>true
 | .ptr (.rw i) o,.ptr (.rw j) o'=>Nat.beq i j&&Nat.beq o o'
 | .slice m (.rw i) o n,.slice m' (.rw j) o' n'=>m==m'&&(Nat.beq i j&&(Nat.beq o o'&&Nat.beq n n'))
 | _,_=>false
def Qv:List AV→List AV→Bool
 | [],[]=>true
 | x::xs,y::ys=>kJ x y&&Qv xs ys
 | _,_=>false
def bA:Option Blk→Blk→Bool
 | some b,b'=>Nat.beq b.esz b'.esz&&Qv b.cells b'.cells
 | none,_=>false
def S8:Bool→Nat→Hp→Option (List Hop)
 | false,_,[]=>some []
 | true,_,[]=>none
 | false,i,some b::H'=>match S8 false (i+1) H' with
  | some hs=>some (.new b::hs)
  | none=>none
 | true,i,some b::H'=>match S8 false (i+1) H' with
  | some hs=>some (.app (i - 1) b::hs)
  | none=>none
 | false,i,none::H'=>match S8 true (i+1) H' with
  | some hs=>some (.new ⟨0,[]⟩::hs)
  | none=>none
 | true,i,none::H'=>match S8 true (i+1) H' with
  | some hs=>some (.app (i - 1) ⟨0,[]⟩::hs)
  | none=>none
def V9 (cmp:Bool):Nat→Hp→Hp→Option (List Hop)
 | i,[],H'=>S8 false i H'
 | i,x::H,some b::H'=>match cmp&&bA x b with
  | true=>V9 cmp (i+1) H H'
  | false=>match V9 cmp (i+1) H H' with
   | some hs=>some (.set i b::hs)
   | none=>none
 | i,none::H,none::H'=>V9 cmp (i+1) H H'
 | _,_,_=>none
def J1 (fn:Func) (args:List AV):Fr:=args++List.replicate (fn.ntmps - args.length) (.tup [])
abbrev Post:=Ex→Fr→Hp→Prop
abbrev Rec:=Nat→Wk→Fr→Hp→Post→Prop
def wrc (o:Option (Bool×AV×Hop)) (k:AV→Hop→Prop):Prop:=match o with | some (c,v,h)=>chk c (k v h) | none=>False
def smc (o:Option (Bool×AV×List Hop)) (k:AV→List Hop→Prop):Prop:=match o with | some (c,v,h)=>chk c (k v h) | none=>False
def lpc (o:Option (Bool×Ex×Fr×Hp)) (k:Ex→Fr→Hp→Prop):Prop:=match o with | some (c,e,F,H)=>chk c (k e F H) | none=>False
def Ia (K:Cfg) (rec:Rec) (m:Nat) (all l:List Oper) (dst:Option Tmp) (f:FuncId) (args:List AV) (F:Fr) (H:Hp) (Q:Post):Prop:=
 match K.inl f with
 | true=>
  match K.C.P.funcs[f]? with
  | some fn=>match fn.body with
   | some c => chk (!(fn.name == "runtime.NumGoroutine")) (rec H.length (.code c) (J1 fn args) H (J6 K.C fn fun v H' => N8 K.strict F dst v fun F => rec m (.ops all l) F H' Q))
   | none=>False
  | none=>False
 | false=>namL K.nm args fun args=>smc (K.sum f args H) fun v hs=>Nf K.strict H hs fun H=>N8 K.strict F dst v fun F=>rec m (.ops all l) F H Q
def kF:Ex→Nat
 | .normal=>0
 | .ret=>2
 | .exit n=>n+3
def Tj:Ex→Bool
 | .normal=>true
 | _=>false
def Kq (K:Cfg) (rec:Rec) (m:Nat) (all l:List Oper) (dst:Option Tmp) (i:Nat) (F:Fr) (Q:Post):Post:=fun ex _ H=>
 match H[i]? with
 | some (some ⟨e,.rcd 1 ps as bd::F0⟩)=>chk (Nat.beq e 4294967291) (N8 K.strict F dst (.bool (Tj ex)) fun F=>rec m (.ops all l) F (H.set i (some ⟨e,.rcd (kF ex) ps as bd::F0⟩)) Q)
 | _=>False
def Qp (K:Cfg) (rec:Rec) (k m:Nat) (all l:List Oper) (dst:Option Tmp) (i:Nat) (body:Code) (F:Fr) (Q:Post):Post:=fun ex F1 H=>
 match ex with
 | .normal=>match H[i]? with
  | some (some ⟨e,.rcd 0 ps as bd::F0⟩)=>chk (Nat.beq e 4294967291) (rec k (.code body) F1 (H.set i (some ⟨e,.rcd 1 ps as bd::F0⟩)) (Kq K rec m all l dst i F Q))
  | _=>False
 | _=>False
def Hj (K:Cfg) (rec:Rec) (m:Nat) (all l:List Oper) (dst:Option Tmp) (i:Nat) (args:List AV) (F:Fr) (H:Hp) (Q:Post):Prop:=
 match H[i]? with
 | some (some ⟨e,.rcd 0 ps as bd::F0⟩)=>
  chk (Nat.beq e 4294967291&&(Nat.beq args.length ps.size&&(M3 as&&(M3 bd&&K.unr))))
   (rec H.length (.code as) (Gy F0 ps.toList args) H (Qp K rec H.length m all l dst i bd F Q))
 | _=>False
def rngJ (p:Nat) (F:Fr) (H:Hp) (Q:Post):Prop:=
 match p with
 | 0=>Q .normal F H
 | 1=>False
 | 2=>Q .ret F H
 | n+3=>Q (.exit n) F H
def Fy (i:Nat) (F:Fr) (Q:Post):AV→Hp→Prop:=fun _ H=>
 match H[i]? with
 | some (some ⟨e,.rcd p _ _ _::_⟩)=>chk (Nat.beq e 4294967291) (rngJ p F (H.set i none) Q)
 | _=>False
def Kw (K:Cfg) (rec:Rec) (g:Operand) (ps:Array Tmp) (as bd:Code) (F:Fr) (H:Hp) (Q:Post):Prop:=
 match ev F g with
 | .func f cap=>match K.C.P.funcs[f]? with
  | some fn=>match fn.body with
   | some c => chk (!(fn.name == "runtime.NumGoroutine") && K.unr) (rec (H.length + 1) (.code c) (J1 fn (.yld H.length :: cap)) (H ++ [some ⟨4294967291, .rcd 0 ps as bd :: F⟩]) (J6 K.C fn (Fy H.length F Q)))
   | none=>False
  | none=>False
 | _=>False
def Dk (K:Cfg) (rec:Rec) (m:Nat) (all l:List Oper) (dst:Option Tmp) (op:Op) (F:Fr) (H:Hp) (Q:Post):Prop:=
 match kdOf K.C.P op with
 | .pure=>Sh (E1 K.C.P F op) fun v=>Xl (K.sp&&Nc op) (K.nm&&Nc op) K.strict F dst v fun F=>rec m (.ops all l) F H Q
 | .read=>Sh (J4 K.C F H op) fun v=>N8 K.strict F dst v fun F=>rec m (.ops all l) F H Q
 | .write=>wrc (G4 K.C F H op) fun v h=>Pp K.strict H h fun H=>N8 K.strict F dst v fun F=>rec m (.ops all l) F H Q
 | .call=>match callOp F op with
  | some (f,args)=>Ia K rec m all l dst f args F H Q
  | none=>match yldOp F op with
   | some (i,args)=>Hj K rec m all l dst i args F H Q
   | none=>False
def guardK (hint:Nat→Option Bool) (s:Md) (all:List Oper) (guard:Option (Nat×Bool)) (F:Fr) (go skip:Fr→Prop):Prop:=
 match guard with
 | none=>go F
 | some (j,want)=>
  match (all[j]?).bind (·.dst) with
  | some t=>
   match F.getD t .undef with
   | .bool b=>Xd (hint t) b
     (N8 s F (some t) (.bool true) fun F=>match want with | true=>go F | false=>skip F)
     (N8 s F (some t) (.bool false) fun F=>match want with | true=>skip F | false=>go F)
   | .tup []=>skip F
   | _=>False
  | none=>False
def Hk (K:Cfg) (rec:Rec) (m:Nat) (all l:List Oper) (F:Fr) (H:Hp) (Q:Post):Prop:=
 match l with
 | []=>Q .normal F H
 | ⟨dst,op,_,_,_,guard⟩::l=>
  guardK (K.hint F.length) K.strict all guard F (fun F=>Dk K rec m all l dst op F H Q) (fun F=>N8 K.strict F dst (.tup []) fun F=>rec m (.ops all l) F H Q)
def X1 (K:Cfg) (rec:Rec) (m:Nat) (all l:List Oper) (trs:List Tr) (dst:Option Tmp) (op:Op) (F:Fr) (H:Hp) (Q:Post):Prop:=
  match kdOf K.C.P op with
  | .pure=>Sh (E1 K.C.P F op) fun v=>Xl (K.sp&&Nc op) (K.nm&&Nc op) K.strict F dst v fun F'=>rec m (.dr all l (trs++[⟨.still,H.length,[]⟩])) F' H Q
  | .read=>Sh (J4 K.C F H op) fun v=>N8 K.strict F dst v fun F'=>rec m (.dr all l (trs++[⟨(match Ic F op with | some r=>.read r | none=>.still),H.length,[]⟩])) F' H Q
  | .write => wrc (G4      K.C F H op) fun v h => Pp   K.strict H h fun H' => N8   K.strict F dst v fun F' => rec m (.dr all l (trs ++ [⟨.write, H.length, [h]⟩])) F' H' Q
  | .call=>match callOp F op with
    | some (f,args)=>match K.inl f with
      | true=>
        match K.C.P.funcs[f]? with
        | some fn=>match fn.body with
          | some c => chk (!(fn.name == "runtime.NumGoroutine")) (rec H.length (.code c) (J1 fn args) H (J6 K.C fn fun v H' =>
              match G7 K 20 c with
              | true=>N8 K.strict F dst v fun F'=>rec m (.dr all l (trs++[⟨.write,H.length,[]⟩])) F' H Q
              | false=>match V9 K.cmp 0 H H' with
                | some hs=>N8 K.strict F dst v fun F'=>rec m (.dr all l (trs++[⟨.write,H.length,hs⟩])) F' H' Q
                | none=>False))
          | none=>False
        | none=>False
      | false=>namL K.nm args fun args=>smc (K.sum f args H) fun v hs=>Nf K.strict H hs fun H'=>N8 K.strict F dst v fun F'=>rec m (.dr all l (trs++[⟨.write,H.length,hs⟩])) F' H' Q
    | none=>False
def Kx (K:Cfg) (rec:Rec) (m:Nat) (all l:List Oper) (trs:List Tr) (F:Fr) (H:Hp) (Q:Post):Prop:=
 match l with
 | []=>chk (S4 all trs) (Q .normal F H)
 | ⟨dst,op,_,_,_,guard⟩::l=>
  guardK (K.hint F.length) K.strict all guard F (fun F=>X1 K rec m all l trs dst op F H Q) (fun F=>N8 K.strict F dst (.tup []) fun F=>rec m (.dr all l (trs++[⟨.still,H.length,[]⟩])) F H Q)
def Sw (K:Cfg) (rec:Rec) (m:Nat) (c:Operand) (x y:Code) (F:Fr) (H:Hp) (Q:Post):Prop:=
 match c with
 | .tmp t=>match F.getD t .undef with
  | .bool b=>Xd (K.hint F.length t) b (N8 K.strict F (some t) (.bool true) fun F=>rec m (.code x) F H Q) (N8 K.strict F (some t) (.bool false) fun F=>rec m (.code y) F H Q)
  | _=>False
 | .const (.bool b)=>match b with
  | true=>rec m (.code x) F H Q
  | false=>rec m (.code y) F H Q
 | _=>False
def Iz (rec:Rec) (m:Nat) (b:Code) (Q:Post):Post:=fun e F H=>match e with
 | .normal=>rec m (.code b) F H Q
 | e=>Q e F H
def Aw (id:Nat) (Q:Post):Post:=fun e F H=>match e with
 | .exit i=>match i==id with
  | true=>Q .normal F H
  | false=>Q (.exit i) F H
 | e=>Q e F H
def P8 (K:Cfg) (rec:Rec) (m:Nat) (c:Code) (F:Fr) (H:Hp) (Q:Post):Prop:=
 match c with
 | .skip=>Q .normal F H
 | .region _ ops draw=>match draw with
  | true=>rec m (.dr ops.toList ops.toList []) F H Q
  | false=>rec m (.ops ops.toList ops.toList) F H Q
 | .seq a b=>rec m (.code a) F H (Iz rec m b Q)
 | .cond c x y=>Sw K rec m c x y F H Q
 | .block id c=>rec m (.code c) F H (Aw id Q)
 | .loop c=>match K.unr with
  | true=>rec m (.code c) F H (Iz rec m (.loop c) Q)
  | false=>chk (Nat.ble m K.M) (lpc (K.loop c F H) fun e F' H'=>namL K.nl F' fun F'=>Q e F' H')
 | .exit id=>Q (.exit id) F H
 | .scope c=>rec m (.code c) F H Q
 | .label _=>Q .normal F H
 | .ret=>Q .ret F H
 | .rangeFunc g ps as bd=>Kw K rec g ps as bd F H Q
 | _=>False
def zX (K:Cfg) (rec:Rec) (m:Nat) (w:Wk) (F:Fr) (H:Hp) (Q:Post):Prop:=
 match w with
 | .ops all l=>Hk K rec m all l F H Q
 | .dr all l trs=>Kx K rec m all l trs F H Q
 | .code c=>P8 K rec m c F H Q
def vc (K:Cfg):Nat→Rec
 | 0=>fun _ _ _ _ _=>False
 | n+1=>zX K (vc K n)
end Go.Am
