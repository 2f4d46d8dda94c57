/-
  An abstract machine over the kit's programs: abstract values, abstract
-/
import Derived.Orders
import Derived.Below
import Derived.KernelRfl
namespace Go.Am
inductive Ref where
 | rw (i:Nat)
 | ro (i:Nat)
 deriving DecidableEq
inductive AV where
 | undef
 | bool (b:Bool)
 | int (k:IntKind) (n:Int)
 | str (s:List UInt8)
 | nilp
 | ptr (r:Ref) (off:Nat)
 | nils
 | slice (mb:Bool) (r:Ref) (off len:Nat)
 | nilf
 | func (f:FuncId) (cap:List AV)
 | agg (cs:List AV)
 | tup (vs:List AV)
 /-- what a round of the loop with this record is asked for by -/
 | yld (i:Nat)
 /-- how the record of a loop over a function stands;what its rounds assign and do -/
 | rcd (p:Nat) (ps:Array Nat) (a b:Code)
structure Blk where
 esz:Nat
 cells:List AV
abbrev Hp:=List (Option Blk)
def isRec (b:Blk):Bool:=Nat.beq b.esz 4294967291
def H6:Code→Bool
 | .seq a b=>H6 a&&H6 b
 | .cond _ a b=>H6 a&&H6 b
 | .block _ c=>H6 c
 | .scope c=>H6 c
 | .loop c=>H6 c
 | .rangeFunc ..=>false
 | _=>true
def Z4 (z:Nat):Bool:=!Nat.beq z 4294967291
abbrev Fr:=List AV
inductive Ex where
 | normal
 | exit (id:Nat)
 | ret
structure A1 where
 P:Program
 G:Nat→List AV
 B:Nat
def Q7:Value→AV
 | .bool b=>.bool b
 | .int k n=>.int k n
 | .string s=>.str s.data.toList
 | .pointer none=>.nilp
 | .slice none 0 0=>.nils
 | .nilFunc=>.nilf
 | _=>.undef
def B6:Value→AV
 | .agg cs=>.agg (cs.toList.map Q7)
 | v=>Q7 v
def ev (F:Fr):Operand→AV
 | .tmp t=>F.getD t .undef
 | .const v=>B6 v
 | .global _=>.undef
 | .func f=>.func f []
def put (F:Fr) (d:Option Tmp) (v:AV):Fr:=
 match d with
 | some d=>F.set d v
 | none=>F
def chk (c:Bool) (K:Prop):Prop:=match c with | true=>K | false=>False
def tst (b:Bool) (A B:Prop):Prop:=match b with | true=>A | false=>B
def Rq (h:Option Bool) (b:Bool) (A B:Prop):Prop:=
 match h with
 | none=>tst b A B
 | some true=>chk b A
 | some false=>chk (!b) B
def Pw (o:Option (Bool×AV)) (K:AV→Prop):Prop:=match o with | some (c,v)=>chk c (K v) | none=>False
def Ea (n:Nat) (k:Nat→Prop):Prop:=match n with | 0=>k 0 | n+1=>k (n+1)
def Xv (n:Int) (k:Int→Prop):Prop:=match n with | .ofNat a=>Ea a fun a=>k (.ofNat a) | .negSucc a=>Ea a fun a=>k (.negSucc a)
def Sk (r:Ref) (k:Ref→Prop):Prop:=match r with | .rw i=>Ea i fun i=>k (.rw i) | .ro i=>Ea i fun i=>k (.ro i)
def Sn (v:AV) (k:AV→Prop):Prop:=
 match v with
 | .undef=>k .undef
 | .bool b=>match b with | true=>k (.bool true) | false=>k (.bool false)
 | .int t n=>Xv n fun n=>k (.int t n)
 | .str s=>k (.str s)
 | .nilp=>k .nilp
 | .ptr r off=>Sk r fun r=>Ea off fun off=>k (.ptr r off)
 | .nils=>k .nils
 | .slice mb r off len=>Sk r fun r=>Ea off fun off=>Ea len fun len=>k (.slice mb r off len)
 | .nilf=>k .nilf
 | .func f cap=>k (.func f cap)
 | .agg cs=>k (.agg cs)
 | .tup vs=>k (.tup vs)
 | .yld i=>Ea i fun i=>k (.yld i)
 | .rcd p ps a b=>Ea p fun p=>k (.rcd p ps a b)
def Jr (l:List AV) (k:List AV→Prop):Prop:=
 match l with
 | []=>k []
 | x::xs=>Sn x fun x=>Jr xs fun xs=>k (x::xs)
def Xt (v:AV) (k:AV→Prop):Prop:=
 match v with
 | .agg cs=>Jr cs fun cs=>k (.agg cs)
 | .tup vs=>Jr vs fun vs=>k (.tup vs)
 | .func f cap=>Jr cap fun cap=>k (.func f cap)
 | v=>Sn v k
def Hd {α:Type} (F:List α) (d:Nat) (v:α) (k:List α→Prop):Prop:=
 match F,d with
 | [],_=>k []
 | _::xs,0=>k (v::xs)
 | x::xs,d+1=>Hd xs d v fun ys=>k (x::ys)
def Gf {α:Type} (F:List α) (v:α) (k:List α→Prop):Prop:=
 match F with
 | []=>k [v]
 | x::xs=>Gf xs v fun ys=>k (x::ys)
inductive Md where
 | lazy | half | full
def Xx (v:AV) (k:AV→Prop):Prop:=
 match v with
 | .undef=>k .undef
 | .bool b=>k (.bool b)
 | .int t n=>k (.int t n)
 | .str s=>k (.str s)
 | .nilp=>k .nilp
 | .ptr r off=>k (.ptr r off)
 | .nils=>k .nils
 | .slice mb r off len=>k (.slice mb r off len)
 | .nilf=>k .nilf
 | .func f cap=>k (.func f cap)
 | .agg cs=>k (.agg cs)
 | .tup vs=>k (.tup vs)
 | .yld i=>k (.yld i)
 | .rcd p ps a b=>k (.rcd p ps a b)
def Nf (l:List AV) (k:List AV→Prop):Prop:=
 match l with
 | []=>k []
 | x::xs=>Xx x fun x=>Nf xs fun xs=>k (x::xs)
def Xu (v:AV) (k:AV→Prop):Prop:=
 match v with
 | .tup vs=>Nf vs fun vs=>k (.tup vs)
 | v=>Xx v k
def M0 (s:Md) (F:Fr) (d:Option Tmp) (v:AV) (k:Fr→Prop):Prop:=
 match s with
 | .lazy=>k (put F d v)
 | .half=>match d with
  | some d=>Xu v fun v=>Hd F d v k
  | none=>k F
 | .full=>match d with
  | some d=>Xt v fun v=>Hd F d v k
  | none=>k F
def nam (e:Int) (K:Int→Prop):Prop:=∀ x,x=e→K x
def Ry (nm:Bool) (s:Md) (F:Fr) (d:Option Tmp) (v:AV) (k:Fr→Prop):Prop:=
 match nm with
 | false=>M0 s F d v k
 | true=>match v with
  | .int t e=>nam e fun x=>M0 s F d (.int t x) k
  | v=>M0 s F d v k
def Rx (sp nm:Bool) (s:Md) (F:Fr) (d:Option Tmp) (v:AV) (k:Fr→Prop):Prop:=
 match sp with
 | false=>Ry nm s F d v k
 | true=>match v with
  | .bool b=>tst b (M0 s F d (.bool true) k) (M0 s F d (.bool false) k)
  | v=>Ry nm s F d v k
def Sd:List AV→(List AV→Prop)→Prop
 | [],k=>k []
 | .int t e::l,k=>nam e fun x=>Sd l fun l'=>k (.int t x::l')
 | v::l,k=>Sd l fun l'=>k (v::l')
def namL (nm:Bool) (args:List AV) (k:List AV→Prop):Prop:=
 match nm with
 | false=>k args
 | true=>Sd args k
def Jn:Op→Bool
 | .assign _=>true
 | _=>false
inductive Hop where
 | set (i:Nat) (b:Blk)
 | new (b:Blk)
 | app (j:Nat) (b:Blk)
def Hop.act (H:Hp):Hop→Hp
 | .set i b=>H.set i (some b)
 | .new b=>H++[some b]
 | .app j b=>H.set j none++[some b]
def acts (H:Hp):List Hop→Hp
 | []=>H
 | h::hs=>acts (h.act H) hs
def Ot (b:Blk) (k:Blk→Prop):Prop:=match b with | ⟨e,cs⟩=>Jr cs fun cs=>k ⟨e,cs⟩
def Ll (s:Md) (H:Hp) (o:Hop) (k:Hp→Prop):Prop:=
 match s with
 | .lazy=>k (o.act H)
 | .half=>match o with
  | .set i b=>match b with | ⟨e,cs⟩=>Hd H i (some ⟨e,cs⟩) k
  | .new b=>match b with | ⟨e,cs⟩=>Gf H (some ⟨e,cs⟩) k
  | .app j b=>match b with | ⟨e,cs⟩=>Hd H j none fun H=>Gf H (some ⟨e,cs⟩) k
 | .full=>match o with
  | .set i b=>Ot b fun b=>Hd H i (some b) k
  | .new b=>Ot b fun b=>Gf H (some b) k
  | .app j b=>Ot b fun b=>Hd H j none fun H=>Gf H (some b) k
def Jp (s:Md) (H:Hp) (o:List Hop) (k:Hp→Prop):Prop:=
 match o with
 | []=>k H
 | h::hs=>Ll s H h fun H=>Jp s H hs k
def Cj (k:IntKind) (x y:Int):Int:=k.wrap (BitVec.ofInt k.bits x &&& BitVec.ofInt k.bits y).toNat
def kOr (k:IntKind) (x y:Int):Int:=k.wrap (BitVec.ofInt k.bits x ||| BitVec.ofInt k.bits y).toNat
def jJ (k:IntKind) (x y:Int):Int:=k.wrap (BitVec.ofInt k.bits x ^^^ BitVec.ofInt k.bits y).toNat
def Sg (k:IntKind) (x y:Int):Int:=k.wrap (BitVec.ofInt k.bits x &&& ~~~ BitVec.ofInt k.bits y).toNat
def Xl (k:IntKind) (n:Int):Int:=k.wrap (BitVec.ofInt k.bits (if k.signed then -1 else k.max) ^^^ BitVec.ofInt k.bits n).toNat
def cT (k:IntKind) (x y:Int):Int:=k.wrap (x*2^(min y.toNat k.bits))
def cS (k:IntKind) (x y:Int):Int:=x.fdiv (2^(min y.toNat k.bits))
def Mb (op:BinOp) (k:IntKind) (x y:Int):Option (Bool×AV):=
 match op with
 | .add=>some (true,.int k (k.wrap (x+y)))
 | .sub=>some (true,.int k (k.wrap (x - y)))
 | .mul=>some (true,.int k (k.wrap (x*y)))
 | .quo=>some (!(y==0),.int k (k.wrap (x.tdiv y)))
 | .rem=>some (!(y==0),.int k (x.tmod y))
 | .and=>some (true,.int k (Cj k x y))
 | .or=>some (true,.int k (kOr k x y))
 | .xor=>some (true,.int k (jJ k x y))
 | .andNot=>some (true,.int k (Sg k x y))
 | .eql=>some (true,.bool (x==y))
 | .neq=>some (true,.bool (x != y))
 | .lss=>some (true,.bool (decide (x<y)))
 | .leq=>some (true,.bool (decide (x≤y)))
 | .gtr=>some (true,.bool (decide (x>y)))
 | .geq=>some (true,.bool (decide (x≥y)))
 | _=>none
def Fv (op:BinOp) (k:IntKind) (x y:Int):Option (Bool×AV):=
 match op with
 | .shl=>some (decide (0≤y),.int k (cT k x y))
 | .shr=>some (decide (0≤y),.int k (cS k x y))
 | _=>none
def Lz (op:BinOp) (x y:List UInt8):Option (Bool×AV):=
 match op with
 | .add=>some (decide (x.length+y.length≤9223372036854775807),.str (x++y))
 | .eql=>some (true,.bool (x==y))
 | .neq=>some (true,.bool (!(x==y)))
 | _=>none
def Ao (op:BinOp) (c:Bool) (b:Bool):Option (Bool×AV):=
 match op with
 | .eql=>some (c,.bool b)
 | .neq=>some (c,.bool (!b))
 | _=>none
def D5 (P:Program) (t:TypeId):Option Nat:=(P.info? t).map (·.size)
def A0 (cs:List AV) (off:Nat):Int:=match cs[off]? with | some (.int _ n)=>n | _=>0
def isI (k:IntKind) (cs:List AV) (off:Nat):Bool:=match cs[off]? with | some (.int k' _)=>k==k' | _=>false
def K5 (cs:List AV) (off:Nat):Bool:=match cs[off]? with | some (.bool b)=>b | _=>false
def isB (cs:List AV) (off:Nat):Bool:=match cs[off]? with | some (.bool _)=>true | _=>false
def N9 (P:Program) (t:TypeId) (cs:List AV) (off:Nat):Option (Bool×AV):=
 match P.underlying t with
 | some (.int k)=>some (isI k cs off,.int k (A0 cs off))
 | some .bool=>some (isB cs off,.bool (K5 cs off))
 | some (.struct _)=>match D5 P t with
  | some z=>some (decide (off+z≤cs.length),.agg ((cs.drop off).take z))
  | none=>none
 | some (.array _ _)=>match D5 P t with
  | some z=>some (decide (off+z≤cs.length),.agg ((cs.drop off).take z))
  | none=>none
 | some _=>match cs[off]? with
  | some v=>some (true,v)
  | none=>none
 | none=>none
def Jv (P:Program) (rec:TypeId→AV→AV→Option (Bool×Bool)) (xs ys:List AV):List Field→Option (Bool×Bool)
 | []=>some (true,true)
 | f::fs=>
  if f.name ≠ "_" then
   match N9 P f.type xs f.offset,N9 P f.type ys f.offset with
   | some (c1,a),some (c2,b)=>
    match rec f.type a b,Jv P rec xs ys fs with
    | some (c3,r),some (c4,s)=>some (c1&&(c2&&(c3&&c4)),r&&s)
    | _,_=>none
   | _,_=>none
  else Jv P rec xs ys fs
def Lt (P:Program) (rec:TypeId→AV→AV→Option (Bool×Bool)) (e:TypeId) (z:Nat) (xs ys:List AV):List Nat→Option (Bool×Bool)
 | []=>some (true,true)
 | i::is=>
   match N9 P e xs (i*z),N9 P e ys (i*z) with
   | some (c1,a),some (c2,b)=>
    match rec e a b,Lt P rec e z xs ys is with
    | some (c3,r),some (c4,s)=>some (c1&&(c2&&(c3&&c4)),r&&s)
    | _,_=>none
   | _,_=>none
def Ki (P:Program):Nat→TypeId→AV→AV→Option (Bool×Bool)
 | 0,_,_,_=>none
 | n+1,t,x,y=>
  match P.underlying t with
  | some (.int _)=>match x,y with
   | .int k a,.int k' b=>some (decide (k=k'),a==b)
   | _,_=>none
  | some .bool=>match x,y with
   | .bool a,.bool b=>some (true,a==b)
   | _,_=>none
  | some .string=>match x,y with
   | .str a,.str b=>some (true,a==b)
   | _,_=>none
  | some (.struct fs)=>match x,y with
   | .agg xs,.agg ys=>match P.stoodInHeld t with
    | true=>none
    | false=>Jv P (Ki P n) xs ys fs.toList
   | _,_=>none
  | some (.array m e)=>match x,y with
   | .agg xs,.agg ys=>match D5 P e with
    | some z=>Lt P (Ki P n) e z xs ys (List.range m)
    | none=>none
   | _,_=>none
  | _=>none
def Do (d:Option TypeDesc):Bool:=match d with | some (.pointer _)=>true | _=>false
def Cl (d:Option TypeDesc):Bool:=match d with | some (.slice _)=>true | _=>false
def Eu (d:Option TypeDesc):Bool:=match d with | some (.func _ _ _)=>true | _=>false
def Nd (d:Option TypeDesc):Bool:=match d with | some .bool=>true | _=>false
def N2 (P:Program) (op:BinOp) (t:TypeId) (x y:AV):Option (Bool×AV):=
 match x,y with
 | .int k a,.int k' b=>
  match op with
  | .shl | .shr=>Fv op k a b
  | _=>if k=k' then Mb op k a b else none
 | .str a,.str b=>Lz op a b
 | .bool a,.bool b=>Ao op (Nd (P.underlying t)) (a==b)
 | .ptr _ _,.nilp=>Ao op (Do (P.underlying t)) false
 | .nilp,.ptr _ _=>Ao op (Do (P.underlying t)) false
 | .nilp,.nilp=>Ao op (Do (P.underlying t)) true
 | .slice false _ _ _,.nils=>Ao op (Cl (P.underlying t)) false
 | .nils,.nils=>Ao op (Cl (P.underlying t)) true
 | .func _ _,.nilf=>Ao op (Eu (P.underlying t)) false
 | .nilf,.nilf=>Ao op (Eu (P.underlying t)) true
 | .agg xs,.agg ys=>
  match P.eqGuardType P.depth t with
  | true=>none
  | false=>match Ki P 10 t (.agg xs) (.agg ys) with
   | some (c,b)=>Ao op c b
   | none=>none
 | _,_=>none
def Vy (op:UnOp) (x:AV):Option (Bool×AV):=
 match op,x with
 | .neg,.int k n=>some (true,.int k (k.wrap (0 - n)))
 | .xor,.int k n=>some (true,.int k (Xl k n))
 | .not,.bool b=>some (true,.bool (!b))
 | _,_=>none
def In (P:Program) (src dst:TypeId) (x:AV):Option (Bool×AV):=
 match P.underlying src,P.underlying dst,x with
 | some _,some (.int k),.int _ n=>some (true,.int k (k.wrap n))
 | some _,some .string,.str s=>some (true,.str s)
 | _,_,_=>none
def Ik (P:Program) (s:TypeId) (x:AV) (f:Nat):Option (Bool×AV):=
 match P.underlying s,x with
 | some (.struct fs),.ptr r off=>
  match fs[f]? with
  | some fd=>
   match D5 P fd.type with
   | some 0=>none
   | some _=>some (true,.ptr r (off+fd.offset))
   | none=>none
  | none=>none
 | _,_=>none
def Le (i z:Nat):Nat:=match z with | 1=>i | z=>i*z
def Ev (P:Program) (t:TypeId) (x i:AV):Option (Bool×AV):=
 match i with
 | .int _ i=>
  match P.underlying t,x with
  | some (.array len e),.ptr r off=>
   match D5 P e with
   | some z=>some (decide (0≤i)&&decide (i<len),.ptr r (Le i.toNat z+off))
   | none=>none
  | some (.slice e),.slice _ r off len=>
   match D5 P e with
   | some z=>some (decide (0≤i)&&decide (i<len),.ptr r (Le i.toNat z+off))
   | none=>none
  | _,_=>none
 | _=>none
def P9 (x:Option AV) (d:Int):Option Int:=
 match x with
 | none=>some d
 | some (.int _ i)=>some i
 | some _=>none
def Cd (P:Program) (t:TypeId) (x:AV) (lo hi:Option AV):Option (Bool×AV):=
 match P.underlying t,x with
 | some (.slice e),.slice mb r off len=>
  match D5 P e,P9 lo 0,P9 hi len with
  | some z,some l,some h=>some (decide (0≤l)&&(decide (l≤h)&&decide (h≤len)),.slice mb r (Le l.toNat z+off) (h.toNat - l.toNat))
  | _,_,_=>none
 | some (.slice e),.nils=>
  match D5 P e,P9 lo 0,P9 hi 0 with
  | some _,some l,some h=>some (decide (0≤l)&&(decide (l≤h)&&decide (h≤0)),.nils)
  | _,_,_=>none
 | some .string,.str s=>
  match P9 lo 0,P9 hi s.length with
  | some l,some h=>some (decide (0≤l)&&(decide (l≤h)&&decide (h≤s.length)),.str ((s.take h.toNat).drop l.toNat))
  | _,_=>none
 | _,_=>none
def A8:AV→List AV
 | .agg cs=>cs
 | v=>[v]
def To (cells:List AV) (off:Nat) (cs:List AV):List AV:=cells.take off++(cs++cells.drop (off+cs.length))
def E0 (cells:List AV) (off:Nat) (v:AV):List AV:=
 match v with
 | .agg cs=>To cells off cs
 | v=>cells.set off v
def Bn:AV→Bool
 | .undef | .rcd ..=>false
 | _=>true
def isCell:AV→Bool
 | .undef | .agg _ | .tup _ | .rcd ..=>false
 | _=>true
def K4:AV→Nat
 | .agg cs=>cs.length
 | _=>1
def X6 (place:Nat→Option (Nat×Nat)) (cells:List AV):List (Nat×AV)→Option (Bool×List AV)
 | []=>some (true,cells)
 | (i,v)::rest=>
  match place i with
  | none=>none
  | some (off,size)=>
   match X6 place (E0 cells off v) rest with
   | none=>none
   | some (c,r)=>some (Bn v&&(K4 v==size&&(decide (off+size≤cells.length)&&c)),r)
def Q4 (P:Program) (t:TypeId):Option AV:=
 match P.info? t with
 | some i=>match i.zero with
  | some z=>some (B6 z)
  | none=>none
 | none=>none
def Cg (P:Program):List Field→Option (List (Nat×Nat))
 | []=>some []
 | f::fs=>
  match D5 P f.type,Cg P fs with
  | some z,some r=>some ((f.offset,z)::r)
  | _,_=>none
def Ey (P:Program) (t:TypeId) (parts:List (Nat×AV)):Option (Bool×AV):=
 match P.underlying t,Q4 P t with
 | some (.struct fs),some (.agg z)=>
  match Cg P fs.toList with
  | some ps=>
   match X6 (fun i=>ps[i]?) z parts with
   | some (c,cs)=>some (c,.agg cs)
   | none=>none
  | none=>none
 | some (.array _ e),some (.agg z)=>
  match D5 P e with
  | some n=>
   match X6 (fun i=>some (i*n,n)) z parts with
   | some (c,cs)=>some (c,.agg cs)
   | none=>none
  | none=>none
 | _,_=>none
def Gp (P:Program) (t:TypeId) (x:AV):Option (Bool×AV):=
 match P.underlying t,x with
 | some .string,.str s=>some (true,.int .i64 s.length)
 | some (.array n _),_=>some (true,.int .i64 n)
 | some (.slice _),.slice _ _ _ n=>some (true,.int .i64 n)
 | some (.slice _),.nils=>some (true,.int .i64 0)
 | _,_=>none
def Rf (P:Program) (t:TypeId) (x:AV):Option (Bool×AV):=
 match P.underlying t,x with
 | some (.slice _),.nils=>some (true,.int .i64 0)
 | _,_=>none
def Qf (x y:AV):Option (Bool×AV):=
 match x,y with
 | .int k a,.int k' b=>if k=k' then some (true,.int k (if b>a then b else a)) else none
 | _,_=>none
def Qe (x y:AV):Option (Bool×AV):=
 match x,y with
 | .int k a,.int k' b=>if k=k' then some (true,.int k (if b<a then b else a)) else none
 | _,_=>none
def Kv (c a b:AV):Option (Bool×AV):=
 match c with
 | .bool true=>some (true,a)
 | .bool false=>some (true,b)
 | _=>none
def Eg (x:AV):Option (Bool×AV):=
 match x with
 | .ptr r o=>some (true,.ptr r o)
 | .func f c=>some (true,.func f c)
 | .slice m r o n=>some (true,.slice m r o n)
 | _=>none
def D1 (P:Program) (F:Fr) (op:Op):Option (Bool×AV):=
 match op with
 | .move x=>some (true,ev F x)
 | .assign x=>some (true,ev F x)
 | .pick c a b=>Kv (ev F c) (ev F a) (ev F b)
 | .nilCheck x=>Eg (ev F x)
 | .binOp op t x y _=>N2 P op t (ev F x) (ev F y)
 | .unOp op _ x=>Vy op (ev F x)
 | .convert s d x=>In P s d (ev F x)
 | .fieldAddr s x f=>Ik P s (ev F x) f
 | .indexAddr t x i=>Ev P t (ev F x) (ev F i)
 | .slice t x lo hi none=>Cd P t (ev F x) (lo.map (ev F)) (hi.map (ev F))
 | .build t parts=>Ey P t (parts.toList.map fun p=>(p.1,ev F p.2))
 | .extract x i=>match ev F x with
  | .tup vs=>match vs[i]? with
   | some v=>some (true,v)
   | none=>none
  | _=>none
 | .makeFunc (.func f) first cap=>if first.size=0 then some (true,.func f (cap.toList.map (ev F))) else none
 | .call { callee:=.builtin .len,args,argTypes }=>
  match args.toList,argTypes.toList with
  | [x],[t]=>Gp P t (ev F x)
  | _,_=>none
 | .call { callee:=.builtin .cap,args,argTypes }=>
  match args.toList,argTypes.toList with
  | [x],[t]=>Rf P t (ev F x)
  | _,_=>none
 | .call { callee:=.builtin .max,args,.. }=>
  match args.toList with
  | [x,y]=>Qf (ev F x) (ev F y)
  | _=>none
 | .call { callee:=.builtin .min,args,.. }=>
  match args.toList with
  | [x,y]=>Qe (ev F x) (ev F y)
  | _=>none
 | _=>none
def E4 (C:A1) (H:Hp):Ref→Option (List AV)
 | .rw i=>match H[i]? with
  | some (some b)=>match isRec b with
   | true=>none
   | false=>some b.cells
  | _=>none
 | .ro i=>some (C.G i)
inductive Lf where
 | int (k:IntKind)
 | bool
 | str
 | sl
def A5 (cs:List AV) (off:Nat):Nat:=match cs[off]? with | some (.slice _ (.ro k) _ _)=>k | _=>0
def A7 (cs:List AV) (off:Nat):Nat:=match cs[off]? with | some (.slice _ (.ro _) o _)=>o | _=>0
def B7 (cs:List AV) (off:Nat):Nat:=match cs[off]? with | some (.slice _ (.ro _) _ n)=>n | _=>0
def Dz (cs:List AV) (off:Nat):Bool:=match cs[off]? with | some .nils=>true | some (.slice _ (.ro _) _ _)=>true | _=>false
def Qm (cs:List AV) (off:Nat):List UInt8:=match cs[off]? with | some (.str s)=>s | _=>[]
def Vj (cs:List AV) (off:Nat):Bool:=match cs[off]? with | some (.str _)=>true | _=>false
def Gq (l:Lf) (cs:List AV) (off:Nat):AV:=
 match l with
 | .int k=>.int k (A0 cs off)
 | .bool=>.bool (K5 cs off)
 | .str=>.str (Qm cs off)
 | .sl=>.slice true (.ro (A5 cs off)) (A7 cs off) (B7 cs off)
def Z9 (l:Lf) (cs:List AV) (off:Nat):Bool:=
 match l with
 | .int k=>isI k cs off
 | .bool=>isB cs off
 | .str=>Vj cs off
 | .sl=>Dz cs off
def S9 (cs:List AV):Nat→List Lf→List AV
 | _,[]=>[]
 | off,l::ls=>Gq l cs off::S9 cs (off+1) ls
def E2 (cs:List AV):Nat→List Lf→Bool
 | _,[]=>true
 | off,l::ls=>Z9 l cs off&&E2 cs (off+1) ls
def fV (rec:TypeId→Option (List Lf)):Nat→List Field→Option (List Lf)
 | _,[]=>some []
 | acc,f::fs=>
  match Nat.beq f.offset acc with
  | true=>match rec f.type with
   | some a=>match fV rec (acc+a.length) fs with
    | some b=>some (a++b)
    | none=>none
   | none=>none
  | false=>none
def Nb (P:Program):Nat→TypeId→Option (List Lf)
 | 0,_=>none
 | n+1,t=>
  match P.underlying t with
  | some (.int k)=>some [.int k]
  | some .bool=>some [.bool]
  | some .string=>some [.str]
  | some (.slice _)=>some [.sl]
  | some (.struct fs)=>fV (Nb P n) 0 fs.toList
  | some (.array m e)=>match Nb P n e with
   | some a=>some (List.replicate m a).flatten
   | none=>none
  | _=>none
def Vf (P:Program) (t:TypeId) (cs:List AV) (off:Nat):Option (Bool×AV):=
 match P.underlying t with
 | some (.int k)=>some (isI k cs off,.int k (A0 cs off))
 | some .bool=>some (isB cs off,.bool (K5 cs off))
 | some .string=>some (Vj cs off,.str (Qm cs off))
 | some (.slice _)=>some (Dz cs off,.slice true (.ro (A5 cs off)) (A7 cs off) (B7 cs off))
 | some (.struct _)=>match D5 P t,Nb P 10 t with
  | some z,some ls=>some (Nat.beq ls.length z&&E2 cs off ls,.agg (S9 cs off ls))
  | _,_=>none
 | some (.array _ _)=>match D5 P t,Nb P 10 t with
  | some z,some ls=>some (Nat.beq ls.length z&&E2 cs off ls,.agg (S9 cs off ls))
  | _,_=>none
 | _=>none
def Gi (P:Program) (r:Ref) (t:TypeId) (cs:List AV) (off:Nat):Option (Bool×AV):=
 match r with
 | .rw _=>N9 P t cs off
 | .ro _=>Vf P t cs off
def Eh (C:A1) (H:Hp) (t:TypeId) (r:Ref) (off:Nat):Option (Bool×AV):=
 match E4 C H r with
 | some cs=>Gi C.P r t cs off
 | none=>none
def Pi:AV→UInt8
 | .int _ n=>UInt8.ofNat n.toNat
 | _=>0
def Jm:AV→Bool
 | .int .u8 _=>true
 | _=>false
def O8 (P:Program) (t:TypeId):Bool:=
 match P.underlying t with
 | some (.slice e)=>match P.underlying e with
  | some (.int .u8)=>true
  | _=>false
 | _=>false
def Q9 (P:Program) (t:TypeId):Bool:=match P.underlying t with | some .string=>true | _=>false
def bX (cs:List AV) (off n:Nat):Bool×AV:=
 (decide (off+n≤cs.length)&&((cs.drop off).take n).all Jm,.str (((cs.drop off).take n).map Pi))
def H8 (C:A1) (F:Fr) (H:Hp) (op:Op):Option (Bool×AV):=
 match op with
 | .load t a=>match ev F a with
  | .ptr r off=>Eh C H t r off
  | _=>none
 | .field t x f=>
  match C.P.underlying t,ev F x with
  | some (.struct fs),.agg cs=>match fs[f]? with
   | some fd=>N9 C.P fd.type cs fd.offset
   | none=>none
  | _,_=>none
 | .index t x i=>
  match C.P.underlying t,ev F x,ev F i with
  | some (.array len e),.agg cs,.int _ i=>match D5 C.P e with
   | some z=>match N9 C.P e cs (Le i.toNat z) with
    | some (c,v)=>some (decide (0≤i)&&(decide (i<len)&&c),v)
    | none=>none
   | none=>none
  | _,_,_=>none
 | .convert s d x=>
  match O8 C.P s&&Q9 C.P d,ev F x with
  | true,.nils=>some (true,.str [])
  | true,.slice _ r off n=>match E4 C H r with
   | some cs=>some (bX cs off n)
   | none=>none
  | _,_=>none
 | _=>none
def Fi (F:Fr) (op:Op):Option Ref:=
 match op with
 | .load _ a=>match ev F a with
  | .ptr r _=>some r
  | _=>none
 | .convert _ _ x=>match ev F x with
  | .slice _ r _ _=>some r
  | _=>none
 | _=>none
def here (H:Hp):Ref:=.rw H.length
def Oi (C:A1) (H:Hp) (z:Nat) (x:AV):Option (Bool×Nat×List AV):=
 match x with
 | .nils=>some (true,0,[])
 | .slice _ r off m=>match E4 C H r with
  | some cs=>some (decide (off+m*z≤cs.length)&&((cs.drop off).take (m*z)).all isCell,m,(cs.drop off).take (m*z))
  | none=>none
 | .str s=>some (decide (z=1),s.length,s.map fun b=>.int .u8 b.toNat)
 | _=>none
def Ct (C:A1) (H:Hp) (t:TypeId) (s x:AV):Option (Bool×AV×Hop):=
 match C.P.underlying t with
 | some (.slice e)=>
  match C.P.info? e,Q4 C.P e with
  | some i,some zv=>
   match Oi C H i.size x with
   | some (c,m,xs)=>
    match s with
    | .nils=>some (Z4 i.size&&(c&&(decide (m*i.bytes≤140737488355328)&&(decide (1≤i.bytes)&&(A8 zv).length==i.size))),.slice true (here H) 0 m,.new ⟨i.size,xs⟩)
    | .slice mb (.rw j) 0 n=>
     match H[j]? with
     | some (some b)=>some (!isRec b&&(c&&(decide ((n+m)*i.bytes≤140737488355328)&&(decide (1≤i.bytes)&&((A8 zv).length==i.size&&(b.esz==i.size&&decide (n*i.size≤b.cells.length)))))),.slice mb (here H) 0 (n+m),.app j ⟨i.size,b.cells.take (n*i.size)++xs⟩)
     | _=>none
    | _=>none
   | none=>none
  | _,_=>none
 | _=>none
def Ip (C:A1) (H:Hp) (t:TypeId) (s x:AV):Option (Bool×AV×Hop):=
 match C.P.underlying t,s,x with
 | some (.slice e),.nils,.int .i64 n=>
  match C.P.info? e,Q4 C.P e with
  | some i,some zv=>some (Z4 i.size&&(decide (0≤n)&&(decide (n*i.bytes≤140737488355328)&&(decide (1≤i.bytes)&&(decide ((A8 zv).length=i.size)&&decide (1≤i.size))))),.slice true (here H) 0 n.toNat,.new ⟨i.size,(List.replicate n.toNat (A8 zv)).flatten⟩)
  | _,_=>none
 | _,_,_=>none
def Lw (C:A1) (H:Hp) (t:TypeId) (x:AV):Option (Bool×AV×Hop):=
 match C.P.underlying t,x with
 | some (.slice e),.slice _ (.rw j) off n=>
  match D5 C.P e,Q4 C.P e,H[j]? with
  | some z,some zv,some (some b)=>some (!isRec b&&(decide (1≤n)&&(decide ((A8 zv).length=z)&&(decide (1≤z)&&((A8 zv).all isCell&&decide (off+n*z≤b.cells.length))))),.tup [],.set j ⟨b.esz,To b.cells off (List.replicate n (A8 zv)).flatten⟩)
  | _,_,_=>none
 | _,_=>none
def E8 (C:A1) (F:Fr) (H:Hp) (op:Op):Option (Bool×AV×Hop):=
 match op with
 | .store t a x=>
  match ev F a,D5 C.P t with
  | .ptr (.rw i) off,some z=>match H[i]? with
   | some (some b)=>some (!isRec b&&((A8 (ev F x)).all isCell&&(K4 (ev F x)==z&&decide (off+z≤b.cells.length))),.tup [],.set i ⟨b.esz,E0 b.cells off (ev F x)⟩)
   | _=>none
  | _,_=>none
 | .alloc e=>match Q4 C.P e with
  | some z=>some (true,.ptr (here H) 0,.new ⟨1,A8 z⟩)
  | none=>none
 | .box _ x=>some (Bn (ev F x),.ptr (here H) 0,.new ⟨1,A8 (ev F x)⟩)
 | .buildSlice t n parts=>
  match C.P.underlying t with
  | some (.slice e)=>match D5 C.P e,Q4 C.P e with
   | some z,some zv=>
    match X6 (fun i=>some (i*z,z)) ((List.replicate n (A8 zv)).flatten) (parts.toList.map fun p=>(p.1,ev F p.2)) with
    | some (c,cs)=>some (Z4 z&&(c&&(decide (n*z≤16777216)&&decide ((A8 zv).length=z))),.slice false (here H) 0 n,.new ⟨z,cs⟩)
    | none=>none
   | _,_=>none
  | _=>none
 | .makeSlice t l c=>
  match C.P.underlying t,ev F l,ev F c with
  | some (.slice e),.int _ l,.int _ c=>match C.P.info? e,Q4 C.P e with
   | some i,some zv=>some (Z4 i.size&&(decide (0≤l)&&(decide (l≤c)&&(decide (c*i.bytes≤140737488355328)&&(decide (c≤140737488355328)&&(decide ((A8 zv).length=i.size)&&decide (1≤i.size)))))),.slice false (here H) 0 l.toNat,.new ⟨i.size,(List.replicate l.toNat (A8 zv)).flatten⟩)
   | _,_=>none
  | _,_,_=>none
 | .convert s d x=>
  match Q9 C.P s&&O8 C.P d,ev F x with
  | true,.str s=>some (decide (s.length≤140737488355328),.slice false (here H) 0 s.length,.new ⟨1,s.map fun b=>.int .u8 b.toNat⟩)
  | false,.slice mb (.rw i) off n=>match O8 C.P s&&Nat.beq s d with
   | true=>match H[i]? with
    | some (some b)=>some (!isRec b&&Nat.ble 1 n,.slice mb (.rw i) off n,.set i b)
    | _=>none
   | false=>none
  | _,_=>none
 | .call { callee:=.builtin .append,args,argTypes }=>
  match args.toList,argTypes.toList with
  | [s,x],[t,u]=>match C.P.underlying u with
   | some (.slice _)=>Ct C H t (ev F s) (ev F x)
   | some .string=>Ct C H t (ev F s) (ev F x)
   | some (.int _)=>Ip C H t (ev F s) (ev F x)
   | _=>none
  | _,_=>none
 | .call { callee:=.builtin .clear,args,argTypes }=>
  match args.toList,argTypes.toList with
  | [x],[t]=>Lw C H t (ev F x)
  | _,_=>none
 | _=>none
inductive Kd where
 | pure | read | write | call
 deriving DecidableEq
def kdOf (P:Program) (op:Op):Kd:=
 match op with
 | .load _ _ | .field _ _ _ | .index _ _ _=>.read
 | .store _ _ _ | .alloc _ | .box _ _ | .buildSlice _ _ _ | .makeSlice _ _ _=>.write
 | .convert s d _=>if O8 P s&&Q9 P d then .read else if Q9 P s&&O8 P d then .write else if O8 P s&&Nat.beq s d then .write else .pure
 | .call { callee:=.builtin .append,.. }=>.write
 | .call { callee:=.builtin .clear,.. }=>.write
 | .call { callee:=.builtin _,.. }=>.pure
 | .call _=>.call
 | _=>.pure
def callOp (F:Fr) (op:Op):Option (FuncId×List AV):=
 match op with
 | .call { callee:=.value f,args,.. }=>match ev F f with
  | .func g cap=>some (g,args.toList.map (ev F)++cap)
  | _=>none
 | _=>none
def yldOp (F:Fr) (op:Op):Option (Nat×List AV):=
 match op with
 | .call { callee:=.value f,args,.. }=>match ev F f with
  | .yld i=>some (i,args.toList.map (ev F))
  | _=>none
 | _=>none
def Be:Fr→List Nat→List AV→Fr
 | F,p::ps,v::vs=>Be (F.set p v) ps vs
 | F,_,_=>F
def Kr (C:A1) (F:Fr) (H:Hp):ResultVar→Option (Bool×AV)
 | .tmp t=>some (true,F.getD t .undef)
 | .cell a t=>match F.getD a .undef with
  | .ptr r off=>Eh C H t r off
  | _=>none
def Bh (C:A1) (F:Fr) (H:Hp):List ResultVar→Option (Bool×List AV)
 | []=>some (true,[])
 | x::xs=>match Kr C F H x with
  | some (c,v)=>match Bh C F H xs with
   | some (d,r)=>some (c&&d,v::r)
   | none=>none
  | none=>none
def Rw (C:A1) (fn:Func) (F:Fr) (H:Hp):Option (Bool×AV):=
 match Bh C F H fn.results.toList with
 | some (c,[v])=>some (c,v)
 | some (c,vs)=>some (c,.tup vs)
 | none=>none
def M6 (C:A1) (fn:Func) (Q:AV→Hp→Prop) (e:Ex) (F:Fr) (H:Hp):Prop:=
 match e with
 | .exit _=>False
 | _=>Pw (Rw C fn F H) fun v=>Q v H
inductive TrK where
 | still
 | read (r:Ref)
 | write
structure Tr where
 kd:TrK
 len:Nat
 hs:List Hop
def Cx (i:Nat) (len:Nat):List Hop→Bool
 | []=>false
 | .set j _::hs=>j==i||Cx i len hs
 | .new _::hs=>len==i||Cx i (len+1) hs
 | .app j _::hs=>j==i||(len==i||Cx i (len+1) hs)
def Fe (r:Ref) (len:Nat) (hs:List Hop):Bool:=
 match r with
 | .rw i=>Cx i len hs
 | .ro _=>false
def Ai:List Oper→List Nat→List Nat
 | [],acc=>acc
 | o::l,acc=>Ai l (acc++[o.after.toList.foldl (fun s e=>bif Region.binds .any e then s ||| (2^e.on ||| acc.getD e.on 0) else s) 0])
def Gm (all:List Oper) (o:Oper):List Tmp:=
 (o.op.operands.toList.filterMap fun | .tmp t=>some t | _=>none) ++
 (match o.guard with
  | some (j,_)=>match (all[j]?).bind (·.dst) with
   | some t=>[t]
   | none=>[]
  | none=>[])
def Iq (all:List Oper) (x y:Oper):Bool:=
 (match x.dst with
  | some d=>!((Gm all y).contains d)&&!(y.dst==some d)
  | none=>true) &&
 (match y.dst with
  | some d=>!((Gm all x).contains d)
  | none=>true)
def U6 (x y:Tr):Bool:=
 match x.kd,y.kd with
 | .write,.write=>false
 | .write,.read r=>!Fe r x.len x.hs
 | .read r,.write=>!Fe r y.len y.hs
 | _,_=>true
def Il:Nat→List Oper→Bool
 | _,[]=>true
 | j,o::l=>o.after.toList.all (fun e=>!Region.binds .any e||Nat.blt e.on j)&&Il (j+1) l
def U4 (all:List Oper) (trs:List Tr):Bool:=
 let ms:=Ai all []
 Il 0 all&&(List.range all.length).all fun j=>(List.range j).all fun i=>
  (ms.getD j 0).testBit i ||
  (match all[i]?,all[j]?,trs[i]?,trs[j]? with
   | some x,some y,some a,some b=>Iq all x y&&U6 a b
   | _,_,_,_=>false)
inductive Wk where
 | code (c:Code)
 | ops (all l:List Oper)
 | dr (all l:List Oper) (trs:List Tr)
structure Cfg where
 C:A1
 /-- how much is written out at each step? -/
 strict:Md
 /-- are loops gone through round by round? -/
 unr:Bool
 /-- does a number that is assigned get a name? -/
 nm:Bool:=false
 /-- is a truth value that is assigned looked at once? -/
 sp:Bool:=false
 /-- does a number that a loop leaves get a name? -/
 nl:Bool:=false
 /-- how a test (of a slot,in a frame of so many slots) comes out: then the other way is not gone,and this is owed -/
 hint:Nat→Nat→Option Bool:=fun _ _=>none
 /-- of a call that is entered where the order is drawn: are the blocks that it leaves as they were told from the others? -/
 cmp:Bool:=false
 /-- is a call of this function entered in place? -/
 inl:FuncId→Bool
 /-- what a call that is not entered does -/
 sum:FuncId→List AV→Hp→Option (Bool×AV×List Hop)
 /-- what a loop that is not gone through does -/
 loop:Code→Fr→Hp→Option (Bool×Ex×Fr×Hp)
 /-- how many blocks of the heap the loops leave where they are -/
 M:Nat
def Bf (K:Cfg) (rec:Code→Bool) (o:Oper):Bool:=
 match kdOf K.C.P o.op with
 | .pure=>true
 | .read=>true
 | .write=>false
 | .call=>match o.op with
  | .call { callee:=.value (.func g),.. }=>K.inl g&&(match K.C.P.funcs[g]? with
   | some fn=>match fn.body with
    | some c=>rec c
    | none=>true
   | none=>true)
  | _=>false
def W7 (K:Cfg) (rec:Code→Bool):Code→Bool
 | .skip=>true
 | .region _ ops _=>ops.toList.all (Bf K rec)
 | .seq a b=>W7 K rec a&&W7 K rec b
 | .cond _ a b=>W7 K rec a&&W7 K rec b
 | .block _ c=>W7 K rec c
 | .loop c=>K.unr&&W7 K rec c
 | .exit _=>true
 | .scope c=>W7 K rec c
 | .label _=>true
 | .ret=>true
 | _=>false
def E6 (K:Cfg):Nat→Code→Bool
 | 0,_=>false
 | d+1,c=>W7 K (E6 K d) c
def cC:AV→AV→Bool
 | .bool a,.bool b=>a==b
 | .int k m,.int k' n=>decide (k=k')&&decide (m=n)
 | .nilp,.nilp=>true
 | .nils,.nils=>true
 | .nilf,.nilf=>true
 | .ptr (.rw i) o,.ptr (.rw j) o'=>Nat.beq i j&&Nat.beq o o'
 | .slice m (.rw i) o n,.slice m' (.rw j) o' n'=>m==m'&&(Nat.beq i j&&(Nat.beq o o'&&Nat.beq n n'))
 | _,_=>false
def Mp:List AV→List AV→Bool
 | [],[]=>true
 | x::xs,y::ys=>cC x y&&Mp xs ys
 | _,_=>false
def Vb:Option Blk→Blk→Bool
 | some b,b'=>Nat.beq b.esz b'.esz&&Mp b.cells b'.cells
 | none,_=>false
def P6:Bool→Nat→Hp→Option (List Hop)
 | false,_,[]=>some []
 | true,_,[]=>none
 | false,i,some b::H'=>match P6 false (i+1) H' with
  | some hs=>some (.new b::hs)
  | none=>none
 | true,i,some b::H'=>match P6 false (i+1) H' with
  | some hs=>some (.app (i - 1) b::hs)
  | none=>none
 | false,i,none::H'=>match P6 true (i+1) H' with
  | some hs=>some (.new ⟨0,[]⟩::hs)
  | none=>none
 | true,i,none::H'=>match P6 true (i+1) H' with
  | some hs=>some (.app (i - 1) ⟨0,[]⟩::hs)
  | none=>none
def S1 (cmp:Bool):Nat→Hp→Hp→Option (List Hop)
 | i,[],H'=>P6 false i H'
 | i,x::H,some b::H'=>match cmp&&Vb x b with
  | true=>S1 cmp (i+1) H H'
  | false=>match S1 cmp (i+1) H H' with
   | some hs=>some (.set i b::hs)
   | none=>none
 | i,none::H,none::H'=>S1 cmp (i+1) H H'
 | _,_,_=>none
def P4 (fn:Func) (args:List AV):Fr:=args++List.replicate (fn.ntmps - args.length) (.tup [])
abbrev Post:=Ex→Fr→Hp→Prop
abbrev Rec:=Nat→Wk→Fr→Hp→Post→Prop
def wrc (o:Option (Bool×AV×Hop)) (k:AV→Hop→Prop):Prop:=match o with | some (c,v,h)=>chk c (k v h) | none=>False
def smc (o:Option (Bool×AV×List Hop)) (k:AV→List Hop→Prop):Prop:=match o with | some (c,v,h)=>chk c (k v h) | none=>False
def lpc (o:Option (Bool×Ex×Fr×Hp)) (k:Ex→Fr→Hp→Prop):Prop:=match o with | some (c,e,F,H)=>chk c (k e F H) | none=>False
def Fh (K:Cfg) (rec:Rec) (m:Nat) (all l:List Oper) (dst:Option Tmp) (f:FuncId) (args:List AV) (F:Fr) (H:Hp) (Q:Post):Prop:=
 match K.inl f with
 | true=>
  match K.C.P.funcs[f]? with
  | some fn=>match fn.body with
   | some c => chk (!(fn.name == "runtime.NumGoroutine")) (rec H.length (.code c) (P4 fn args) H (M6 K.C fn fun v H' => M0 K.strict F dst v fun F => rec m (.ops all l) F H' Q))
   | none=>False
  | none=>False
 | false=>namL K.nm args fun args=>smc (K.sum f args H) fun v hs=>Jp K.strict H hs fun H=>M0 K.strict F dst v fun F=>rec m (.ops all l) F H Q
def Iw:Ex→Nat
 | .normal=>0
 | .ret=>2
 | .exit n=>n+3
def R5:Ex→Bool
 | .normal=>true
 | _=>false
def Hl (K:Cfg) (rec:Rec) (m:Nat) (all l:List Oper) (dst:Option Tmp) (i:Nat) (F:Fr) (Q:Post):Post:=fun ex _ H=>
 match H[i]? with
 | some (some ⟨e,.rcd 1 ps as bd::F0⟩)=>chk (Nat.beq e 4294967291) (M0 K.strict F dst (.bool (R5 ex)) fun F=>rec m (.ops all l) F (H.set i (some ⟨e,.rcd (Iw ex) ps as bd::F0⟩)) Q)
 | _=>False
def Mk (K:Cfg) (rec:Rec) (k m:Nat) (all l:List Oper) (dst:Option Tmp) (i:Nat) (body:Code) (F:Fr) (Q:Post):Post:=fun ex F1 H=>
 match ex with
 | .normal=>match H[i]? with
  | some (some ⟨e,.rcd 0 ps as bd::F0⟩)=>chk (Nat.beq e 4294967291) (rec k (.code body) F1 (H.set i (some ⟨e,.rcd 1 ps as bd::F0⟩)) (Hl K rec m all l dst i F Q))
  | _=>False
 | _=>False
def En (K:Cfg) (rec:Rec) (m:Nat) (all l:List Oper) (dst:Option Tmp) (i:Nat) (args:List AV) (F:Fr) (H:Hp) (Q:Post):Prop:=
 match H[i]? with
 | some (some ⟨e,.rcd 0 ps as bd::F0⟩)=>
  chk (Nat.beq e 4294967291&&(Nat.beq args.length ps.size&&(H6 as&&(H6 bd&&K.unr))))
   (rec H.length (.code as) (Be F0 ps.toList args) H (Mk K rec H.length m all l dst i bd F Q))
 | _=>False
def rngJ (p:Nat) (F:Fr) (H:Hp) (Q:Post):Prop:=
 match p with
 | 0=>Q .normal F H
 | 1=>False
 | 2=>Q .ret F H
 | n+3=>Q (.exit n) F H
def Bg (i:Nat) (F:Fr) (Q:Post):AV→Hp→Prop:=fun _ H=>
 match H[i]? with
 | some (some ⟨e,.rcd p _ _ _::_⟩)=>chk (Nat.beq e 4294967291) (rngJ p F (H.set i none) Q)
 | _=>False
def Hs (K:Cfg) (rec:Rec) (g:Operand) (ps:Array Tmp) (as bd:Code) (F:Fr) (H:Hp) (Q:Post):Prop:=
 match ev F g with
 | .func f cap=>match K.C.P.funcs[f]? with
  | some fn=>match fn.body with
   | some c => chk (!(fn.name == "runtime.NumGoroutine") && K.unr) (rec (H.length + 1) (.code c) (P4 fn (.yld H.length :: cap)) (H ++ [some ⟨4294967291, .rcd 0 ps as bd :: F⟩]) (M6 K.C fn (Bg H.length F Q)))
   | none=>False
  | none=>False
 | _=>False
def Bc (K:Cfg) (rec:Rec) (m:Nat) (all l:List Oper) (dst:Option Tmp) (op:Op) (F:Fr) (H:Hp) (Q:Post):Prop:=
 match kdOf K.C.P op with
 | .pure=>Pw (D1 K.C.P F op) fun v=>Rx (K.sp&&Jn op) (K.nm&&Jn op) K.strict F dst v fun F=>rec m (.ops all l) F H Q
 | .read=>Pw (H8 K.C F H op) fun v=>M0 K.strict F dst v fun F=>rec m (.ops all l) F H Q
 | .write=>wrc (E8 K.C F H op) fun v h=>Ll K.strict H h fun H=>M0 K.strict F dst v fun F=>rec m (.ops all l) F H Q
 | .call=>match callOp F op with
  | some (f,args)=>Fh K rec m all l dst f args F H Q
  | none=>match yldOp F op with
   | some (i,args)=>En K rec m all l dst i args F H Q
   | none=>False
def guardK (hint:Nat→Option Bool) (s:Md) (all:List Oper) (guard:Option (Nat×Bool)) (F:Fr) (go skip:Fr→Prop):Prop:=
 match guard with
 | none=>go F
 | some (j,want)=>
  match (all[j]?).bind (·.dst) with
  | some t=>
   match F.getD t .undef with
   | .bool b=>Rq (hint t) b
     (M0 s F (some t) (.bool true) fun F=>match want with | true=>go F | false=>skip F)
     (M0 s F (some t) (.bool false) fun F=>match want with | true=>skip F | false=>go F)
   | .tup []=>skip F
   | _=>False
  | none=>False
def Eo (K:Cfg) (rec:Rec) (m:Nat) (all l:List Oper) (F:Fr) (H:Hp) (Q:Post):Prop:=
 match l with
 | []=>Q .normal F H
 | ⟨dst,op,_,_,_,guard⟩::l=>
  guardK (K.hint F.length) K.strict all guard F (fun F=>Bc K rec m all l dst op F H Q) (fun F=>M0 K.strict F dst (.tup []) fun F=>rec m (.ops all l) F H Q)
def T5 (K:Cfg) (rec:Rec) (m:Nat) (all l:List Oper) (trs:List Tr) (dst:Option Tmp) (op:Op) (F:Fr) (H:Hp) (Q:Post):Prop:=
  match kdOf K.C.P op with
  | .pure=>Pw (D1 K.C.P F op) fun v=>Rx (K.sp&&Jn op) (K.nm&&Jn op) K.strict F dst v fun F'=>rec m (.dr all l (trs++[⟨.still,H.length,[]⟩])) F' H Q
  | .read=>Pw (H8 K.C F H op) fun v=>M0 K.strict F dst v fun F'=>rec m (.dr all l (trs++[⟨(match Fi F op with | some r=>.read r | none=>.still),H.length,[]⟩])) F' H Q
  | .write => wrc (E8      K.C F H op) fun v h => Ll   K.strict H h fun H' => M0   K.strict F dst v fun F' => rec m (.dr all l (trs ++ [⟨.write, H.length, [h]⟩])) F' H' Q
  | .call=>match callOp F op with
    | some (f,args)=>match K.inl f with
      | true=>
        match K.C.P.funcs[f]? with
        | some fn=>match fn.body with
          | some c => chk (!(fn.name == "runtime.NumGoroutine")) (rec H.length (.code c) (P4 fn args) H (M6 K.C fn fun v H' =>
              match E6 K 20 c with
              | true=>M0 K.strict F dst v fun F'=>rec m (.dr all l (trs++[⟨.write,H.length,[]⟩])) F' H Q
              | false=>match S1 K.cmp 0 H H' with
                | some hs=>M0 K.strict F dst v fun F'=>rec m (.dr all l (trs++[⟨.write,H.length,hs⟩])) F' H' Q
                | none=>False))
          | none=>False
        | none=>False
      | false=>namL K.nm args fun args=>smc (K.sum f args H) fun v hs=>Jp K.strict H hs fun H'=>M0 K.strict F dst v fun F'=>rec m (.dr all l (trs++[⟨.write,H.length,hs⟩])) F' H' Q
    | none=>False
def Ht (K:Cfg) (rec:Rec) (m:Nat) (all l:List Oper) (trs:List Tr) (F:Fr) (H:Hp) (Q:Post):Prop:=
 match l with
 | []=>chk (U4 all trs) (Q .normal F H)
 | ⟨dst,op,_,_,_,guard⟩::l=>
  guardK (K.hint F.length) K.strict all guard F (fun F=>T5 K rec m all l trs dst op F H Q) (fun F=>M0 K.strict F dst (.tup []) fun F=>rec m (.dr all l (trs++[⟨.still,H.length,[]⟩])) F H Q)
def Oh (K:Cfg) (rec:Rec) (m:Nat) (c:Operand) (x y:Code) (F:Fr) (H:Hp) (Q:Post):Prop:=
 match c with
 | .tmp t=>match F.getD t .undef with
  | .bool b=>Rq (K.hint F.length t) b (M0 K.strict F (some t) (.bool true) fun F=>rec m (.code x) F H Q) (M0 K.strict F (some t) (.bool false) fun F=>rec m (.code y) F H Q)
  | _=>False
 | .const (.bool b)=>match b with
  | true=>rec m (.code x) F H Q
  | false=>rec m (.code y) F H Q
 | _=>False
def Ml (rec:Rec) (m:Nat) (b:Code) (Q:Post):Post:=fun e F H=>match e with
 | .normal=>rec m (.code b) F H Q
 | e=>Q e F H
def Ds (id:Nat) (Q:Post):Post:=fun e F H=>match e with
 | .exit i=>match i==id with
  | true=>Q .normal F H
  | false=>Q (.exit i) F H
 | e=>Q e F H
def N4 (K:Cfg) (rec:Rec) (m:Nat) (c:Code) (F:Fr) (H:Hp) (Q:Post):Prop:=
 match c with
 | .skip=>Q .normal F H
 | .region _ ops draw=>match draw with
  | true=>rec m (.dr ops.toList ops.toList []) F H Q
  | false=>rec m (.ops ops.toList ops.toList) F H Q
 | .seq a b=>rec m (.code a) F H (Ml rec m b Q)
 | .cond c x y=>Oh K rec m c x y F H Q
 | .block id c=>rec m (.code c) F H (Ds id Q)
 | .loop c=>match K.unr with
  | true=>rec m (.code c) F H (Ml rec m (.loop c) Q)
  | false=>chk (Nat.ble m K.M) (lpc (K.loop c F H) fun e F' H'=>namL K.nl F' fun F'=>Q e F' H')
 | .exit id=>Q (.exit id) F H
 | .scope c=>rec m (.code c) F H Q
 | .label _=>Q .normal F H
 | .ret=>Q .ret F H
 | .rangeFunc g ps as bd=>Hs K rec g ps as bd F H Q
 | _=>False
def oI (K:Cfg) (rec:Rec) (m:Nat) (w:Wk) (F:Fr) (H:Hp) (Q:Post):Prop:=
 match w with
 | .ops all l=>Eo K rec m all l F H Q
 | .dr all l trs=>Ht K rec m all l trs F H Q
 | .code c=>N4 K rec m c F H Q
def vc (K:Cfg):Nat→Rec
 | 0=>fun _ _ _ _ _=>False
 | n+1=>oI K (vc K n)
end Go.Am
