/-
  Written terms: what the abstract machine over them says of values, and The machine over written terms: a piece of code becomes a tree.
-/
import Derived.Test.YtkabjomhnddnoaaBase3
namespace Go.Am
mutual
/-- whole numbers -/
inductive EI
 | lit (n:Int)
 | var (j:Nat) (x:Int)
 | bin (o:BinOp) (k:IntKind) (a b:EI)
 | conv (k:IntKind) (a:EI)
 | neg (k:IntKind) (a:EI)
 | cpl (k:IntKind) (a:EI)
 | ofN (n:EN)
 | mx (a b:EI)
 | mn (a b:EI)
 | get (l:EL) (o:EN)
 | uf (j:Nat) (f:List AV→Int) (as:List EV)
/-- counts -/
inductive EN
 | lit (n:Nat)
 | var (j:Nat) (x:Nat)
 | toN (a:EI)
 | add (a b:EN)
 | mul (a:EN) (z:Nat)
 | sub (a b:EN)
 | len (l:EL)
 | slen (s:ES)
 | rk (l:EL) (o:EN)
 | ro (l:EL) (o:EN)
 | rn (l:EL) (o:EN)
 | fk (b:Nat) (l:EL) (o:EN)
 | fo (l:EL) (o:EN)
 | fn (l:EL) (o:EN)
 | uf (j:Nat) (f:List AV→Nat) (as:List EV)
/-- truth values -/
inductive EB
 | lit (b:Bool)
 | var (j:Nat) (x:Bool)
 | cmp (o:BinOp) (a b:EI)
 | not (b:EB)
 | and (a b:EB)
 | eqB (a b:EB)
 | eqS (a b:ES)
 | isI (k:IntKind) (l:EL) (o:EN)
 | isB (l:EL) (o:EN)
 | isT (l:EL) (o:EN)
 | isR (l:EL) (o:EN)
 | get (l:EL) (o:EN)
 | leN (a b:EN)
 | eqN (a b:EN)
 | leaf (l:EL) (o:EN) (ls:List Lf)
 | u8s (l:EL)
 | cells (l:EL)
 | isF (b c:Nat) (l:EL) (o:EN)
 | isP (b c:Nat) (l:EL) (o:EN)
 | isNil (l:EL) (o:EN)
 | rows (l:EL) (ls:List EV)
 | uf (j:Nat) (f:List AV→Bool) (as:List EV)
/-- texts -/
inductive ES
 | lit (s:List UInt8)
 | var (j:Nat) (x:List UInt8)
 | app (a b:ES)
 | sub (s:ES) (lo hi:EN)
 | get (l:EL) (o:EN)
 | ofL (l:EL)
 | uf (j:Nat) (f:List AV→List UInt8) (as:List EV)
/-- cells -/
inductive EL
 | of (cs:List EV)
 | var (j:Nat) (x:List AV)
 | ro (n:EN)
 | set (l:EL) (o:EN) (v:EV)
 | app (a b:EL)
 | sub (l:EL) (o n:EN)
 | bytes (s:ES)
 | rep (n:EN) (l:EL)
 | row (l:EL) (k:EN)
 | put (l:EL) (k:EN) (v:EL)
 | uf (j:Nat) (f:List AV→List AV) (as:List EV)
/-- values -/
inductive EV
 | undef
 | bool (b:EB)
 | int (k:IntKind) (n:EI)
 | str (s:ES)
 | nilp
 | ptr (r:ER) (o:EN)
 | nils
 | slice (mb:Bool) (r:ER) (o n:EN)
 | nilf
 | func (f:FuncId) (cap:List EV)
 | agg (l:EL)
 | tup (vs:List EV)
 | yld (i:Nat)
/-- places -/
inductive ER
 | rw (i:Nat)
 | ro (n:EN)
 | fm (b c:Nat) (k:EN)
end
def binI (o:BinOp) (k:IntKind) (x y:Int):Int:=
 match o with
 | .add=>k.wrap (x+y)
 | .sub=>k.wrap (x - y)
 | .mul=>k.wrap (x*y)
 | .quo=>k.wrap (x.tdiv y)
 | .rem=>x.tmod y
 | .and=>kAnd k x y
 | .or=>kOr k x y
 | .xor=>kXor k x y
 | .andNot=>kAndNot k x y
 | .shl=>kShl k x y
 | .shr=>kShr k x y
 | _=>0
def cmpI (o:BinOp) (x y:Int):Bool:=
 match o with
 | .eql=>x==y
 | .neq=>x != y
 | .lss=>decide (x<y)
 | .leq=>decide (x≤y)
 | .gtr=>decide (x>y)
 | .geq=>decide (x≥y)
 | _=>false
def leB (x y:Nat):Bool:=decide (x≤y)
def u8s (cs:List AV):Bool:=cs.all isU8
def cellsB (cs:List AV):Bool:=cs.all isCell
def strL (cs:List AV):List UInt8:=cs.map toByte
def bytesL (s:List UInt8):List AV:=s.map fun b=>.int .u8 b.toNat
def subL (cs:List AV) (o n:Nat):List AV:=(cs.drop o).take n
def repL (n:Nat) (cs:List AV):List AV:=(List.replicate n cs).flatten
def rowA (L:List AV) (k:Nat):List AV:=match L[k]? with | some (.agg cs)=>cs | _=>[]
def putA (L:List AV) (k:Nat) (cs:List AV):List AV:=L.set k (.agg cs)
def fkA (b:Nat) (cs:List AV) (o:Nat):Nat:=match cs[o]? with | some (.slice _ (.rw i) _ _)=>i - b | some (.ptr (.rw i) _)=>i - b | _=>0
def foA (cs:List AV) (o:Nat):Nat:=match cs[o]? with | some (.slice _ (.rw _) f _)=>f | some (.ptr (.rw _) f)=>f | _=>0
def fnA (cs:List AV) (o:Nat):Nat:=match cs[o]? with | some (.slice _ (.rw _) _ n)=>n | _=>0
def isFA (b c:Nat) (cs:List AV) (o:Nat):Bool:=match cs[o]? with | some (.slice true (.rw i) _ _)=>Nat.ble b i&&Nat.blt i (b+c) | _=>false
def isPA (b c:Nat) (cs:List AV) (o:Nat):Bool:=match cs[o]? with | some (.ptr (.rw i) _)=>Nat.ble b i&&Nat.blt i (b+c) | _=>false
def isNilA (cs:List AV) (o:Nat):Bool:=match cs[o]? with | some .nilp=>true | _=>false
open Classical in
noncomputable def rowsA (l:List AV) (ls:List AV):Bool:=decide (∀ v∈ls,v=.agg l)
section
variable (G:Nat→List AV)
mutual
noncomputable def vI:EI→Int
 | .lit n=>n
 | .var _ x=>x
 | .bin o k a b=>binI o k (vI a) (vI b)
 | .conv k a=>k.wrap (vI a)
 | .neg k a=>k.wrap (0 - vI a)
 | .cpl k a=>kNot k (vI a)
 | .ofN n=>(vN n:Int)
 | .mx a b=>if vI b>vI a then vI b else vI a
 | .mn a b=>if vI b<vI a then vI b else vI a
 | .get l o=>getI (vL l) (vN o)
 | .uf _ f as=>f (vVs as)
termination_by structural x=>x
noncomputable def vN:EN→Nat
 | .lit n=>n
 | .var _ x=>x
 | .toN a=>(vI a).toNat
 | .add a b=>vN a+vN b
 | .mul a z=>vN a*z
 | .sub a b=>vN a - vN b
 | .len l=>(vL l).length
 | .slen s=>(vS s).length
 | .rk l o=>roK (vL l) (vN o)
 | .ro l o=>roO (vL l) (vN o)
 | .rn l o=>roN (vL l) (vN o)
 | .fk b l o=>fkA b (vL l) (vN o)
 | .fo l o=>foA (vL l) (vN o)
 | .fn l o=>fnA (vL l) (vN o)
 | .uf _ f as=>f (vVs as)
termination_by structural x=>x
noncomputable def vB:EB→Bool
 | .lit b=>b
 | .var _ x=>x
 | .cmp o a b=>cmpI o (vI a) (vI b)
 | .not b=>!(vB b)
 | .and a b=>vB a&&vB b
 | .eqB a b=>vB a==vB b
 | .eqS a b=>vS a==vS b
 | .isI k l o=>isI k (vL l) (vN o)
 | .isB l o=>isB (vL l) (vN o)
 | .isT l o=>isStr (vL l) (vN o)
 | .isR l o=>isRS (vL l) (vN o)
 | .get l o=>getB (vL l) (vN o)
 | .leN a b=>leB (vN a) (vN b)
 | .eqN a b=>Nat.beq (vN a) (vN b)
 | .leaf l o ls=>leafsOk (vL l) (vN o) ls
 | .u8s l=>u8s (vL l)
 | .cells l=>cellsB (vL l)
 | .isF b c l o=>isFA b c (vL l) (vN o)
 | .isP b c l o=>isPA b c (vL l) (vN o)
 | .isNil l o=>isNilA (vL l) (vN o)
 | .rows l ls=>rowsA (vL l) (vVs ls)
 | .uf _ f as=>f (vVs as)
termination_by structural x=>x
noncomputable def vS:ES→List UInt8
 | .lit s=>s
 | .var _ x=>x
 | .app a b=>vS a++vS b
 | .sub s lo hi=>((vS s).take (vN hi)).drop (vN lo)
 | .get l o=>getStr (vL l) (vN o)
 | .ofL l=>strL (vL l)
 | .uf _ f as=>f (vVs as)
termination_by structural x=>x
noncomputable def vL:EL→List AV
 | .of cs=>vVs cs
 | .var _ x=>x
 | .ro n=>G (vN n)
 | .set l o v=>setPart (vL l) (vN o) (vV v)
 | .app a b=>vL a++vL b
 | .sub l o n=>subL (vL l) (vN o) (vN n)
 | .bytes s=>bytesL (vS s)
 | .rep n l=>repL (vN n) (vL l)
 | .row l k=>rowA (vL l) (vN k)
 | .put l k v=>putA (vL l) (vN k) (vL v)
 | .uf _ f as=>f (vVs as)
termination_by structural x=>x
noncomputable def vV:EV→AV
 | .undef=>.undef
 | .bool b=>.bool (vB b)
 | .int k n=>.int k (vI n)
 | .str s=>.str (vS s)
 | .nilp=>.nilp
 | .ptr r o=>.ptr (vR r) (vN o)
 | .nils=>.nils
 | .slice mb r o n=>.slice mb (vR r) (vN o) (vN n)
 | .nilf=>.nilf
 | .func f cap=>.func f (vVs cap)
 | .agg l=>.agg (vL l)
 | .tup vs=>.tup (vVs vs)
 | .yld i=>.yld i
termination_by structural x=>x
noncomputable def vVs:List EV→List AV
 | []=>[]
 | x::l=>vV x::vVs l
termination_by structural x=>x
noncomputable def vR:ER→Ref
 | .rw i=>.rw i
 | .ro n=>.ro (vN n)
 | .fm b _ k=>.rw (b+vN k)
termination_by structural x=>x
end
end
mutual
def eqI:EI→EI→Bool
 | .lit a,.lit b=>a==b
 | .var j _,.var i _=>Nat.beq j i
 | .bin o k a b,.bin o' k' a' b'=>o==o'&&(k==k'&&(eqI a a'&&eqI b b'))
 | .conv k a,.conv k' a'=>k==k'&&eqI a a'
 | .neg k a,.neg k' a'=>k==k'&&eqI a a'
 | .cpl k a,.cpl k' a'=>k==k'&&eqI a a'
 | .ofN a,.ofN b=>eqN a b
 | .mx a b,.mx a' b'=>eqI a a'&&eqI b b'
 | .mn a b,.mn a' b'=>eqI a a'&&eqI b b'
 | .get l o,.get l' o'=>eqN o o'&&eqL l l'
 | .uf j _ a,.uf j' _ a'=>Nat.beq j j'&&eqVs a a'
 | _,_=>false
termination_by structural x=>x
def eqN:EN→EN→Bool
 | .lit a,.lit b=>Nat.beq a b
 | .var j _,.var i _=>Nat.beq j i
 | .toN a,.toN b=>eqI a b
 | .add a b,.add a' b'=>eqN a a'&&eqN b b'
 | .mul a z,.mul a' z'=>Nat.beq z z'&&eqN a a'
 | .sub a b,.sub a' b'=>eqN a a'&&eqN b b'
 | .len a,.len b=>eqL a b
 | .slen a,.slen b=>eqS a b
 | .rk l o,.rk l' o'=>eqN o o'&&eqL l l'
 | .ro l o,.ro l' o'=>eqN o o'&&eqL l l'
 | .rn l o,.rn l' o'=>eqN o o'&&eqL l l'
 | .fk b l o,.fk b' l' o'=>Nat.beq b b'&&(eqN o o'&&eqL l l')
 | .fo l o,.fo l' o'=>eqN o o'&&eqL l l'
 | .fn l o,.fn l' o'=>eqN o o'&&eqL l l'
 | .uf j _ a,.uf j' _ a'=>Nat.beq j j'&&eqVs a a'
 | _,_=>false
termination_by structural x=>x
def eqB:EB→EB→Bool
 | .lit a,.lit b=>a==b
 | .var j _,.var i _=>Nat.beq j i
 | .cmp o a b,.cmp o' a' b'=>o==o'&&(eqI a a'&&eqI b b')
 | .not a,.not b=>eqB a b
 | .and a b,.and a' b'=>eqB a a'&&eqB b b'
 | .eqB a b,.eqB a' b'=>eqB a a'&&eqB b b'
 | .eqS a b,.eqS a' b'=>eqS a a'&&eqS b b'
 | .isI k l o,.isI k' l' o'=>k==k'&&(eqN o o'&&eqL l l')
 | .isB l o,.isB l' o'=>eqN o o'&&eqL l l'
 | .isT l o,.isT l' o'=>eqN o o'&&eqL l l'
 | .isR l o,.isR l' o'=>eqN o o'&&eqL l l'
 | .get l o,.get l' o'=>eqN o o'&&eqL l l'
 | .leN a b,.leN a' b'=>eqN a a'&&eqN b b'
 | .eqN a b,.eqN a' b'=>eqN a a'&&eqN b b'
 | .leaf l o _,.leaf l' o' _=>eqN o o'&&eqL l l'
 | .u8s l,.u8s l'=>eqL l l'
 | .cells l,.cells l'=>eqL l l'
 | .isF b _ l o,.isF b' _ l' o'=>Nat.beq b b'&&(eqN o o'&&eqL l l')
 | .isP b _ l o,.isP b' _ l' o'=>Nat.beq b b'&&(eqN o o'&&eqL l l')
 | .isNil l o,.isNil l' o'=>eqN o o'&&eqL l l'
 | .rows l ls,.rows l' ls'=>eqL l l'&&eqVs ls ls'
 | .uf j _ a,.uf j' _ a'=>Nat.beq j j'&&eqVs a a'
 | _,_=>false
termination_by structural x=>x
def eqS:ES→ES→Bool
 | .lit a,.lit b=>a==b
 | .var j _,.var i _=>Nat.beq j i
 | .app a b,.app a' b'=>eqS a a'&&eqS b b'
 | .sub s l h,.sub s' l' h'=>eqS s s'&&(eqN l l'&&eqN h h')
 | .get l o,.get l' o'=>eqN o o'&&eqL l l'
 | .ofL l,.ofL l'=>eqL l l'
 | .uf j _ a,.uf j' _ a'=>Nat.beq j j'&&eqVs a a'
 | _,_=>false
termination_by structural x=>x
def eqL:EL→EL→Bool
 | .of a,.of b=>eqVs a b
 | .var j _,.var i _=>Nat.beq j i
 | .ro a,.ro b=>eqN a b
 | .set l o v,.set l' o' v'=>eqN o o'&&(eqV' v v'&&eqL l l')
 | .app a b,.app a' b'=>eqL a a'&&eqL b b'
 | .sub l a b,.sub l' a' b'=>eqL l l'&&(eqN a a'&&eqN b b')
 | .bytes a,.bytes b=>eqS a b
 | .rep n l,.rep n' l'=>eqN n n'&&eqL l l'
 | .row l k,.row l' k'=>eqN k k'&&eqL l l'
 | .put l k v,.put l' k' v'=>eqN k k'&&(eqL v v'&&eqL l l')
 | .uf j _ a,.uf j' _ a'=>Nat.beq j j'&&eqVs a a'
 | _,_=>false
termination_by structural x=>x
def eqV':EV→EV→Bool
 | .undef,.undef=>true
 | .bool a,.bool b=>eqB a b
 | .int k a,.int k' b=>k==k'&&eqI a b
 | .str a,.str b=>eqS a b
 | .nilp,.nilp=>true
 | .ptr r o,.ptr r' o'=>eqR r r'&&eqN o o'
 | .nils,.nils=>true
 | .slice _ r o n,.slice _ r' o' n'=>eqR r r'&&(eqN o o'&&eqN n n')
 | .nilf,.nilf=>true
 | .func f c,.func f' c'=>Nat.beq f f'&&eqVs c c'
 | .agg a,.agg b=>eqL a b
 | .tup a,.tup b=>eqVs a b
 | .yld i,.yld j=>Nat.beq i j
 | _,_=>false
termination_by structural x=>x
def eqVs:List EV→List EV→Bool
 | [],[]=>true
 | x::l,y::m=>eqV' x y&&eqVs l m
 | _,_=>false
termination_by structural x=>x
def eqR:ER→ER→Bool
 | .rw i,.rw j=>Nat.beq i j
 | .ro a,.ro b=>eqN a b
 | .fm b _ k,.fm b' _ k'=>Nat.beq b b'&&eqN k k'
 | _,_=>false
termination_by structural x=>x
end
def mkAnd (a b:EB):EB:=
 match a with
 | .lit true=>b
 | .lit false=>.lit false
 | a=>match b with
  | .lit true=>a
  | .lit false=>.lit false
  | b=>.and a b
def mkNot:EB→EB
 | .lit b=>.lit (!b)
 | .not b=>b
 | b=>.not b
def mkEqB (a b:EB):EB:=
 match a,b with
 | .lit true,b=>b
 | .lit false,b=>mkNot b
 | a,.lit true=>a
 | a,.lit false=>mkNot a
 | a,b=>.eqB a b
def mkCmp (o:BinOp) (a b:EI):EB:=
 match a,b with
 | .lit x,.lit y=>.lit (cmpI o x y)
 | a,b=>.cmp o a b
def mkBin (o:BinOp) (k:IntKind) (a b:EI):EI:=
 match a,b with
 | .lit x,.lit y=>.lit (binI o k x y)
 | a,b=>.bin o k a b
def mkConv (k:IntKind):EI→EI
 | .lit x=>.lit (k.wrap x)
 | a=>.conv k a
def mkNeg (k:IntKind):EI→EI
 | .lit x=>.lit (k.wrap (0 - x))
 | a=>.neg k a
def mkCpl (k:IntKind):EI→EI
 | .lit x=>.lit (kNot k x)
 | a=>.cpl k a
def mkOfN:EN→EI
 | .lit n=>.lit n
 | n=>.ofN n
def mkToN:EI→EN
 | .lit n=>.lit n.toNat
 | .ofN n=>n
 | a=>.toN a
def mkAdd (a b:EN):EN:=
 match a,b with
 | .lit x,.lit y=>.lit (x+y)
 | a,.lit 0=>a
 | .lit 0,b=>b
 | .add a (.lit x),.lit y=>.add a (.lit (x+y))
 | a,b=>.add a b
def mkMul (a:EN) (z:Nat):EN:=
 match z with
 | 1=>a
 | z=>match a with
  | .lit x=>.lit (x*z)
  | a=>.mul a z
def mkSub (a b:EN):EN:=
 match a,b with
 | .lit x,.lit y=>.lit (x - y)
 | a,.lit 0=>a
 | a,b=>.sub a b
def mkLe (a b:EN):EB:=
 match a,b with
 | .lit x,.lit y=>.lit (Nat.ble x y)
 | .lit 0,_=>.lit true
 | a,b=>.leN a b
def mkEqN (a b:EN):EB:=
 match a,b with
 | .lit x,.lit y=>.lit (Nat.beq x y)
 | a,b=>.eqN a b
def mkEqS (a b:ES):EB:=
 match a,b with
 | .lit x,.lit y=>.lit (x==y)
 | a,b=>.eqS a b
def mkApp (a b:ES):ES:=
 match a,b with
 | .lit x,.lit y=>.lit (x++y)
 | .lit [],b=>b
 | a,.lit []=>a
 | a,b=>.app a b
def mkLen:EL→EN
 | .of cs=>.lit cs.length
 | .bytes s=>.slen s
 | .sub l o n=>.len (.sub l o n)
 | l=>.len l
def isAggV:EV→Bool
 | .agg _=>true
 | _=>false
def mkSet (l:EL) (o:EN) (v:EV):EL:=
 match l,o with
 | .of cs,.lit n=>match v with
  | .agg (.of ds)=>.of (cs.take n++(ds++cs.drop (n+ds.length)))
  | .agg d=>.set (.of cs) (.lit n) (.agg d)
  | v=>.of (cs.set n v)
 | l,o=>.set l o v
def mkSubL (l:EL) (o n:EN):EL:=
 match l,o,n with
 | .of cs,.lit a,.lit b=>.of ((cs.drop a).take b)
 | l,o,n=>.sub l o n
def mkAppL (a b:EL):EL:=
 match a,b with
 | .of cs,.of ds=>.of (cs++ds)
 | .of [],b=>b
 | a,.of []=>a
 | a,b=>.app a b
def mkBytes:ES→EL
 | .lit s=>.of (s.map fun b=>.int .u8 (.lit b.toNat))
 | s=>.bytes s
def mkRep (n:EN) (l:EL):EL:=
 match n,l with
 | .lit k,.of cs=>.of ((List.replicate k cs).flatten)
 | n,l=>.rep n l
def litN:EN→Option Nat
 | .lit n=>some n
 | _=>none
def rdAny:EL→Nat→Option (EB×EV)
 | .of cs,n=>match cs[n]? with
  | some v=>some (.lit true,v)
  | none=>none
 | .set l o v,n=>match litN o,isAggV v with
  | some m,false=>match Nat.beq m n with
   | true=>some (mkLe (.lit (n+1)) (mkLen l),v)
   | false=>rdAny l n
  | _,_=>none
 | _,_=>none
def rdI (k:IntKind) (l:EL) (o:EN):Option (EB×EI):=
 match litN o with
 | some n=>match rdAny l n with
  | some (c,.int k' e)=>if k=k' then some (c,e) else none
  | some _=>none
  | none=>some (.isI k l o,.get l o)
 | none=>some (.isI k l o,.get l o)
def rdB (l:EL) (o:EN):Option (EB×EB):=
 match litN o with
 | some n=>match rdAny l n with
  | some (c,.bool e)=>some (c,e)
  | some _=>none
  | none=>some (.isB l o,.get l o)
 | none=>some (.isB l o,.get l o)
end Go.Am
namespace Go.Am
structure DBlk where
 esz:Nat
 cells:EL
abbrev DHp:=List (Option DBlk)
abbrev DFr:=List EV
noncomputable def getF0 (F:DFr) (n:Nat):EV:=
 List.rec (motive:=fun _=>Nat→EV) (fun _=>.undef) (fun x _ ih n=>Nat.rec (motive:=fun _=>EV) x (fun m _=>ih m) n) F n
noncomputable def setF0 (F:DFr) (n:Nat) (v:EV):DFr:=
 List.rec (motive:=fun _=>Nat→DFr) (fun _=>[]) (fun x xs ih n=>Nat.rec (motive:=fun _=>DFr) (v::xs) (fun m _=>x::ih m) n) F n
theorem getF0_eq:∀ (F:DFr) (n:Nat),getF0 F n=F.getD n .undef
 | [],n=>rfl
 | x::F,0=>rfl
 | x::F,n+1=>by
  have:=getF0_eq F n
  show getF0 F n=_
  rw [this];rfl
theorem setF0_eq:∀ (F:DFr) (n:Nat) (v:EV),setF0 F n v=F.set n v
 | [],n,v=>rfl
 | x::F,0,v=>rfl
 | x::F,n+1,v=>by
  have:=setF0_eq F n v
  show x::setF0 F n v=_
  rw [this];rfl
structure Facts where
 n:Nat
 l:List (EB×Bool)
inductive T
 | fail
 | chk (b:EB) (t:T)
 | tst (b:EB) (x y:T)
 | imp (b:EB) (t:T)
 | allI (j:Nat) (k:Int→T)
 | allN (j:Nat) (k:Nat→T)
 | allB (j:Nat) (k:Bool→T)
 | allL (j:Nat) (k:List AV→T)
 | namI (j:Nat) (e:EI) (k:Int→T)
 | namN (j:Nat) (e:EN) (k:Nat→T)
 | namB (j:Nat) (e:EB) (k:Bool→T)
 | namL (j:Nat) (e:EL) (k:List AV→T)
 | leaf (e:Ex) (F:List EV) (H:DHp)
 | ret (v:EV) (H:DHp)
inductive DHop
 | set (i:Nat) (b:DBlk)
 | new (b:DBlk)
 | app (j:Nat) (b:DBlk)
def DHop.act (H:DHp):DHop→DHp
 | .set i b=>H.set i (some b)
 | .new b=>H++[some b]
 | .app j b=>H.set j none++[some b]
def dacts (H:DHp):List DHop→DHp
 | []=>H
 | h::hs=>dacts (h.act H) hs
inductive Outs
 | one (v:EV) (hs:List DHop)
 | chk (b:EB) (x:Outs)
 | tst (b:EB) (x y:Outs)
 | namI (e:EI) (k:EI→Outs)
 | namN (e:EN) (k:EN→Outs)
 | namB (e:EB) (k:EB→Outs)
 | namL (e:EL) (k:EL→Outs)
inductive LOut
 | one (e:Ex) (F:DFr) (H:DHp)
 | chk (b:EB) (x:LOut)
 | tst (b:EB) (x y:LOut)
 | imp (b:EB) (x:LOut)
 | allI (k:EI→LOut)
 | allN (k:EN→LOut)
 | allB (k:EB→LOut)
 | allL (k:EL→LOut)
 | namI (e:EI) (k:EI→LOut)
 | namN (e:EN) (k:EN→LOut)
 | namB (e:EB) (k:EB→LOut)
 | namL (e:EL) (k:EL→LOut)
def nf:EB→EB×Bool
 | .not b=>match nf b with | (b,s)=>(b,!s)
 | .cmp .neq a b=>(.cmp .eql a b,false)
 | .cmp .geq a b=>(.cmp .lss a b,false)
 | .cmp .gtr a b=>(.cmp .lss b a,true)
 | .cmp .leq a b=>(.cmp .lss b a,false)
 | b=>(b,true)
def look (b:EB):List (EB×Bool)→Option Bool
 | []=>none
 | (c,v)::fs=>match eqB b c with
  | true=>some v
  | false=>look b fs
def maxO:Option Int→Int→Option Int
 | none,b=>some b
 | some a,b=>some (if a<b then b else a)
def minO:Option Int→Int→Option Int
 | none,b=>some b
 | some a,b=>some (if b<a then b else a)
def range (a:EI):List (EB×Bool)→Option Int×Option Int
 | []=>match a with
  | .ofN _=>(some 0,none)
  | _=>(none,none)
 | (.cmp .eql b (.lit m),true)::fs=>match eqI a b with
  | true=>(some m,some m)
  | false=>range a fs
 | (.cmp .lss b (.lit m),v)::fs=>match eqI a b,v,range a fs with
  | true,true,(lo,hi)=>(lo,minO hi (m - 1))
  | true,false,(lo,hi)=>(maxO lo m,hi)
  | _,_,r=>r
 | (.cmp .lss (.lit m) b,v)::fs=>match eqI a b,v,range a fs with
  | true,true,(lo,hi)=>(maxO lo (m+1),hi)
  | true,false,(lo,hi)=>(lo,minO hi m)
  | _,_,r=>r
 | _::fs=>range a fs
def decR (o:BinOp) (r:Option Int×Option Int) (s:Option Int×Option Int):Option Bool:=
 match o with
 | .lss=>match r,s with
  | (lo,hi),(lo',hi')=>match hi,lo' with
   | some a,some b=>match decide (a<b),lo,hi' with
    | true,_,_=>some true
    | false,some c,some d=>if d≤c then some false else none
    | false,_,_=>none
   | _,_=>match lo,hi' with
    | some c,some d=>if d≤c then some false else none
    | _,_=>none
 | .eql=>match r,s with
  | (lo,hi),(lo',hi')=>match (match hi,lo' with | some a,some b=>decide (a<b) | _,_=>false)||(match hi',lo with | some a,some b=>decide (a<b) | _,_=>false) with
   | true=>some false
   | false=>match lo,hi,lo',hi' with
    | some a,some b,some c,some d=>if a=b∧c=d∧a=c then some true else none
    | _,_,_,_=>none
 | _=>none
def rangeOf (fs:List (EB×Bool)):EI→Option Int×Option Int
 | .lit n=>(some n,some n)
 | a=>range a fs
def decN (fs:List (EB×Bool)) (b:EB):Option Bool:=
 match look b fs with
 | some v=>some v
 | none=>match b with
  | .cmp .eql x y=>match eqI x y with
   | true=>some true
   | false=>decR .eql (rangeOf fs x) (rangeOf fs y)
  | .cmp .lss x y=>match eqI x y with
   | true=>some false
   | false=>decR .lss (rangeOf fs x) (rangeOf fs y)
  | .eqS x y=>match eqS x y with
   | true=>some true
   | false=>none
  | .leN x y=>match eqN x y with
   | true=>some true
   | false=>none
  | .eqN x y=>match eqN x y with
   | true=>some true
   | false=>none
  | _=>none
def dec (fs:Facts) (b:EB):Option Bool:=
 match nf b with
 | (b,s)=>match decN fs.l b with
  | some v=>some (v==s)
  | none=>none
def learn (fs:Facts) (b:EB) (v:Bool):Facts:=
 match nf b with
 | (b,s)=>⟨fs.n,(b,v==s)::fs.l⟩
def fresh (fs:Facts):Facts:=⟨fs.n+1,fs.l⟩
def chkT (b:EB) (t:T):T:=
 match b with
 | .lit true=>t
 | .lit false=>.fail
 | .and a b=>chkT a (chkT b t)
 | b=>.chk b t
def tstT (fs:Facts) (b:EB) (x y:Facts→T):T:=
 match b with
 | .lit true=>x fs
 | .lit false=>y fs
 | .not b=>tstT fs b y x
 | .and a b=>tstT fs a (fun fs=>tstT fs b x y) y
 | .eqB a b=>tstT fs a (fun fs=>tstT fs b x y) (fun fs=>tstT fs b y x)
 | b=>match dec fs b with
  | some true=>.chk b (x fs)
  | some false=>.chk (.not b) (y fs)
  | none=>.tst b (x (learn fs b true)) (y (learn fs b false))
def opT (o:Option (EB×EV)) (k:EV→T):T:=match o with | some (c,v)=>chkT c (k v) | none=>.fail
def dCell:Value→EV
 | .bool b=>.bool (.lit b)
 | .int k n=>.int k (.lit n)
 | .string s=>.str (.lit s.data.toList)
 | .pointer none=>.nilp
 | .slice none 0 0=>.nils
 | .nilFunc=>.nilf
 | _=>.undef
def dVal:Value→EV
 | .agg cs=>.agg (.of (cs.toList.map dCell))
 | v=>dCell v
noncomputable def evD (F:DFr):Operand→EV
 | .tmp t=>getF0 F t
 | .const v=>dVal v
 | .global _=>.undef
 | .func f=>.func f []
def binIntD (op:BinOp) (k:IntKind) (x y:EI):Option (EB×EV):=
 match op with
 | .add=>some (.lit true,.int k (mkBin .add k x y))
 | .sub=>some (.lit true,.int k (mkBin .sub k x y))
 | .mul=>some (.lit true,.int k (mkBin .mul k x y))
 | .quo=>some (mkNot (mkCmp .eql y (.lit 0)),.int k (mkBin .quo k x y))
 | .rem=>some (mkNot (mkCmp .eql y (.lit 0)),.int k (mkBin .rem k x y))
 | .and=>some (.lit true,.int k (mkBin .and k x y))
 | .or=>some (.lit true,.int k (mkBin .or k x y))
 | .xor=>some (.lit true,.int k (mkBin .xor k x y))
 | .andNot=>some (.lit true,.int k (mkBin .andNot k x y))
 | .eql=>some (.lit true,.bool (mkCmp .eql x y))
 | .neq=>some (.lit true,.bool (mkNot (mkCmp .eql x y)))
 | .lss=>some (.lit true,.bool (mkCmp .lss x y))
 | .leq=>some (.lit true,.bool (mkCmp .leq x y))
 | .gtr=>some (.lit true,.bool (mkCmp .gtr x y))
 | .geq=>some (.lit true,.bool (mkCmp .geq x y))
 | _=>none
def binShiftD (op:BinOp) (k:IntKind) (x y:EI):Option (EB×EV):=
 match op with
 | .shl=>some (mkCmp .leq (.lit 0) y,.int k (mkBin .shl k x y))
 | .shr=>some (mkCmp .leq (.lit 0) y,.int k (mkBin .shr k x y))
 | _=>none
def slenD:ES→EN
 | .lit s=>.lit s.length
 | s=>.slen s
def binStrD (op:BinOp) (x y:ES):Option (EB×EV):=
 match op with
 | .add=>some (mkLe (mkAdd (slenD x) (slenD y)) (.lit 9223372036854775807),.str (mkApp x y))
 | .eql=>some (.lit true,.bool (mkEqS x y))
 | .neq=>some (.lit true,.bool (mkNot (mkEqS x y)))
 | _=>none
def eqOpD (op:BinOp) (c:Bool) (b:EB):Option (EB×EV):=
 match op with
 | .eql=>some (.lit c,.bool b)
 | .neq=>some (.lit c,.bool (mkNot b))
 | _=>none
def partD (P:Program) (t:TypeId) (l:EL) (o:EN):Option (EB×EV):=
 match P.underlying t with
 | some (.int k)=>match rdI k l o with
  | some (c,e)=>some (c,.int k e)
  | none=>none
 | some .bool=>match rdB l o with
  | some (c,e)=>some (c,.bool e)
  | none=>none
 | some (.struct _)=>match sizeT P t with
  | some z=>some (mkLe (mkAdd o (.lit z)) (mkLen l),.agg (mkSubL l o (.lit z)))
  | none=>none
 | some (.array _ _)=>match sizeT P t with
  | some z=>some (mkLe (mkAdd o (.lit z)) (mkLen l),.agg (mkSubL l o (.lit z)))
  | none=>none
 | some _=>match litN o with
  | some n=>rdAny l n
  | none=>none
 | none=>none
def eqFsD (P:Program) (rec:TypeId→EV→EV→Option (EB×EB)) (xs ys:EL):List Field→Option (EB×EB)
 | []=>some (.lit true,.lit true)
 | f::fs=>
  if f.name ≠ "_" then
   match partD P f.type xs (.lit f.offset),partD P f.type ys (.lit f.offset) with
   | some (c1,a),some (c2,b)=>
    match rec f.type a b,eqFsD P rec xs ys fs with
    | some (c3,r),some (c4,s)=>some (mkAnd c1 (mkAnd c2 (mkAnd c3 c4)),mkAnd r s)
    | _,_=>none
   | _,_=>none
  else eqFsD P rec xs ys fs
def eqIsD (P:Program) (rec:TypeId→EV→EV→Option (EB×EB)) (e:TypeId) (z:Nat) (xs ys:EL):List Nat→Option (EB×EB)
 | []=>some (.lit true,.lit true)
 | i::is=>
   match partD P e xs (.lit (i*z)),partD P e ys (.lit (i*z)) with
   | some (c1,a),some (c2,b)=>
    match rec e a b,eqIsD P rec e z xs ys is with
    | some (c3,r),some (c4,s)=>some (mkAnd c1 (mkAnd c2 (mkAnd c3 c4)),mkAnd r s)
    | _,_=>none
   | _,_=>none
def eqVD (P:Program):Nat→TypeId→EV→EV→Option (EB×EB)
 | 0,_,_,_=>none
 | n+1,t,x,y=>
  match P.underlying t with
  | some (.int _)=>match x,y with
   | .int k a,.int k' b=>if k=k' then some (.lit true,mkCmp .eql a b) else none
   | _,_=>none
  | some .bool=>match x,y with
   | .bool a,.bool b=>some (.lit true,mkEqB a b)
   | _,_=>none
  | some .string=>match x,y with
   | .str a,.str b=>some (.lit true,mkEqS a b)
   | _,_=>none
  | some (.struct fs)=>match x,y with
   | .agg xs,.agg ys=>match P.stoodInHeld t with
    | true=>none
    | false=>eqFsD P (eqVD P n) xs ys fs.toList
   | _,_=>none
  | some (.array m e)=>match x,y with
   | .agg xs,.agg ys=>match sizeT P e with
    | some z=>eqIsD P (eqVD P n) e z xs ys (List.range m)
    | none=>none
   | _,_=>none
  | _=>none
def eqA1 (P:Program) (t:TypeId) (as:List AV):Bool:=match as with
 | [x,y]=>match eqV P 10 t x y with
  | some (c,_)=>c
  | none=>false
 | _=>false
def eqA2 (P:Program) (t:TypeId) (as:List AV):Bool:=match as with
 | [x,y]=>match eqV P 10 t x y with
  | some (_,b)=>b
  | none=>false
 | _=>false
def isOf:EL→Bool
 | .of _=>true
 | _=>false
def eqAD (P:Program) (t:TypeId) (xs ys:EL):Option (EB×EB):=
 match isOf xs||isOf ys||(match sizeT P t with | some z=>Nat.ble z 8 | none=>false) with
 | true=>eqVD P 10 t (.agg xs) (.agg ys)
 | false=>some (.uf (100000+t) (eqA1 P t) [.agg xs,.agg ys],.uf (200000+t) (eqA2 P t) [.agg xs,.agg ys])
def binD (P:Program) (op:BinOp) (t:TypeId) (x y:EV):Option (EB×EV):=
 match x,y with
 | .int k a,.int k' b=>
  match op with
  | .shl | .shr=>binShiftD op k a b
  | _=>if k=k' then binIntD op k a b else none
 | .str a,.str b=>binStrD op a b
 | .bool a,.bool b=>eqOpD op (isBoolT (P.underlying t)) (mkEqB a b)
 | .ptr _ _,.nilp=>eqOpD op (isPtrT (P.underlying t)) (.lit false)
 | .nilp,.ptr _ _=>eqOpD op (isPtrT (P.underlying t)) (.lit false)
 | .nilp,.nilp=>eqOpD op (isPtrT (P.underlying t)) (.lit true)
 | .slice false _ _ _,.nils=>eqOpD op (isSliceT (P.underlying t)) (.lit false)
 | .nils,.nils=>eqOpD op (isSliceT (P.underlying t)) (.lit true)
 | .func _ _,.nilf=>eqOpD op (isFuncT (P.underlying t)) (.lit false)
 | .nilf,.nilf=>eqOpD op (isFuncT (P.underlying t)) (.lit true)
 | .agg xs,.agg ys=>
  match P.eqGuardType P.depth t with
  | true=>none
  | false=>match eqAD P t xs ys with
   | some (c,b)=>match op with
    | .eql=>some (c,.bool b)
    | .neq=>some (c,.bool (mkNot b))
    | _=>none
   | none=>none
 | _,_=>none
def unD (op:UnOp) (x:EV):Option (EB×EV):=
 match op,x with
 | .neg,.int k n=>some (.lit true,.int k (mkNeg k n))
 | .xor,.int k n=>some (.lit true,.int k (mkCpl k n))
 | .not,.bool b=>some (.lit true,.bool (mkNot b))
 | _,_=>none
def convD (P:Program) (src dst:TypeId) (x:EV):Option (EB×EV):=
 match P.underlying src,P.underlying dst,x with
 | some _,some (.int k),.int _ n=>some (.lit true,.int k (mkConv k n))
 | some _,some .string,.str s=>some (.lit true,.str s)
 | _,_,_=>none
def fieldD (P:Program) (s:TypeId) (x:EV) (f:Nat):Option (EB×EV):=
 match P.underlying s,x with
 | some (.struct fs),.ptr r off=>
  match fs[f]? with
  | some fd=>
   match sizeT P fd.type with
   | some 0=>none
   | some _=>some (.lit true,.ptr r (mkAdd off (.lit fd.offset)))
   | none=>none
  | none=>none
 | _,_=>none
def indexD (P:Program) (t:TypeId) (x i:EV):Option (EB×EV):=
 match i with
 | .int _ i=>
  match P.underlying t,x with
  | some (.array len e),.ptr r off=>
   match sizeT P e with
   | some z=>some (mkAnd (mkCmp .leq (.lit 0) i) (mkCmp .lss i (.lit len)),.ptr r (mkAdd (mkMul (mkToN i) z) off))
   | none=>none
  | some (.slice e),.slice _ r off len=>
   match sizeT P e with
   | some z=>some (mkAnd (mkCmp .leq (.lit 0) i) (mkCmp .lss i (mkOfN len)),.ptr r (mkAdd (mkMul (mkToN i) z) off))
   | none=>none
  | _,_=>none
 | _=>none
def boundD (x:Option EV) (d:EI):Option EI:=
 match x with
 | none=>some d
 | some (.int _ i)=>some i
 | some _=>none
def sliceD (P:Program) (t:TypeId) (x:EV) (lo hi:Option EV):Option (EB×EV):=
 match P.underlying t,x with
 | some (.slice e),.slice mb r off len=>
  match sizeT P e,boundD lo (.lit 0),boundD hi (mkOfN len) with
  | some z,some l,some h=>some (mkAnd (mkCmp .leq (.lit 0) l) (mkAnd (mkCmp .leq l h) (mkCmp .leq h (mkOfN len))),.slice mb r (mkAdd (mkMul (mkToN l) z) off) (mkSub (mkToN h) (mkToN l)))
  | _,_,_=>none
 | some (.slice e),.nils=>
  match sizeT P e,boundD lo (.lit 0),boundD hi (.lit 0) with
  | some _,some l,some h=>some (mkAnd (mkCmp .leq (.lit 0) l) (mkAnd (mkCmp .leq l h) (mkCmp .leq h (.lit 0))),.nils)
  | _,_,_=>none
 | some .string,.str s=>
  match boundD lo (.lit 0),boundD hi (mkOfN (slenD s)) with
  | some l,some h=>some (mkAnd (mkCmp .leq (.lit 0) l) (mkAnd (mkCmp .leq l h) (mkCmp .leq h (mkOfN (slenD s)))),.str (.sub s (mkToN l) (mkToN h)))
  | _,_=>none
 | _,_=>none
def cellsOfD:EV→EL
 | .agg cs=>cs
 | v=>.of [v]
def knownD:EV→Bool
 | .undef=>false
 | _=>true
def isCellD:EV→Bool
 | .undef | .agg _ | .tup _=>false
 | _=>true
def allCellD:EL→EB
 | .of cs=>.lit (cs.all isCellD)
 | .sub l o n=>.cells (.sub l o n)
 | l=>.cells l
def goodCellsD (v:EV):EB:=
 match v with
 | .agg l=>allCellD l
 | v=>.lit (isCellD v)
def sizeIsD (v:EV) (z:Nat):EB:=
 match v with
 | .agg l=>mkEqN (mkLen l) (.lit z)
 | _=>.lit (Nat.beq 1 z)
def fillD (place:Nat→Option (Nat×Nat)) (cells:EL):List (Nat×EV)→Option (EB×EL)
 | []=>some (.lit true,cells)
 | (i,v)::rest=>
  match place i with
  | none=>none
  | some (off,size)=>
   match fillD place (mkSet cells (.lit off) v) rest with
   | none=>none
   | some (c,r)=>match knownD v with
    | true=>some (mkAnd (sizeIsD v size) (mkAnd (mkLe (.lit (off+size)) (mkLen cells)) c),r)
    | false=>none
def zeroD (P:Program) (t:TypeId):Option EV:=
 match P.info? t with
 | some i=>match i.zero with
  | some z=>some (dVal z)
  | none=>none
 | none=>none
def buildD (P:Program) (t:TypeId) (parts:List (Nat×EV)):Option (EB×EV):=
 match P.underlying t,zeroD P t with
 | some (.struct fs),some (.agg z)=>
  match placesOf P fs.toList with
  | some ps=>
   match fillD (fun i=>ps[i]?) z parts with
   | some (c,cs)=>some (c,.agg cs)
   | none=>none
  | none=>none
 | some (.array _ e),some (.agg z)=>
  match sizeT P e with
  | some n=>
   match fillD (fun i=>some (i*n,n)) z parts with
   | some (c,cs)=>some (c,.agg cs)
   | none=>none
  | none=>none
 | _,_=>none
def lenD (P:Program) (t:TypeId) (x:EV):Option (EB×EV):=
 match P.underlying t,x with
 | some .string,.str s=>some (.lit true,.int .i64 (mkOfN (slenD s)))
 | some (.array n _),_=>some (.lit true,.int .i64 (.lit n))
 | some (.slice _),.slice _ _ _ n=>some (.lit true,.int .i64 (mkOfN n))
 | some (.slice _),.nils=>some (.lit true,.int .i64 (.lit 0))
 | _,_=>none
def capD (P:Program) (t:TypeId) (x:EV):Option (EB×EV):=
 match P.underlying t,x with
 | some (.slice _),.nils=>some (.lit true,.int .i64 (.lit 0))
 | _,_=>none
def maxD (x y:EV):Option (EB×EV):=
 match x,y with
 | .int k a,.int k' b=>if k=k' then some (.lit true,.int k (.mx a b)) else none
 | _,_=>none
def minD (x y:EV):Option (EB×EV):=
 match x,y with
 | .int k a,.int k' b=>if k=k' then some (.lit true,.int k (.mn a b)) else none
 | _,_=>none
def pickD (c a b:EV):Option (EB×EV):=
 match c with
 | .bool (.lit true)=>some (.lit true,a)
 | .bool (.lit false)=>some (.lit true,b)
 | _=>none
def nilCheckD (x:EV):Option (EB×EV):=
 match x with
 | .ptr r o=>some (.lit true,.ptr r o)
 | .func f c=>some (.lit true,.func f c)
 | .slice m r o n=>some (.lit true,.slice m r o n)
 | _=>none
noncomputable def pureD (P:Program) (F:DFr) (op:Op):Option (EB×EV):=
 match op with
 | .move x=>some (.lit true,evD F x)
 | .assign x=>some (.lit true,evD F x)
 | .pick c a b=>pickD (evD F c) (evD F a) (evD F b)
 | .nilCheck x=>nilCheckD (evD F x)
 | .binOp op t x y _=>binD P op t (evD F x) (evD F y)
 | .unOp op _ x=>unD op (evD F x)
 | .convert s d x=>convD P s d (evD F x)
 | .fieldAddr s x f=>fieldD P s (evD F x) f
 | .indexAddr t x i=>indexD P t (evD F x) (evD F i)
 | .slice t x lo hi none=>sliceD P t (evD F x) (lo.map (evD F)) (hi.map (evD F))
 | .build t parts=>buildD P t (parts.toList.map fun p=>(p.1,evD F p.2))
 | .extract x i=>match evD F x with
  | .tup vs=>match vs[i]? with
   | some v=>some (.lit true,v)
   | none=>none
  | _=>none
 | .makeFunc (.func f) first cap=>if first.size=0 then some (.lit true,.func f (cap.toList.map (evD F))) else none
 | .call { callee:=.builtin .len,args,argTypes }=>
  match args.toList,argTypes.toList with
  | [x],[t]=>lenD P t (evD F x)
  | _,_=>none
 | .call { callee:=.builtin .cap,args,argTypes }=>
  match args.toList,argTypes.toList with
  | [x],[t]=>capD P t (evD F x)
  | _,_=>none
 | .call { callee:=.builtin .max,args,.. }=>
  match args.toList with
  | [x,y]=>maxD (evD F x) (evD F y)
  | _=>none
 | .call { callee:=.builtin .min,args,.. }=>
  match args.toList with
  | [x,y]=>minD (evD F x) (evD F y)
  | _=>none
 | _=>none
def isRecD (b:DBlk):Bool:=Nat.beq b.esz 4294967291
def famRows (z:Nat):Nat→DHp→Nat→Option (List EV)
 | _,_,0=>some []
 | j,some ⟨z',.row l (.lit i)⟩::H,n+1=>match Nat.beq z z'&&Nat.beq i j with
  | true=>match famRows z (j+1) H n with
   | some ls=>some (.agg l::ls)
   | none=>none
  | false=>none
 | _,_,_+1=>none
def famAt (H:DHp) (b c:Nat):Option (Nat×EL×List EV):=
 match H.drop b with
 | some ⟨z,.row l (.lit _)⟩::_=>match Nat.beq z 4294967291 with
  | true=>none
  | false=>match famRows z 0 (H.drop b) c with
   | some ls=>some (z,l,ls)
   | none=>none
 | _=>none
def famSets (b c z:Nat) (l:EL):List DHop:=(List.range c).map fun j=>.set (b+j) ⟨z,.row l (.lit j)⟩
def cellsAtD (H:DHp):ER→Option (EB×EL)
 | .rw i=>match H[i]? with
  | some (some b)=>match isRecD b with
   | true=>none
   | false=>some (.lit true,b.cells)
  | _=>none
 | .ro n=>some (.lit true,.ro n)
 | .fm b c k=>match famAt H b c with
  | some (_,l,ls)=>some (mkAnd (mkLe (mkAdd k (.lit 1)) (.lit c)) (.rows l ls),.row l k)
  | none=>none
def leafD (l:Lf) (cs:EL) (off:EN):EV:=
 match l with
 | .int k=>.int k (.get cs off)
 | .bool=>.bool (.get cs off)
 | .str=>.str (.get cs off)
 | .sl=>.slice true (.ro (.rk cs off)) (.ro cs off) (.rn cs off)
def leafsD (cs:EL):EN→List Lf→List EV
 | _,[]=>[]
 | off,l::ls=>leafD l cs off::leafsD cs (mkAdd off (.lit 1)) ls
def partRD (P:Program) (t:TypeId) (cs:EL) (off:EN):Option (EB×EV):=
 match P.underlying t with
 | some (.int k)=>some (.isI k cs off,.int k (.get cs off))
 | some .bool=>some (.isB cs off,.bool (.get cs off))
 | some .string=>some (.isT cs off,.str (.get cs off))
 | some (.slice _)=>some (.isR cs off,.slice true (.ro (.rk cs off)) (.ro cs off) (.rn cs off))
 | some (.struct _)=>match sizeT P t,leafs P 10 t with
  | some z,some ls=>match Nat.beq ls.length z with
   | true=>some (.leaf cs off ls,.agg (.of (leafsD cs off ls)))
   | false=>none
  | _,_=>none
 | some (.array _ _)=>match sizeT P t,leafs P 10 t with
  | some z,some ls=>match Nat.beq ls.length z with
   | true=>some (.leaf cs off ls,.agg (.of (leafsD cs off ls)))
   | false=>none
  | _,_=>none
 | _=>none
def partLD (P:Program) (r:ER) (t:TypeId) (cs:EL) (off:EN):Option (EB×EV):=
 match r with
 | .rw _=>partD P t cs off
 | .ro _=>partRD P t cs off
 | .fm _ _ _=>partD P t cs off
def loadD (P:Program) (H:DHp) (t:TypeId) (r:ER) (off:EN):Option (EB×EV):=
 match cellsAtD H r with
 | some (c0,cs)=>match partLD P r t cs off with
  | some (c,v)=>some (mkAnd c0 c,v)
  | none=>none
 | none=>none
inductive FL where
 | int (k:IntKind)
 | bool
 | sl (b c:Nat)
def famFs (rec:TypeId→Option (List FL)):Nat→List Field→Option (List FL)
 | _,[]=>some []
 | acc,f::fs=>
  match Nat.beq f.offset acc with
  | true=>match rec f.type with
   | some a=>match famFs rec (acc+a.length) fs with
    | some b=>some (a++b)
    | none=>none
   | none=>none
  | false=>none
def famLs (P:Program) (fam:TypeId→Option (Nat×Nat)):Nat→TypeId→Option (List FL)
 | 0,_=>none
 | n+1,t=>
  match P.underlying t with
  | some (.int k)=>some [.int k]
  | some .bool=>some [.bool]
  | some (.slice _)=>match fam t with
   | some (b,c)=>some [.sl b c]
   | none=>none
  | some (.struct fs)=>famFs (famLs P fam n) 0 fs.toList
  | _=>none
def famL1 (l:EL) (o:EN):FL→EV
 | .int k=>.int k (.get l o)
 | .bool=>.bool (.get l o)
 | .sl b c=>.slice true (.fm b c (.fk b l o)) (.fo l o) (.fn l o)
def famO1 (l:EL) (o:EN):FL→EB
 | .int k=>.isI k l o
 | .bool=>.isB l o
 | .sl b c=>.isF b c l o
def famLV (l:EL):EN→List FL→List EV
 | _,[]=>[]
 | o,f::fs=>famL1 l o f::famLV l (mkAdd o (.lit 1)) fs
def famLO (l:EL):EN→List FL→EB
 | _,[]=>.lit true
 | o,f::fs=>mkAnd (famO1 l o f) (famLO l (mkAdd o (.lit 1)) fs)
inductive FamR where
 | val (c:EB) (v:EV)
 | ptr (n c:EB) (v:EV)
def famP (fam:TypeId→Option (Nat×Nat)) (P:Program) (t:TypeId) (cs:EL) (off:EN):Option FamR:=
 match fam t with
 | none=>none
 | some (b,c)=>match P.underlying t with
  | some (.struct _)=>match isOf cs with
   | true=>none
   | false=>match sizeT P t,famLs P fam 10 t with
    | some z,some ls=>match Nat.beq ls.length z&&Nat.ble 1 z with
     | true=>some (.val (famLO cs off ls) (.agg (.of (famLV cs off ls))))
     | false=>none
    | _,_=>none
  | some (.slice _)=>match partD P t cs off with
   | some _=>none
   | none=>some (.val (.isF b c cs off) (.slice true (.fm b c (.fk b cs off)) (.fo cs off) (.fn cs off)))
  | some (.pointer _)=>match partD P t cs off with
   | some _=>none
   | none=>some (.ptr (.isNil cs off) (.isP b c cs off) (.ptr (.fm b c (.fk b cs off)) (.fo cs off)))
  | _=>none
noncomputable def famD (fam:TypeId→Option (Nat×Nat)) (P:Program) (F:DFr) (H:DHp) (op:Op):Option (EB×FamR):=
 match op with
 | .load t a=>match evD F a with
  | .ptr r off=>match r with
   | .ro _=>none
   | r=>match cellsAtD H r with
    | some (c0,cs)=>match famP fam P t cs off with
     | some x=>some (c0,x)
     | none=>none
    | none=>none
  | _=>none
 | .field t x f=>
  match P.underlying t,evD F x with
  | some (.struct fs),.agg cs=>match fs[f]? with
   | some fd=>match famP fam P fd.type cs (.lit fd.offset) with
    | some x=>some (.lit true,x)
    | none=>none
   | none=>none
  | _,_=>none
 | .index t x i=>
  match P.underlying t,evD F x,evD F i with
  | some (.array len e),.agg cs,.int _ i=>match sizeT P e with
   | some z=>match famP fam P e cs (mkMul (mkToN i) z) with
    | some x=>some (mkAnd (mkCmp .leq (.lit 0) i) (mkCmp .lss i (.lit len)),x)
    | none=>none
   | none=>none
  | _,_,_=>none
 | _=>none
def famT (fs:Facts) (o:EB×FamR) (k:Facts→EV→T):T:=
 match o with
 | (c0,.val c v)=>chkT c0 (chkT c (k fs v))
 | (c0,.ptr n c v)=>chkT c0 (tstT fs n (fun fs=>k fs .nilp) (fun fs=>chkT c (k fs v)))
def strOfD (cs:EL) (off n:EN):EB×EV:=
 (mkAnd (mkLe (mkAdd off n) (mkLen cs)) (.u8s (mkSubL cs off n)),.str (.ofL (mkSubL cs off n)))
noncomputable def readD (P:Program) (F:DFr) (H:DHp) (op:Op):Option (EB×EV):=
 match op with
 | .load t a=>match evD F a with
  | .ptr r off=>loadD P H t r off
  | _=>none
 | .field t x f=>
  match P.underlying t,evD F x with
  | some (.struct fs),.agg cs=>match fs[f]? with
   | some fd=>partD P fd.type cs (.lit fd.offset)
   | none=>none
  | _,_=>none
 | .index t x i=>
  match P.underlying t,evD F x,evD F i with
  | some (.array len e),.agg cs,.int _ i=>match sizeT P e with
   | some z=>match partD P e cs (mkMul (mkToN i) z) with
    | some (c,v)=>some (mkAnd (mkCmp .leq (.lit 0) i) (mkAnd (mkCmp .lss i (.lit len)) c),v)
    | none=>none
   | none=>none
  | _,_,_=>none
 | .convert s d x=>
  match isBytes P s&&isStringT P d,evD F x with
  | true,.nils=>some (.lit true,.str (.lit []))
  | true,.slice _ r off n=>match cellsAtD H r with
   | some (c0,cs)=>match strOfD cs off n with
    | (c,v)=>some (mkAnd c0 c,v)
   | none=>none
  | _,_=>none
 | _=>none
noncomputable def seesD (F:DFr) (op:Op):Option ER:=
 match op with
 | .load _ a=>match evD F a with
  | .ptr r _=>some r
  | _=>none
 | .convert _ _ x=>match evD F x with
  | .slice _ r _ _=>some r
  | _=>none
 | _=>none
def hereD (H:DHp):ER:=.rw H.length
def srcD (H:DHp) (z:Nat) (x:EV):Option (EB×EN×EL):=
 match x with
 | .nils=>some (.lit true,.lit 0,.of [])
 | .slice _ r off m=>match cellsAtD H r with
  | some (c0,cs)=>some (mkAnd c0 (mkAnd (mkLe (mkAdd off (mkMul m z)) (mkLen cs)) (allCellD (mkSubL cs off (mkMul m z)))),m,mkSubL cs off (mkMul m z))
  | none=>none
 | .str s=>match Nat.beq z 1 with
  | true=>some (.lit true,slenD s,mkBytes s)
  | false=>none
 | _=>none
def lenIs (z:Option EV) (n:Nat):Bool:=match z with
 | some v=>match cellsOfD v with
  | .of cs=>Nat.beq cs.length n
  | _=>false
 | none=>false
def appendD (P:Program) (H:DHp) (t:TypeId) (s x:EV):Option (EB×EV×DHop):=
 match P.underlying t with
 | some (.slice e)=>
  match P.info? e,zeroD P e with
  | some i,some zv=>
   match okSz i.size&&(Nat.ble 1 i.bytes&&lenIs (some zv) i.size) with
   | false=>none
   | true=>
   match srcD H i.size x with
   | some (c,m,xs)=>
    match s with
    | .nils=>some (mkAnd c (mkLe (mkMul m i.bytes) (.lit 140737488355328)),.slice true (hereD H) (.lit 0) m,.new ⟨i.size,xs⟩)
    | .slice mb (.rw j) (.lit 0) (.lit 0)=>
     match H[j]? with
     | some (some b)=>match Nat.beq b.esz i.size with
      | true=>some (mkAnd c (mkLe (mkMul m i.bytes) (.lit 140737488355328)),.slice mb (hereD H) (.lit 0) m,.app j ⟨i.size,xs⟩)
      | false=>none
     | _=>none
    | .slice mb (.rw j) (.lit 0) (.mul n 1)=>
     match H[j]? with
     | some (some b)=>match Nat.beq b.esz i.size with
      | true=>some (mkAnd c (mkAnd (mkLe (mkMul (mkAdd n m) i.bytes) (.lit 140737488355328)) (mkLe (mkMul n i.size) (mkLen b.cells))),.slice mb (hereD H) (.lit 0) (mkAdd n m),.app j ⟨i.size,mkAppL (mkSubL b.cells (.lit 0) (mkMul n i.size)) xs⟩)
      | false=>none
     | _=>none
    | .slice mb (.rw j) (.lit 0) n=>
     match H[j]? with
     | some (some b)=>match Nat.beq b.esz i.size with
      | true=>some (mkAnd c (mkAnd (mkLe (mkMul (mkAdd n m) i.bytes) (.lit 140737488355328)) (mkEqN (mkLen b.cells) (mkMul n i.size))),.slice mb (hereD H) (.lit 0) (mkAdd n m),.app j ⟨i.size,mkAppL b.cells xs⟩)
      | false=>none
     | _=>none
    | _=>none
   | none=>none
  | _,_=>none
 | _=>none
def mkStore (l:EL) (o:EN) (v:EV) (z:Nat):EL:=
 match v with
 | .agg d=>match isOf d,l,o with
  | false,.of cs,.lit 0=>match Nat.beq cs.length z with
   | true=>d
   | false=>mkSet l o v
  | _,_,_=>mkSet l o v
 | v=>mkSet l o v
def bigF (z:Nat) (as:List AV):Int:=match as with
 | [.int _ n]=>n*z
 | _=>0
def appendZD (P:Program) (H:DHp) (t:TypeId) (s x:EV):Option (EB×EV×DHop):=
 match P.underlying t,s,x with
 | some (.slice e),.nils,.int .i64 n=>
  match P.info? e,zeroD P e with
  | some i,some zv=>match okSz i.size&&(Nat.ble 1 i.bytes&&(lenIs (some zv) i.size&&Nat.ble 1 i.size)) with
   | true=>some (mkAnd (mkCmp .leq (.lit 0) n) (mkCmp .leq (mkBigD n i.bytes) (.lit 140737488355328)),.slice true (hereD H) (.lit 0) (mkToN n),.new ⟨i.size,mkRep (mkToN n) (cellsOfD zv)⟩)
   | false=>none
  | _,_=>none
 | _,_,_=>none
where
 mkBigD (c:EI) (z:Nat):EI:=match c with
  | .lit n=>.lit (n*z)
  | c=>.uf (300000+z) (bigF z) [.int .i64 c]
def clearD (P:Program) (H:DHp) (t:TypeId) (x:EV):Option (EB×EV×DHop):=
 match P.underlying t,x with
 | some (.slice e),.slice _ (.rw j) off n=>
  match sizeT P e,zeroD P e,H[j]? with
  | some z,some zv,some (some b)=>match isRecD b||!(lenIs (some zv) z&&Nat.ble 1 z) with
   | true=>none
   | false=>some (mkAnd (mkLe (.lit 1) n) (mkAnd (allCellD (cellsOfD zv)) (mkLe (mkAdd off (mkMul n z)) (mkLen b.cells))),.tup [],.set j ⟨b.esz,mkSet b.cells off (.agg (mkRep n (cellsOfD zv)))⟩)
  | _,_,_=>none
 | _,_=>none
noncomputable def writeD (P:Program) (F:DFr) (H:DHp) (op:Op):Option (EB×EV×DHop):=
 match op with
 | .store t a x=>
  match evD F a,sizeT P t with
  | .ptr (.rw i) off,some z=>match H[i]? with
   | some (some b)=>match isRecD b with
    | true=>none
    | false=>some (mkAnd (goodCellsD (evD F x)) (mkAnd (sizeIsD (evD F x) z) (mkLe (mkAdd off (.lit z)) (mkLen b.cells))),.tup [],.set i ⟨b.esz,mkStore b.cells off (evD F x) z⟩)
   | _=>none
  | _,_=>none
 | .alloc e=>match zeroD P e with
  | some z=>some (.lit true,.ptr (hereD H) (.lit 0),.new ⟨1,cellsOfD z⟩)
  | none=>none
 | .box _ x=>match knownD (evD F x) with
  | true=>some (.lit true,.ptr (hereD H) (.lit 0),.new ⟨1,cellsOfD (evD F x)⟩)
  | false=>none
 | .buildSlice t n parts=>
  match P.underlying t with
  | some (.slice e)=>match sizeT P e,zeroD P e with
   | some z,some zv=>
    match cellsOfD zv with
    | .of cs=>
     match okSz z&&(Nat.ble (n*z) 16777216&&Nat.beq cs.length z) with
     | true=>match fillD (fun i=>some (i*z,z)) (.of ((List.replicate n cs).flatten)) (parts.toList.map fun p=>(p.1,evD F p.2)) with
      | some (c,cs)=>some (c,.slice false (hereD H) (.lit 0) (.lit n),.new ⟨z,cs⟩)
      | none=>none
     | false=>none
    | _=>none
   | _,_=>none
  | _=>none
 | .makeSlice t l c=>
  match P.underlying t,evD F l,evD F c with
  | some (.slice e),.int _ l,.int _ c=>match P.info? e,zeroD P e with
   | some i,some zv=>match okSz i.size&&(lenIs (some zv) i.size&&Nat.ble 1 i.size) with
    | true=>some (mkAnd (mkCmp .leq (.lit 0) l) (mkAnd (mkCmp .leq l c) (mkAnd (mkCmp .leq (mkBig c i.bytes) (.lit 140737488355328)) (mkCmp .leq c (.lit 140737488355328)))),.slice false (hereD H) (.lit 0) (mkToN l),.new ⟨i.size,mkRep (mkToN l) (cellsOfD zv)⟩)
    | false=>none
   | _,_=>none
  | _,_,_=>none
 | .convert s d x=>
  match isStringT P s&&isBytes P d,evD F x with
  | true,.str s=>some (mkLe (slenD s) (.lit 140737488355328),.slice false (hereD H) (.lit 0) (slenD s),.new ⟨1,mkBytes s⟩)
  | false,.slice mb (.rw i) off n=>match isBytes P s&&Nat.beq s d with
   | true=>match H[i]? with
    | some (some b)=>match isRecD b with
     | true=>none
     | false=>some (mkLe (.lit 1) n,.slice mb (.rw i) off n,.set i b)
    | _=>none
   | false=>none
  | _,_=>none
 | .call { callee:=.builtin .append,args,argTypes }=>
  match args.toList,argTypes.toList with
  | [s,x],[t,u]=>match P.underlying u with
   | some (.slice _)=>appendD P H t (evD F s) (evD F x)
   | some .string=>appendD P H t (evD F s) (evD F x)
   | some (.int _)=>appendZD P H t (evD F s) (evD F x)
   | _=>none
  | _,_=>none
 | .call { callee:=.builtin .clear,args,argTypes }=>
  match args.toList,argTypes.toList with
  | [x],[t]=>clearD P H t (evD F x)
  | _,_=>none
 | _=>none
where
 mkBig (c:EI) (z:Nat):EI:=match c with
  | .lit n=>.lit (n*z)
  | c=>.uf (300000+z) (bigF z) [.int .i64 c]
noncomputable def writeFD (P:Program) (F:DFr) (H:DHp) (op:Op):Option (EB×List DHop):=
 match op with
 | .store t a x=>
  match evD F a,sizeT P t with
  | .ptr (.fm b c k) off,some z=>match famAt H b c with
   | some (z0,l,ls)=>some (mkAnd (mkLe (mkAdd k (.lit 1)) (.lit c)) (mkAnd (.rows l ls) (mkAnd (mkLe (mkAdd k (.lit 1)) (.len l)) (mkAnd (goodCellsD (evD F x)) (mkAnd (sizeIsD (evD F x) z) (mkLe (mkAdd off (.lit z)) (mkLen (.row l k))))))),famSets b c z0 (.put l k (mkStore (.row l k) off (evD F x) z)))
   | none=>none
  | _,_=>none
 | _=>none
noncomputable def callD (F:DFr) (op:Op):Option (FuncId×List EV):=
 match op with
 | .call { callee:=.value f,args,.. }=>match evD F f with
  | .func g cap=>some (g,args.toList.map (evD F)++cap)
  | _=>none
 | _=>none
noncomputable def yldD (F:DFr) (op:Op):Option (Nat×List EV):=
 match op with
 | .call { callee:=.value f,args,.. }=>match evD F f with
  | .yld i=>some (i,args.toList.map (evD F))
  | _=>none
 | _=>none
noncomputable def resOneD (P:Program) (F:DFr) (H:DHp):ResultVar→Option (EB×EV)
 | .tmp t=>some (.lit true,getF0 F t)
 | .cell a t=>match getF0 F a with
  | .ptr r off=>loadD P H t r off
  | _=>none
noncomputable def resAllD (P:Program) (F:DFr) (H:DHp):List ResultVar→Option (EB×List EV)
 | []=>some (.lit true,[])
 | x::xs=>match resOneD P F H x with
  | some (c,v)=>match resAllD P F H xs with
   | some (d,r)=>some (mkAnd c d,v::r)
   | none=>none
  | none=>none
noncomputable def resD (P:Program) (fn:Func) (F:DFr) (H:DHp):Option (EB×EV):=
 match resAllD P F H fn.results.toList with
 | some (c,[v])=>some (c,v)
 | some (c,vs)=>some (c,.tup vs)
 | none=>none
inductive DTrK where
 | still
 | read (r:ER)
 | write
structure DTr where
 kd:DTrK
 len:Nat
 hs:List DHop
def touchD (i:Nat) (len:Nat):List DHop→Bool
 | []=>false
 | .set j _::hs=>j==i||touchD i len hs
 | .new _::hs=>len==i||touchD i (len+1) hs
 | .app j _::hs=>j==i||(len==i||touchD i (len+1) hs)
def touchRD (r:ER) (len:Nat) (hs:List DHop):Bool:=
 match r with
 | .rw i=>touchD i len hs
 | .ro _=>false
 | .fm _ _ _=>true
def apartHD (x y:DTr):Bool:=
 match x.kd,y.kd with
 | .write,.write=>false
 | .write,.read r=>!touchRD r x.len x.hs
 | .read r,.write=>!touchRD r y.len y.hs
 | _,_=>true
def drawOkD (all:List Oper) (trs:List DTr):Bool:=
 let ms:=masks all []
 edgesOk 0 all&&(List.range all.length).all fun j=>(List.range j).all fun i=>
  (ms.getD j 0).testBit i ||
  (match all[i]?,all[j]?,trs[i]?,trs[j]? with
   | some x,some y,some a,some b=>apartT all x y&&apartHD a b
   | _,_,_,_=>false)
def diffND:Bool→Nat→DHp→Option (List DHop)
 | false,_,[]=>some []
 | true,_,[]=>none
 | false,i,some b::H'=>match diffND false (i+1) H' with
  | some hs=>some (.new b::hs)
  | none=>none
 | true,i,some b::H'=>match diffND false (i+1) H' with
  | some hs=>some (.app (i - 1) b::hs)
  | none=>none
 | false,i,none::H'=>match diffND true (i+1) H' with
  | some hs=>some (.new ⟨0,.of []⟩::hs)
  | none=>none
 | true,i,none::H'=>match diffND true (i+1) H' with
  | some hs=>some (.app (i - 1) ⟨0,.of []⟩::hs)
  | none=>none
def diffD:Nat→DHp→DHp→Option (List DHop)
 | i,[],H'=>diffND false i H'
 | i,_::H,some b::H'=>match diffD (i+1) H H' with
  | some hs=>some (.set i b::hs)
  | none=>none
 | i,none::H,none::H'=>diffD (i+1) H H'
 | _,_,_=>none
inductive DWk where
 | code (c:Code)
 | ops (all l:List Oper)
 | dr (all l:List Oper) (trs:List DTr)
structure DCfg where
 P:Program
 inl:FuncId→Bool
 sum:FuncId→List EV→DHp→Option Outs
 loop:Code→DFr→DHp→Option LOut
 M:Nat
 rng:Code→DFr→DHp→Option LOut:=fun _ _ _=>none
 ysum:Nat→List EV→DHp→Option Outs:=fun _ _ _=>none
 /-- which types' slices and pointers lie in which family (where it begins,how many rows it has);which structs are to be read field by field -/
 fam:TypeId→Option (Nat×Nat):=fun _=>none
abbrev DK:=Ex→DFr→DHp→Facts→T
abbrev DRec:=Nat→DWk→DFr→DHp→Facts→DK→T
def roOpD (K:DCfg) (rec:Code→Bool) (o:Oper):Bool:=
 match kdOf K.P o.op with
 | .pure=>true
 | .read=>true
 | .write=>false
 | .call=>match o.op with
  | .call { callee:=.value (.func g),.. }=>K.inl g&&(match K.P.funcs[g]? with
   | some fn=>match fn.body with
    | some c=>rec c
    | none=>true
   | none=>true)
  | _=>false
def roInD (K:DCfg) (rec:Code→Bool):Code→Bool
 | .skip=>true
 | .region _ ops _=>ops.toList.all (roOpD K rec)
 | .seq a b=>roInD K rec a&&roInD K rec b
 | .cond _ a b=>roInD K rec a&&roInD K rec b
 | .block _ c=>roInD K rec c
 | .loop _=>false
 | .exit _=>true
 | .scope c=>roInD K rec c
 | .label _=>true
 | .ret=>true
 | _=>false
def roCodeD (K:DCfg):Nat→Code→Bool
 | 0,_=>false
 | d+1,c=>roInD K (roCodeD K d) c
def frameD (fn:Func) (args:List EV):DFr:=args++List.replicate (fn.ntmps - args.length) (.tup [])
noncomputable def putD (F:DFr) (d:Option Tmp) (v:EV):DFr:=
 match d with
 | some d=>setF0 F d v
 | none=>F
noncomputable def retD (P:Program) (fn:Func) (Q:EV→DHp→Facts→T) (e:Ex) (F:DFr) (H:DHp) (fs:Facts):T:=
 match e with
 | .exit _=>.fail
 | _=>opT (resD P fn F H) fun v=>Q v H fs
def outT (fs:Facts) (o:Outs) (k:Facts→EV→List DHop→T):T:=
 match o with
 | .one v hs=>k fs v hs
 | .chk b x=>chkT b (outT fs x k)
 | .tst b x y=>tstT fs b (fun fs=>outT fs x k) (fun fs=>outT fs y k)
 | .namI e f=>.namI fs.n e fun x=>outT (fresh fs) (f (.var fs.n x)) k
 | .namN e f=>.namN fs.n e fun x=>outT (fresh fs) (f (.var fs.n x)) k
 | .namB e f=>.namB fs.n e fun x=>outT (fresh fs) (f (.var fs.n x)) k
 | .namL e f=>.namL fs.n e fun x=>outT (fresh fs) (f (.var fs.n x)) k
def loutT (fs:Facts) (o:LOut) (k:Facts→Ex→DFr→DHp→T):T:=
 match o with
 | .one e F H=>k fs e F H
 | .chk b x=>chkT b (loutT fs x k)
 | .tst b x y=>tstT fs b (fun fs=>loutT fs x k) (fun fs=>loutT fs y k)
 | .imp b x=>.imp b (loutT (learn fs b true) x k)
 | .allI f=>.allI fs.n fun x=>loutT (fresh fs) (f (.var fs.n x)) k
 | .allN f=>.allN fs.n fun x=>loutT (fresh fs) (f (.var fs.n x)) k
 | .allB f=>.allB fs.n fun x=>loutT (fresh fs) (f (.var fs.n x)) k
 | .allL f=>.allL fs.n fun x=>loutT (fresh fs) (f (.var fs.n x)) k
 | .namI e f=>.namI fs.n e fun x=>loutT (fresh fs) (f (.var fs.n x)) k
 | .namN e f=>.namN fs.n e fun x=>loutT (fresh fs) (f (.var fs.n x)) k
 | .namB e f=>.namB fs.n e fun x=>loutT (fresh fs) (f (.var fs.n x)) k
 | .namL e f=>.namL fs.n e fun x=>loutT (fresh fs) (f (.var fs.n x)) k
def outsOf (ro:Bool) (H:DHp):T→Option Outs
 | .ret v H'=>match ro with
  | true=>some (.one v [])
  | false=>match diffD 0 H H' with
   | some hs=>some (.one v hs)
   | none=>none
 | .chk b t=>match outsOf ro H t with
  | some o=>some (.chk b o)
  | none=>none
 | .tst b x y=>match outsOf ro H x,outsOf ro H y with
  | some o,some p=>some (.tst b o p)
  | _,_=>none
 | _=>none
noncomputable def stepOpD (K:DCfg) (rec:DRec) (m:Nat) (all l:List Oper) (dst:Option Tmp) (op:Op) (F:DFr) (H:DHp) (fs:Facts) (Q:DK):T:=
 match kdOf K.P op with
 | .pure=>opT (pureD K.P F op) fun v=>rec m (.ops all l) (putD F dst v) H fs Q
 | .read=>match famD K.fam K.P F H op with
  | some o=>famT fs o fun fs v=>rec m (.ops all l) (putD F dst v) H fs Q
  | none=>opT (readD K.P F H op) fun v=>rec m (.ops all l) (putD F dst v) H fs Q
 | .write=>match writeD K.P F H op with
  | some (c,v,h)=>chkT c (rec m (.ops all l) (putD F dst v) (h.act H) fs Q)
  | none=>match writeFD K.P F H op with
   | some (c,hs)=>chkT c (rec m (.ops all l) (putD F dst (.tup [])) (dacts H hs) fs Q)
   | none=>.fail
 | .call=>match callD F op with
  | some (f,args)=>match K.inl f with
   | true=>match K.P.funcs[f]? with
    | some fn=>match fn.body with
     | some c => match fn.name == "runtime.NumGoroutine" with
      | true=>.fail
      | false=>rec H.length (.code c) (frameD fn args) H fs (retD K.P fn fun v H' fs=>rec m (.ops all l) (putD F dst v) H' fs Q)
     | none=>.fail
    | none=>.fail
   | false=>match K.sum f args H with
    | some o=>outT fs o fun fs v hs=>rec m (.ops all l) (putD F dst v) (dacts H hs) fs Q
    | none=>.fail
  | none=>match yldD F op with
   | some (i,args)=>match K.ysum i args H with
    | some o=>outT fs o fun fs v hs=>rec m (.ops all l) (putD F dst v) (dacts H hs) fs Q
    | none=>.fail
   | none=>.fail
noncomputable def guardD (fs:Facts) (all:List Oper) (guard:Option (Nat×Bool)) (F:DFr) (go skip:DFr→Facts→T):T:=
 match guard with
 | none=>go F fs
 | some (j,want)=>
  match (all[j]?).bind (·.dst) with
  | some t=>
   match getF0 F t with
   | .bool b=>tstT fs b
     (fun fs=>match want with | true=>go (putD F (some t) (.bool (.lit true))) fs | false=>skip (putD F (some t) (.bool (.lit true))) fs)
     (fun fs=>match want with | true=>skip (putD F (some t) (.bool (.lit false))) fs | false=>go (putD F (some t) (.bool (.lit false))) fs)
   | .tup []=>skip F fs
   | _=>.fail
  | none=>.fail
noncomputable def stepOpsD (K:DCfg) (rec:DRec) (m:Nat) (all l:List Oper) (F:DFr) (H:DHp) (fs:Facts) (Q:DK):T:=
 match l with
 | []=>Q .normal F H fs
 | ⟨dst,op,_,_,_,guard⟩::l=>
  guardD fs all guard F (fun F fs=>stepOpD K rec m all l dst op F H fs Q) (fun F fs=>rec m (.ops all l) (putD F dst (.tup [])) H fs Q)
noncomputable def stepDrOpD (K:DCfg) (rec:DRec) (m:Nat) (all l:List Oper) (trs:List DTr) (dst:Option Tmp) (op:Op) (F:DFr) (H:DHp) (fs:Facts) (Q:DK):T:=
  match kdOf K.P op with
  | .pure=>opT (pureD K.P F op) fun v=>rec m (.dr all l (trs++[⟨.still,H.length,[]⟩])) (putD F dst v) H fs Q
  | .read=>match famD K.fam K.P F H op with
    | some o=>famT fs o fun fs v=>rec m (.dr all l (trs++[⟨(match seesD F op with | some r=>.read r | none=>.still),H.length,[]⟩])) (putD F dst v) H fs Q
    | none => opT (readD K.P F H op) fun v => rec m (.dr all l (trs ++ [⟨(match seesD F op with | some r => .read r | none => .still), H.length, []⟩])) (putD F dst v) H fs Q
  | .write => match writeD K.P F H op with
    | some (c,v,h)=>chkT c (rec m (.dr all l (trs++[⟨.write,H.length,[h]⟩])) (putD F dst v) (h.act H) fs Q)
    | none => .fail
  | .call=>match callD F op with
    | some (f,args)=>match K.inl f with
      | true=>match K.P.funcs[f]? with
        | some fn=>match fn.body with
          | some c => match fn.name == "runtime.NumGoroutine" with
            | true=>.fail
            | false=>match outsOf (roCodeD K 20 c) H (rec H.length (.code c) (frameD fn args) H fs (retD K.P fn fun v H' _=>.ret v H')) with
              | some o=>outT fs o fun fs v hs=>rec m (.dr all l (trs++[⟨.write,H.length,hs⟩])) (putD F dst v) (dacts H hs) fs Q
              | none=>.fail
          | none=>.fail
        | none=>.fail
      | false=>match K.sum f args H with
        | some o=>outT fs o fun fs v hs=>rec m (.dr all l (trs++[⟨.write,H.length,hs⟩])) (putD F dst v) (dacts H hs) fs Q
        | none=>.fail
    | none=>match yldD F op with
      | some (i,args)=>match K.ysum i args H with
        | some o=>outT fs o fun fs v hs=>rec m (.dr all l (trs++[⟨.write,H.length,hs⟩])) (putD F dst v) (dacts H hs) fs Q
        | none=>.fail
      | none=>.fail
noncomputable def stepDrD (K:DCfg) (rec:DRec) (m:Nat) (all l:List Oper) (trs:List DTr) (F:DFr) (H:DHp) (fs:Facts) (Q:DK):T:=
 match l with
 | []=>match drawOkD all trs with
  | true=>Q .normal F H fs
  | false=>.fail
 | ⟨dst,op,_,_,_,guard⟩::l=>
  guardD fs all guard F (fun F fs=>stepDrOpD K rec m all l trs dst op F H fs Q) (fun F fs=>rec m (.dr all l (trs++[⟨.still,H.length,[]⟩])) (putD F dst (.tup [])) H fs Q)
noncomputable def stepCondD (_K:DCfg) (rec:DRec) (m:Nat) (c:Operand) (x y:Code) (F:DFr) (H:DHp) (fs:Facts) (Q:DK):T:=
 match c with
 | .tmp t=>match getF0 F t with
  | .bool b=>tstT fs b (fun fs=>rec m (.code x) (putD F (some t) (.bool (.lit true))) H fs Q) (fun fs=>rec m (.code y) (putD F (some t) (.bool (.lit false))) H fs Q)
  | _=>.fail
 | .const (.bool b)=>match b with
  | true=>rec m (.code x) F H fs Q
  | false=>rec m (.code y) F H fs Q
 | _=>.fail
def thenD (rec:DRec) (m:Nat) (b:Code) (Q:DK):DK:=fun e F H fs=>match e with
 | .normal=>rec m (.code b) F H fs Q
 | e=>Q e F H fs
def blockD (id:Nat) (Q:DK):DK:=fun e F H fs=>match e with
 | .exit i=>match i==id with
  | true=>Q .normal F H fs
  | false=>Q (.exit i) F H fs
 | e=>Q e F H fs
noncomputable def stepCodeD (K:DCfg) (rec:DRec) (m:Nat) (c:Code) (F:DFr) (H:DHp) (fs:Facts) (Q:DK):T:=
 match c with
 | .skip=>Q .normal F H fs
 | .region _ ops draw=>match draw with
  | true=>rec m (.dr ops.toList ops.toList []) F H fs Q
  | false=>rec m (.ops ops.toList ops.toList) F H fs Q
 | .seq a b=>rec m (.code a) F H fs (thenD rec m b Q)
 | .cond c x y=>stepCondD K rec m c x y F H fs Q
 | .block id c=>rec m (.code c) F H fs (blockD id Q)
 | .loop c=>match Nat.ble m K.M with
  | true=>match K.loop c F H with
   | some o=>loutT fs o fun fs e F H=>Q e F H fs
   | none=>.fail
  | false=>.fail
 | .rangeFunc g ps as bd=>match Nat.ble m K.M with
  | true=>match K.rng (.rangeFunc g ps as bd) F H with
   | some o=>loutT fs o fun fs e F H=>Q e F H fs
   | none=>.fail
  | false=>.fail
 | .exit id=>Q (.exit id) F H fs
 | .scope c=>rec m (.code c) F H fs Q
 | .label _=>Q .normal F H fs
 | .ret=>Q .ret F H fs
 | _=>.fail
noncomputable def stepWkD (K:DCfg) (rec:DRec) (m:Nat) (w:DWk) (F:DFr) (H:DHp) (fs:Facts) (Q:DK):T:=
 match w with
 | .ops all l=>stepOpsD K rec m all l F H fs Q
 | .dr all l trs=>stepDrD K rec m all l trs F H fs Q
 | .code c=>stepCodeD K rec m c F H fs Q
noncomputable def dx (K:DCfg):Nat→DRec
 | 0=>fun _ _ _ _ _ _=>.fail
 | n+1=>stepWkD K (dx K n)
end Go.Am
namespace Go.Am
variable {G:Nat→List AV}
theorem vVs_map (l:List EV):vVs G l=l.map (vV G):=by
 induction l with
 | nil=>rfl
 | cons x l ih=>simp only [vVs,ih,List.map_cons]
theorem vVs_length (l:List EV):(vVs G l).length=l.length:=by rw [vVs_map,List.length_map]
theorem vVs_get (l:List EV) (n:Nat):(vVs G l)[n]?=(l[n]?).map (vV G):=by rw [vVs_map,List.getElem?_map]
theorem vVs_append (l m:List EV):vVs G (l++m)=vVs G l++vVs G m:=by simp only [vVs_map,List.map_append]
theorem vVs_getD (F:List EV) (t:Nat):(vVs G F).getD t .undef=vV G (F.getD t .undef):=by
 simp only [List.getD,vVs_get]
 cases F[t]?<;>simp [vV]
theorem vVs_set (F:List EV) (t:Nat) (v:EV):vVs G (F.set t v)=(vVs G F).set t (vV G v):=by simp only [vVs_map,List.map_set]
theorem vB_mkAnd (a b:EB):vB G (mkAnd a b)=(vB G a&&vB G b):=by
 unfold mkAnd
 split
 ·simp [vB]
 ·simp [vB]
 ·split
  ·simp [vB]
  ·simp [vB]
  ·simp [vB]
theorem vB_mkNot (a:EB):vB G (mkNot a)=!(vB G a):=by
 unfold mkNot;split<;>simp [vB]
theorem vB_mkEqB (a b:EB):vB G (mkEqB a b)=(vB G a==vB G b):=by
 unfold mkEqB;split<;>simp [vB,vB_mkNot]
theorem vB_mkCmp (o:BinOp) (a b:EI):vB G (mkCmp o a b)=cmpI o (vI G a) (vI G b):=by
 unfold mkCmp;split<;>simp [vB,vI]
theorem vI_mkBin (o:BinOp) (k:IntKind) (a b:EI):vI G (mkBin o k a b)=binI o k (vI G a) (vI G b):=by
 unfold mkBin;split<;>simp [vI]
theorem vI_mkConv (k:IntKind) (a:EI):vI G (mkConv k a)=k.wrap (vI G a):=by
 unfold mkConv;split<;>simp [vI]
theorem vI_mkNeg (k:IntKind) (a:EI):vI G (mkNeg k a)=k.wrap (0 - vI G a):=by
 unfold mkNeg;split<;>simp [vI]
theorem vI_mkCpl (k:IntKind) (a:EI):vI G (mkCpl k a)=kNot k (vI G a):=by
 unfold mkCpl;split<;>simp [vI]
theorem vI_mkOfN (n:EN):vI G (mkOfN n)=(vN G n:Int):=by
 unfold mkOfN;split<;>simp [vI,vN]
theorem vN_mkToN (n:EI):vN G (mkToN n)=(vI G n).toNat:=by
 unfold mkToN;split<;>simp [vI,vN]
theorem vN_mkAdd (a b:EN):vN G (mkAdd a b)=vN G a+vN G b:=by
 unfold mkAdd;split<;>simp [vN]
 omega
theorem vN_mkMul (a:EN) (z:Nat):vN G (mkMul a z)=vN G a*z:=by
 unfold mkMul;split
 ·simp
 ·split<;>simp [vN]
theorem vN_mkMulz (a:EN) (z:Nat):vN G (mkMul a z)=mulz (vN G a) z:=by
 rw [vN_mkMul];unfold mulz;split<;>simp
theorem vN_mkSub (a b:EN):vN G (mkSub a b)=vN G a - vN G b:=by
 unfold mkSub;split<;>simp [vN]
theorem leB_iff {x y:Nat}:leB x y=true↔x≤y:=by unfold leB;exact decide_eq_true_iff
theorem vB_mkLe (a b:EN):vB G (mkLe a b)=leB (vN G a) (vN G b):=by
 unfold mkLe;split
 ·simp only [vB,vN]
  rename_i x y
  cases hb:x.ble y with
  | true=>exact (leB_iff.2 (Nat.le_of_ble_eq_true hb)).symm
  | false=>
   cases hl:leB x y with
   | false=>rfl
   | true=>rw [Nat.ble_eq_true_of_le (leB_iff.1 hl)] at hb;simp at hb
 ·simp only [vB,vN];exact (leB_iff.2 (Nat.zero_le _)).symm
 ·simp only [vB]
theorem vB_mkEqN (a b:EN):vB G (mkEqN a b)=Nat.beq (vN G a) (vN G b):=by
 unfold mkEqN;split<;>simp [vB,vN]
theorem vB_mkEqS (a b:ES):vB G (mkEqS a b)=(vS G a==vS G b):=by
 unfold mkEqS;split<;>simp [vB,vS]
theorem vS_mkApp (a b:ES):vS G (mkApp a b)=vS G a++vS G b:=by
 unfold mkApp;split<;>simp [vS]
theorem vN_slenD (s:ES):vN G (slenD s)=(vS G s).length:=by
 unfold slenD;split<;>simp [vS,vN]
theorem vN_mkLen (l:EL):vN G (mkLen l)=(vL G l).length:=by
 unfold mkLen;split<;>simp [vN,vL,vVs_length,bytesL]
theorem setPart_cell {cs:List AV} {o:Nat} {v:AV} (h:∀ l,v≠.agg l):setPart cs o v=cs.set o v:=by
 unfold setPart;split
 ·rename_i l;exact absurd rfl (h l)
 ·rfl
theorem vV_agg {v:EV} {l:List AV} (h:vV G v=.agg l):∃ d,v=.agg d∧vL G d=l:=by
 cases v<;>simp [vV] at h
 exact ⟨_,rfl,h⟩
theorem vL_mkSet (l:EL) (o:EN) (v:EV):vL G (mkSet l o v)=setPart (vL G l) (vN G o) (vV G v):=by
 unfold mkSet;split
 ·split
  ·simp only [vL,vN,vV,setPart,spl,vVs_map,List.map_append,List.map_take,List.map_drop,List.length_map]
  ·simp only [vL,vN,vV]
  ·rename_i cs n v h1 h2
   rw [setPart_cell]
   ·simp only [vL,vVs_set,vN]
   ·intro l he
    obtain ⟨d,rfl,_⟩:=vV_agg he
    exact h2 d rfl
 ·simp only [vL]
theorem vL_mkSubL (l:EL) (o n:EN):vL G (mkSubL l o n)=((vL G l).drop (vN G o)).take (vN G n):=by
 unfold mkSubL;split<;>simp [vL,vN,subL,vVs_map,List.map_take,List.map_drop]
theorem vL_mkAppL (a b:EL):vL G (mkAppL a b)=vL G a++vL G b:=by
 unfold mkAppL;split<;>simp [vL,vVs_append,vVs]
theorem vL_mkBytes (s:ES):vL G (mkBytes s)=(vS G s).map fun b=>.int .u8 b.toNat:=by
 unfold mkBytes;split
 ·simp only [vL,vVs_map,List.map_map,vS];congr 1
 ·simp only [vL,bytesL]
theorem vL_mkRep (n:EN) (l:EL):vL G (mkRep n l)=(List.replicate (vN G n) (vL G l)).flatten:=by
 unfold mkRep;split
 ·simp only [vL,vVs_map,vN,List.map_flatten,List.map_replicate]
 ·simp only [vL,repL]
theorem notAgg {v:EV} (h:isAggV v=false):∀ l,vV G v≠.agg l:=by
 intro l he
 obtain ⟨d,rfl,_⟩:=vV_agg he
 simp [isAggV] at h
theorem litN_some {o:EN} {n:Nat} (h:litN o=some n):o=.lit n:=by
 unfold litN at h;split at h
 ·simp at h;rw [h]
 ·simp at h
theorem rdAny_ok:∀ (l:EL) (n:Nat) (c:EB) (v:EV),rdAny l n=some (c,v)→vB G c=true→(vL G l)[n]?=some (vV G v)
 | .of cs,n,c,v,h,_=>by
  simp only [rdAny] at h
  split at h
  ·rename_i w hn
   simp only [Option.some.injEq,Prod.mk.injEq] at h
   obtain ⟨_,rfl⟩:=h
   simp only [vL,vVs_get,hn,Option.map_some]
  ·simp at h
 | .set l o w,n,c,v,h,hc=>by
  simp only [rdAny] at h
  split at h
  ·rename_i m ho ha
   have:=litN_some ho;subst this
   have hs:vL G (.set l (.lit m) w)=(vL G l).set m (vV G w):=by
    simp only [vL,vN];exact setPart_cell (notAgg ha)
   rw [hs]
   split at h
   ·rename_i hm
    have hm:=Nat.eq_of_beq_eq_true hm
    subst hm
    simp only [Option.some.injEq,Prod.mk.injEq] at h
    obtain ⟨rfl,rfl⟩:=h
    rw [vB_mkLe,vN_mkLen] at hc
    have hc:m+1≤(vL G l).length:=leB_iff.1 hc
    rw [List.getElem?_set_self (by omega)]
   ·rename_i hm
    have hne:m≠n:=fun he=>by rw [he] at hm;simp at hm
    rw [List.getElem?_set_ne hne]
    exact rdAny_ok l n c v h hc
  ·simp at h
 | .var ..,_,_,_,h,_=>by simp [rdAny] at h
 | .ro ..,_,_,_,h,_=>by simp [rdAny] at h
 | .app ..,_,_,_,h,_=>by simp [rdAny] at h
 | .sub ..,_,_,_,h,_=>by simp [rdAny] at h
 | .bytes ..,_,_,_,h,_=>by simp [rdAny] at h
 | .rep ..,_,_,_,h,_=>by simp [rdAny] at h
 | .uf ..,_,_,_,h,_=>by simp [rdAny] at h
theorem rdI_ok {k:IntKind} {l:EL} {o:EN} {c:EB} {e:EI} (h:rdI k l o=some (c,e)) (hc:vB G c=true):isI k (vL G l) (vN G o)=true∧getI (vL G l) (vN G o)=vI G e:=by
 have gen:some (EB.isI k l o,EI.get l o)=some (c,e)→isI k (vL G l) (vN G o)=true∧getI (vL G l) (vN G o)=vI G e:=fun h=>by
  simp only [Option.some.injEq,Prod.mk.injEq] at h
  obtain ⟨rfl,rfl⟩:=h
  exact ⟨by simpa only [vB] using hc,by simp only [vI]⟩
 unfold rdI at h
 split at h
 ·rename_i n ho
  have:=litN_some ho;subst this
  split at h
  ·rename_i c' k' e' hr
   split at h
   ·rename_i hk
    subst hk
    simp only [Option.some.injEq,Prod.mk.injEq] at h
    obtain ⟨rfl,rfl⟩:=h
    have:=rdAny_ok l n _ _ hr hc
    simp only [vV] at this
    simp [isI,getI,vN,this]
   ·simp at h
  ·simp at h
  ·exact gen h
 ·exact gen h
theorem rdB_ok {l:EL} {o:EN} {c:EB} {e:EB} (h:rdB l o=some (c,e)) (hc:vB G c=true):isB (vL G l) (vN G o)=true∧getB (vL G l) (vN G o)=vB G e:=by
 have gen:some (EB.isB l o,EB.get l o)=some (c,e)→isB (vL G l) (vN G o)=true∧getB (vL G l) (vN G o)=vB G e:=fun h=>by
  simp only [Option.some.injEq,Prod.mk.injEq] at h
  obtain ⟨rfl,rfl⟩:=h
  exact ⟨by simpa only [vB] using hc,by simp only [vB]⟩
 unfold rdB at h
 split at h
 ·rename_i n ho
  have:=litN_some ho;subst this
  split at h
  ·rename_i c' e' hr
   simp only [Option.some.injEq,Prod.mk.injEq] at h
   obtain ⟨rfl,rfl⟩:=h
   have:=rdAny_ok l n _ _ hr hc
   simp only [vV] at this
   simp [isB,getB,vN,this]
  ·simp at h
  ·exact gen h
 ·exact gen h
theorem vV_dCell (v:Value):vV G (dCell v)=ofCell v:=by
 unfold dCell ofCell
 split<;>simp [vV,vB,vI,vS]
theorem vV_dVal (v:Value):vV G (dVal v)=ofValue v:=by
 unfold dVal ofValue
 split
 ·simp only [vV,vL,vVs_map,List.map_map]
  congr 2
  funext x;exact vV_dCell x
 ·rename_i h
  cases v<;>first | exact vV_dCell _ | exact absurd rfl (h _)
theorem vV_evD (F:DFr) (x:Operand):vV G (evD F x)=ev (vVs G F) x:=by
 cases x with
 | tmp t=>simp only [evD,getF0_eq,ev,vVs_getD]
 | const v=>simp only [evD,ev,vV_dVal]
 | global g=>simp only [evD,ev,vV]
 | func f=>simp only [evD,ev,vV,vVs]
def Wo (G:Nat→List AV) (o:Option (EB×EV)) (p:Option (Bool×AV)):Prop:=∀ c v,o=some (c,v)→vB G c=true→p=some (true,vV G v)
theorem Wo.none {p:Option (Bool×AV)}:Wo G none p:=fun c v h=>by simp at h
theorem Wo.some {c:EB} {v:EV} {p:Option (Bool×AV)} (h:vB G c=true→p=some (true,vV G v)):Wo G (some (c,v)) p:=fun c' v' he hc=>by
 simp only [Option.some.injEq,Prod.mk.injEq] at he
 obtain ⟨rfl,rfl⟩:=he
 exact h hc
theorem binInt_wo {op:BinOp} {k:IntKind} {x y:EI}:Wo G (binIntD op k x y) (binInt op k (vI G x) (vI G y)):=by
 have nz:vB G (mkNot (mkCmp .eql y (.lit 0)))=true→(!(vI G y==0))=true:=fun h=>by
  simpa only [vB_mkNot,vB_mkCmp,cmpI,vI] using h
 cases op<;>simp only [binIntD,binInt]<;>first
  | exact Wo.none
  | (refine Wo.some fun hc=>?_;rw [nz hc];simp only [vV,vI_mkBin,binI];done)
  | (refine Wo.some fun hc=>?_;simp only [vV,vI_mkBin,binI,vB_mkNot,vB_mkCmp,cmpI];done)
  | (refine Wo.some fun hc=>?_;simp only [vV,vI_mkBin,binI,vB_mkNot,vB_mkCmp,cmpI];rfl)
theorem binShift_wo {op:BinOp} {k:IntKind} {x y:EI}:Wo G (binShiftD op k x y) (binShift op k (vI G x) (vI G y)):=by
 have nz:vB G (mkCmp .leq (.lit 0) y)=true→decide (0≤vI G y)=true:=fun h=>by
  rw [vB_mkCmp] at h
  exact decide_eq_true (of_decide_eq_true h)
 cases op<;>simp only [binShiftD,binShift]<;>first
  | exact Wo.none
  | (refine Wo.some fun hc=>?_;rw [nz hc];simp only [vV,vI_mkBin,binI];done)
theorem binStr_wo {op:BinOp} {x y:ES}:Wo G (binStrD op x y) (binStr op (vS G x) (vS G y)):=by
  cases op<;>simp only [binStrD,binStr]<;>first
    | exact Wo.none
    | (refine Wo.some fun hc => ?_
       rw [vB_mkLe,vN_mkAdd,vN_slenD,vN_slenD] at hc
       simp only [vV,vS_mkApp,Option.some.injEq,Prod.mk.injEq,and_true]
       exact hc)
    | (refine Wo.some fun hc=>?_;simp only [vV,vB_mkEqS,vB_mkNot];done)
theorem eqOp_wo {op:BinOp} {c:Bool} {b:EB}:Wo G (eqOpD op c b) (eqOp op c (vB G b)):=by
 cases op<;>simp only [eqOpD,eqOp]<;>first
  | exact Wo.none
  | (refine Wo.some fun hc=>?_;simp only [vB] at hc;subst hc;simp only [vV,vB_mkNot];done)
def We (G:Nat→List AV) (o:Option (EB×EB)) (p:Option (Bool×Bool)):Prop:=∀ c b,o=some (c,b)→vB G c=true→p=some (true,vB G b)
theorem part_wo {P:Program} {t:TypeId} {l:EL} {o:EN}:Wo G (partD P t l o) (partA P t (vL G l) (vN G o)):=by
 have agg:∀ z,vB G (mkLe (mkAdd o (.lit z)) (mkLen l))=true→decide (vN G o+z≤(vL G l).length)=true:=fun z h=>by
  rw [vB_mkLe,vN_mkAdd,vN_mkLen] at h
  exact h
 have any:∀ n,litN o=some n→∀ c v,rdAny l n=some (c,v)→vB G c=true→(match (vL G l)[vN G o]? with | some v=>some (true,v) | none=>none)=some (true,vV G v):=fun n ho c v h hc=>by
  have:=litN_some ho;subst this
  have:=rdAny_ok l n c v h hc
  simp only [vN,this]
 intro c v h hc
 unfold partD at h
 unfold partA
 split at h
 ·rename_i k hu
  simp only [hu]
  split at h
  ·rename_i c' e hr
   simp only [Option.some.injEq,Prod.mk.injEq] at h
   obtain ⟨rfl,rfl⟩:=h
   obtain ⟨h1,h2⟩:=rdI_ok hr hc
   simp only [h1,h2,vV]
  ·simp at h
 ·rename_i hu
  simp only [hu]
  split at h
  ·rename_i c' e hr
   simp only [Option.some.injEq,Prod.mk.injEq] at h
   obtain ⟨rfl,rfl⟩:=h
   obtain ⟨h1,h2⟩:=rdB_ok hr hc
   simp only [h1,h2,vV]
  ·simp at h
 ·rename_i fs hu
  simp only [hu]
  split at h
  ·rename_i z hz
   simp only [Option.some.injEq,Prod.mk.injEq] at h
   obtain ⟨rfl,rfl⟩:=h
   simp only [hz,agg z hc,vV,vL_mkSubL,vN]
  ·simp at h
 ·rename_i n e hu
  simp only [hu]
  split at h
  ·rename_i z hz
   simp only [Option.some.injEq,Prod.mk.injEq] at h
   obtain ⟨rfl,rfl⟩:=h
   simp only [hz,agg z hc,vV,vL_mkSubL,vN]
  ·simp at h
 ·rename_i d h1 h2 h3 h4 hu
  simp only [hu]
  split at h
  ·rename_i n ho
   have:=any n ho c v h hc
   cases d<;>first
    | exact this
    | exact absurd hu (h1 _)
    | exact absurd hu h2
    | exact absurd hu (h3 _)
    | exact absurd hu (h4 _ _)
  ·simp at h
 ·simp at h
end Go.Am
namespace Go.Am
variable {G:Nat→List AV}
theorem and_true' {a b:Bool} (h:(a&&b)=true):a=true∧b=true:=by simpa using h
theorem mkAnd_true {a b:EB} (h:vB G (mkAnd a b)=true):vB G a=true∧vB G b=true:=by
 rw [vB_mkAnd] at h;exact and_true' h
theorem eqFs_we {P:Program} {recD:TypeId→EV→EV→Option (EB×EB)} {rec:TypeId→AV→AV→Option (Bool×Bool)} (hr:∀ t x y,We G (recD t x y) (rec t (vV G x) (vV G y))) {xs ys:EL} :
    ∀ fs,We G (eqFsD P recD xs ys fs) (eqFs P rec (vL G xs) (vL G ys) fs)
  | [] => fun c b h _ => by
    simp only [eqFsD,Option.some.injEq,Prod.mk.injEq] at h
    obtain ⟨rfl,rfl⟩:=h
    simp only [eqFs,vB]
  | f::fs=>fun c b h hc=>by
    unfold eqFsD at h
    unfold eqFs
    split at h
    · rename_i hn
      rw [if_pos hn]
      split at h
      · rename_i c1 a c2 b' h1 h2
        split at h
        · rename_i c3 r c4 s h3 h4
          simp only [Option.some.injEq,Prod.mk.injEq] at h
          obtain ⟨rfl,rfl⟩:=h
          obtain ⟨g1,hc⟩:=mkAnd_true hc
          obtain ⟨g2,hc⟩:=mkAnd_true hc
          obtain ⟨g3,g4⟩:=mkAnd_true hc
          have e1:=part_wo _ _ h1 g1
          have e2:=part_wo _ _ h2 g2
          have e3:=hr _ _ _ _ _ h3 g3
          have e4:=eqFs_we hr fs _ _ h4 g4
          simp only [vN] at e1 e2
          simp only [e1,e2,e3,e4,vB_mkAnd,Bool.and_self]
        · simp at h
      · simp at h
    · rename_i hn
      rw [if_neg hn]
      exact eqFs_we hr fs _ _ h hc
theorem eqIs_we {P:Program} {recD:TypeId→EV→EV→Option (EB×EB)} {rec:TypeId→AV→AV→Option (Bool×Bool)} (hr:∀ t x y,We G (recD t x y) (rec t (vV G x) (vV G y))) {e:TypeId} {z:Nat} {xs ys:EL} :
  ∀ is,We G (eqIsD P recD e z xs ys is) (eqIs P rec e z (vL G xs) (vL G ys) is)
 | []=>fun c b h _=>by
  simp only [eqIsD,Option.some.injEq,Prod.mk.injEq] at h
  obtain ⟨rfl,rfl⟩:=h
  simp only [eqIs,vB]
 | i::is=>fun c b h hc=>by
  unfold eqIsD at h
  unfold eqIs
  split at h
  ·rename_i c1 a c2 b' h1 h2
   split at h
   ·rename_i c3 r c4 s h3 h4
    simp only [Option.some.injEq,Prod.mk.injEq] at h
    obtain ⟨rfl,rfl⟩:=h
    obtain ⟨g1,hc⟩:=mkAnd_true hc
    obtain ⟨g2,hc⟩:=mkAnd_true hc
    obtain ⟨g3,g4⟩:=mkAnd_true hc
    have e1:=part_wo _ _ h1 g1
    have e2:=part_wo _ _ h2 g2
    have e3:=hr _ _ _ _ _ h3 g3
    have e4:=eqIs_we hr is _ _ h4 g4
    simp only [vN] at e1 e2
    simp only [e1,e2,e3,e4,vB_mkAnd,Bool.and_self]
   ·simp at h
  ·simp at h
theorem eqV_we {P:Program}:∀ n t x y,We G (eqVD P n t x y) (eqV P n t (vV G x) (vV G y))
 | 0,t,x,y=>fun c b h=>by simp [eqVD] at h
 | n+1,t,x,y=>fun c b h hc=>by
  unfold eqVD at h
  unfold eqV
  split at h
  ·rename_i k hu
   simp only [hu]
   split at h
   ·split at h
    ·rename_i hk
     subst hk
     simp only [Option.some.injEq,Prod.mk.injEq] at h
     obtain ⟨rfl,rfl⟩:=h
     simp only [vV,vB_mkCmp,cmpI,decide_true]
    ·simp at h
   ·simp at h
  ·rename_i hu
   simp only [hu]
   split at h
   ·simp only [Option.some.injEq,Prod.mk.injEq] at h
    obtain ⟨rfl,rfl⟩:=h
    simp only [vV,vB_mkEqB]
   ·simp at h
  ·rename_i hu
   simp only [hu]
   split at h
   ·simp only [Option.some.injEq,Prod.mk.injEq] at h
    obtain ⟨rfl,rfl⟩:=h
    simp only [vV,vB_mkEqS]
   ·simp at h
  ·rename_i fs hu
   simp only [hu]
   split at h
   ·split at h
    ·simp at h
    ·rename_i hs
     simp only [vV,hs]
     exact eqFs_we (fun t x y=>eqV_we n t x y) _ _ _ h hc
   ·simp at h
  ·rename_i m e hu
   simp only [hu]
   split at h
   ·split at h
    ·rename_i z hz
     simp only [vV,hz]
     exact eqIs_we (fun t x y=>eqV_we n t x y) _ _ _ h hc
    ·simp at h
   ·simp at h
  ·simp at h
theorem eqA_we {P:Program} {t:TypeId} {xs ys:EL}:We G (eqAD P t xs ys) (eqV P 10 t (.agg (vL G xs)) (.agg (vL G ys))):=by
 intro c b h hc
 unfold eqAD at h
 split at h
 ·have:=eqV_we 10 t (.agg xs) (.agg ys) c b h hc
  simpa only [vV] using this
 ·simp only [Option.some.injEq,Prod.mk.injEq] at h
  obtain ⟨rfl,rfl⟩:=h
  simp only [vB,vVs,vV,eqA1] at hc
  simp only [vB,vVs,vV,eqA2]
  split at hc
  ·rename_i c' b' he
   simp only [he,hc]
  ·simp at hc
theorem bin_wo {P:Program} {op:BinOp} {t:TypeId} {x y:EV}:Wo G (binD P op t x y) (binAV P op t (vV G x) (vV G y)):=by
 intro c v h hc
 unfold binD at h
 split at h
 ·rename_i k a k' b
  split at h
  ·simp only [vV,binAV];exact binShift_wo _ _ h hc
  ·simp only [vV,binAV];exact binShift_wo _ _ h hc
  ·rename_i h1 h2
   split at h
   ·rename_i hk
    subst hk
    have:=binInt_wo _ _ h hc
    simp only [vV,binAV]
    cases op<;>first
     | exact absurd rfl h1
     | exact absurd rfl h2
     | (rw [if_pos trivial];exact this)
     | (rw [if_pos rfl];exact this)
   ·simp at h
 ·simp only [vV,binAV];exact binStr_wo _ _ h hc
 ·have:=eqOp_wo _ _ h hc
  simp only [vV,binAV];rw [vB_mkEqB] at this;exact this
 ·simp only [vV,binAV];exact eqOp_wo _ _ h hc
 ·simp only [vV,binAV];exact eqOp_wo _ _ h hc
 ·simp only [vV,binAV];exact eqOp_wo _ _ h hc
 ·simp only [vV,binAV];exact eqOp_wo _ _ h hc
 ·simp only [vV,binAV];exact eqOp_wo _ _ h hc
 ·simp only [vV,binAV];exact eqOp_wo _ _ h hc
 ·simp only [vV,binAV];exact eqOp_wo _ _ h hc
 ·rename_i xs ys
  simp only [vV,binAV]
  split at h
  ·simp at h
  ·rename_i hg
   simp only [hg]
   split at h
   ·rename_i c' b he
    split at h
    ·simp only [Option.some.injEq,Prod.mk.injEq] at h
     obtain ⟨rfl,rfl⟩:=h
     simp only [eqA_we _ _ he hc,eqOp,vV]
    ·simp only [Option.some.injEq,Prod.mk.injEq] at h
     obtain ⟨rfl,rfl⟩:=h
     simp only [eqA_we _ _ he hc,eqOp,vV,vB_mkNot]
    ·simp at h
   ·simp at h
 ·simp at h
theorem un_wo {op:UnOp} {x:EV}:Wo G (unD op x) (unAV op (vV G x)):=by
 intro c v h hc
 unfold unD at h
 split at h<;>first
  | (simp only [Option.some.injEq,Prod.mk.injEq] at h;obtain ⟨rfl,rfl⟩:=h;simp only [vV,unAV,vI_mkNeg,vI_mkCpl,vB_mkNot];done)
  | (simp at h;done)
theorem conv_wo {P:Program} {s d:TypeId} {x:EV}:Wo G (convD P s d x) (convAV P s d (vV G x)):=by
 intro c v h hc
 unfold convD at h
 split at h
 ·rename_i h1 h2
  simp only [Option.some.injEq,Prod.mk.injEq] at h;obtain ⟨rfl,rfl⟩:=h
  simp only [vV,convAV,h1,h2,vI_mkConv]
 ·rename_i h1 h2
  simp only [Option.some.injEq,Prod.mk.injEq] at h;obtain ⟨rfl,rfl⟩:=h
  simp only [vV,convAV,h1,h2]
 ·simp at h
theorem field_wo {P:Program} {s:TypeId} {x:EV} {f:Nat}:Wo G (fieldD P s x f) (fieldAV P s (vV G x) f):=by
 intro c v h hc
 unfold fieldD at h
 split at h
 ·rename_i fs r off hu
  simp only [vV,fieldAV,hu]
  split at h
  ·rename_i fd hf
   simp only [hf]
   split at h
   ·simp at h
   ·rename_i z h0 hz
    simp only [Option.some.injEq,Prod.mk.injEq] at h;obtain ⟨rfl,rfl⟩:=h
    simp only [hz]
    cases z with
    | zero=>exact absurd rfl h0
    | succ z=>simp only [vV,vN_mkAdd,vN]
   ·simp at h
  ·simp at h
 ·simp at h
theorem le_lt_true {P:Bool} {i l:EI} {z:Int} (hz:vI G l=z) (h:vB G (mkAnd (mkCmp .leq (.lit 0) i) (mkCmp .lss i l))=true):(decide (0≤vI G i)&&decide (vI G i<z))=true:=by
 obtain ⟨h1,h2⟩:=mkAnd_true h
 rw [vB_mkCmp] at h1 h2
 rw [hz] at h2
 simp only [vI] at h1
 rw [Bool.and_eq_true]
 exact ⟨decide_eq_true (of_decide_eq_true h1),decide_eq_true (of_decide_eq_true h2)⟩
theorem index_wo {P:Program} {t:TypeId} {x i:EV}:Wo G (indexD P t x i) (indexAV P t (vV G x) (vV G i)):=by
 intro c v h hc
 unfold indexD at h
 split at h
 ·split at h
  ·rename_i len e r off hu
   simp only [vV,indexAV,hu]
   split at h
   ·rename_i z hz
    simp only [Option.some.injEq,Prod.mk.injEq] at h;obtain ⟨rfl,rfl⟩:=h
    simp only [hz,le_lt_true (P:=true) (z:=len) (by simp only [vI]) hc,vV,vN_mkAdd,vN_mkMulz,vN_mkToN]
   ·simp at h
  ·rename_i e mb r off len hu
   simp only [vV,indexAV,hu]
   split at h
   ·rename_i z hz
    simp only [Option.some.injEq,Prod.mk.injEq] at h;obtain ⟨rfl,rfl⟩:=h
    simp only [hz,le_lt_true (P:=true) (z:=(vN G len:Int)) (vI_mkOfN _) hc,vV,vN_mkAdd,vN_mkMulz,vN_mkToN]
   ·simp at h
  ·simp at h
 ·simp at h
theorem bound_ok {x:Option EV} {d:EI} {e:EI} (h:boundD x d=some e):boundAV (x.map (vV G)) (vI G d)=some (vI G e):=by
 unfold boundD at h
 split at h
 ·simp at h;subst h;rfl
 ·simp at h;subst h;simp only [Option.map_some,vV,boundAV]
 ·simp at h
theorem le3_true {a b c:EI} {z:Int} (hz:vI G c=z) (h:vB G (mkAnd (mkCmp .leq (.lit 0) a) (mkAnd (mkCmp .leq a b) (mkCmp .leq b c)))=true):(decide (0≤vI G a)&&(decide (vI G a≤vI G b)&&decide (vI G b≤z)))=true:=by
 obtain ⟨h1,h⟩:=mkAnd_true h
 obtain ⟨h2,h3⟩:=mkAnd_true h
 rw [vB_mkCmp] at h1 h2 h3
 rw [hz] at h3
 simp only [vI] at h1
 rw [Bool.and_eq_true,Bool.and_eq_true]
 exact ⟨decide_eq_true (of_decide_eq_true h1),decide_eq_true (of_decide_eq_true h2),decide_eq_true (of_decide_eq_true h3)⟩
theorem slice_wo {P:Program} {t:TypeId} {x:EV} {lo hi:Option EV}:Wo G (sliceD P t x lo hi) (sliceAV P t (vV G x) (lo.map (vV G)) (hi.map (vV G))):=by
 intro c v h hc
 unfold sliceD at h
 split at h
 ·rename_i e mb r off len hu
  simp only [vV,sliceAV,hu]
  split at h
  ·rename_i z l hh hz hl hh'
   simp only [Option.some.injEq,Prod.mk.injEq] at h;obtain ⟨rfl,rfl⟩:=h
   have e1:=bound_ok (G:=G) hl
   have e2:=bound_ok (G:=G) hh'
   rw [vI_mkOfN] at e2
   simp only [vI] at e1
   simp only [hz,e1,e2,le3_true (z:=(vN G len:Int)) (vI_mkOfN _) hc,vV,vN_mkAdd,vN_mkMulz,vN_mkToN,vN_mkSub]
  ·simp at h
 ·rename_i e hu
  simp only [vV,sliceAV,hu]
  split at h
  ·rename_i z l hh hz hl hh'
   simp only [Option.some.injEq,Prod.mk.injEq] at h;obtain ⟨rfl,rfl⟩:=h
   have e1:=bound_ok (G:=G) hl
   have e2:=bound_ok (G:=G) hh'
   simp only [vI] at e1 e2
   simp only [hz,e1,e2,le3_true (z:=0) (by simp only [vI]) hc,vV]
  ·simp at h
 ·rename_i s hu
  simp only [vV,sliceAV,hu]
  split at h
  ·rename_i l hh hl hh'
   simp only [Option.some.injEq,Prod.mk.injEq] at h;obtain ⟨rfl,rfl⟩:=h
   have e1:=bound_ok (G:=G) hl
   have e2:=bound_ok (G:=G) hh'
   rw [vI_mkOfN,vN_slenD] at e2
   simp only [vI] at e1
   simp only [e1,e2,le3_true (z:=((vS G s).length:Int)) (by rw [vI_mkOfN,vN_slenD]) hc,vV,vS,vN_mkToN]
  ·simp at h
 ·simp at h
theorem vL_cellsOf (v:EV):vL G (cellsOfD v)=cellsOf (vV G v):=by
 unfold cellsOfD cellsOf
 cases v<;>simp [vL,vVs,vV]
theorem known_ok {v:EV} (h:knownD v=true):known (vV G v)=true:=by
 cases v<;>simp [knownD] at h<;>simp [vV,known]
theorem isCell_ok (v:EV):isCell (vV G v)=isCellD v:=by
 cases v<;>simp [vV,isCell,isCellD]
theorem allCell_ok (l:EL):vB G (allCellD l)=(vL G l).all isCell:=by
 unfold allCellD
 split
 ·simp only [vB,vL,vVs_map,List.all_map]
  congr 1
  funext x;simp [isCell_ok]
 ·simp only [vB,cellsB]
 ·simp only [vB,cellsB]
theorem goodCells_ok (v:EV):vB G (goodCellsD v)=true→(cellsOf (vV G v)).all isCell=true:=by
 intro h
 unfold goodCellsD at h
 split at h
 ·rw [allCell_ok] at h;simpa only [vV,cellsOf] using h
 ·rename_i hn
  simp only [vB] at h
  have:cellsOf (vV G v)=[vV G v]:=by
   cases v<;>simp [vV,cellsOf]
   exact absurd rfl (hn _)
  rw [this];simp [isCell_ok,h]
theorem sizeIs_ok {v:EV} {z:Nat} (h:vB G (sizeIsD v z)=true):sizeOfAV (vV G v)=z:=by
 unfold sizeIsD at h
 split at h
 ·rw [vB_mkEqN,vN_mkLen] at h
  simp only [vN] at h
  simp only [vV,sizeOfAV]
  exact Nat.eq_of_beq_eq_true h
 ·rename_i hn
  simp only [vB] at h
  have:=Nat.eq_of_beq_eq_true h
  subst this
  cases v<;>simp [vV,sizeOfAV]
  exact absurd rfl (hn _)
theorem fill_wo {place:Nat→Option (Nat×Nat)}:∀ (parts:List (Nat×EV)) (cells:EL) (c:EB) (r:EL),fillD place cells parts=some (c,r)→vB G c=true→
  fillAV place (vL G cells) (parts.map fun p=>(p.1,vV G p.2))=some (true,vL G r)
 | [],cells,c,r,h,_=>by
  simp only [fillD,Option.some.injEq,Prod.mk.injEq] at h
  obtain ⟨rfl,rfl⟩:=h
  simp only [List.map_nil,fillAV]
 | (i,v)::rest,cells,c,r,h,hc=>by
  unfold fillD at h
  simp only [List.map_cons,fillAV]
  split at h
  ·simp at h
  ·rename_i off size hp
   simp only [hp]
   split at h
   ·simp at h
   ·rename_i c' r' hf
    split at h
    ·rename_i hk
     simp only [Option.some.injEq,Prod.mk.injEq] at h
     obtain ⟨rfl,rfl⟩:=h
     obtain ⟨g1,hc⟩:=mkAnd_true hc
     obtain ⟨g2,g3⟩:=mkAnd_true hc
     have:=fill_wo rest _ _ _ hf g3
     rw [vL_mkSet] at this
     simp only [vN] at this
     rw [vB_mkLe,vN_mkLen] at g2
     simp only [vN] at g2
     have e1:=sizeIs_ok g1
     have e2:decide (off+size≤(vL G cells).length)=true:=g2
     simp only [this,known_ok hk,e1,e2,beq_self_eq_true,Bool.and_self]
    ·simp at h
theorem zero_ok {P:Program} {t:TypeId} {z:EV} (h:zeroD P t=some z):zeroOf P t=some (vV G z):=by
 unfold zeroD at h
 unfold zeroOf
 split at h
 ·rename_i i hi
  simp only [hi]
  split at h
  ·rename_i z' hz
   simp at h;subst h
   simp only [hz,vV_dVal]
  ·simp at h
 ·simp at h
theorem build_wo {P:Program} {t:TypeId} {parts:List (Nat×EV)}:Wo G (buildD P t parts) (buildAV P t (parts.map fun p=>(p.1,vV G p.2))):=by
 intro c v h hc
 unfold buildD at h
 split at h
 ·rename_i fs z hu hz
  have hz:=zero_ok (G:=G) hz
  simp only [vV] at hz
  simp only [buildAV,hu,hz]
  split at h
  ·rename_i ps hps
   simp only [hps]
   split at h
   ·rename_i c' cs hf
    simp only [Option.some.injEq,Prod.mk.injEq] at h;obtain ⟨rfl,rfl⟩:=h
    simp only [fill_wo _ _ _ _ hf hc,vV]
   ·simp at h
  ·simp at h
 ·rename_i n e z hu hz
  have hz:=zero_ok (G:=G) hz
  simp only [vV] at hz
  simp only [buildAV,hu,hz]
  split at h
  ·rename_i n hn
   simp only [hn]
   split at h
   ·rename_i c' cs hf
    simp only [Option.some.injEq,Prod.mk.injEq] at h;obtain ⟨rfl,rfl⟩:=h
    simp only [fill_wo _ _ _ _ hf hc,vV]
   ·simp at h
  ·simp at h
 ·simp at h
theorem len_wo {P:Program} {t:TypeId} {x:EV}:Wo G (lenD P t x) (lenAV P t (vV G x)):=by
 intro c v h hc
 unfold lenD at h
 split at h
 ·rename_i s hu
  simp only [Option.some.injEq,Prod.mk.injEq] at h;obtain ⟨rfl,rfl⟩:=h
  simp only [vV,lenAV,hu,vI_mkOfN,vN_slenD]
 ·rename_i n e hu
  simp only [Option.some.injEq,Prod.mk.injEq] at h;obtain ⟨rfl,rfl⟩:=h
  simp only [lenAV,hu,vV,vI]
 ·rename_i e mb r o n hu
  simp only [Option.some.injEq,Prod.mk.injEq] at h;obtain ⟨rfl,rfl⟩:=h
  simp only [vV,lenAV,hu,vI_mkOfN]
 ·rename_i e hu
  simp only [Option.some.injEq,Prod.mk.injEq] at h;obtain ⟨rfl,rfl⟩:=h
  simp only [vV,lenAV,hu,vI]
 ·simp at h
theorem cap_wo {P:Program} {t:TypeId} {x:EV}:Wo G (capD P t x) (capAV P t (vV G x)):=by
 intro c v h hc
 unfold capD at h
 split at h
 ·rename_i e hu
  simp only [Option.some.injEq,Prod.mk.injEq] at h;obtain ⟨rfl,rfl⟩:=h
  simp only [vV,capAV,hu,vI]
 ·simp at h
theorem max_wo {x y:EV}:Wo G (maxD x y) (maxAV (vV G x) (vV G y)):=by
 intro c v h hc
 unfold maxD at h
 split at h
 ·split at h
  ·rename_i hk
   subst hk
   simp only [Option.some.injEq,Prod.mk.injEq] at h;obtain ⟨rfl,rfl⟩:=h
   simp only [vV,maxAV,if_pos,vI]
  ·simp at h
 ·simp at h
theorem min_wo {x y:EV}:Wo G (minD x y) (minAV (vV G x) (vV G y)):=by
 intro c v h hc
 unfold minD at h
 split at h
 ·split at h
  ·rename_i hk
   subst hk
   simp only [Option.some.injEq,Prod.mk.injEq] at h;obtain ⟨rfl,rfl⟩:=h
   simp only [vV,minAV,if_pos,vI]
  ·simp at h
 ·simp at h
theorem pick_wo {c a b:EV}:Wo G (pickD c a b) (pickAV (vV G c) (vV G a) (vV G b)):=by
 intro c' v h hc
 unfold pickD at h
 split at h<;>first
  | (simp only [Option.some.injEq,Prod.mk.injEq] at h;obtain ⟨rfl,rfl⟩:=h;simp only [vV,vB,pickAV];done)
  | (simp at h;done)
theorem nilCheck_wo {x:EV}:Wo G (nilCheckD x) (nilCheckAV (vV G x)):=by
 intro c' v h hc
 unfold nilCheckD at h
 split at h<;>first
  | (simp only [Option.some.injEq,Prod.mk.injEq] at h;obtain ⟨rfl,rfl⟩:=h;simp only [vV,nilCheckAV];done)
  | (simp at h;done)
theorem one_wo {v:EV} {w:AV} (h:vV G v=w):Wo G (some (.lit true,v)) (some (true,w)):=Wo.some fun _=>by rw [h]
theorem map_ev {F:DFr} (l:List Operand):(l.map (ev (vVs G F)))=vVs G (l.map (evD F)):=by
 rw [vVs_map (List.map (evD F) l),List.map_map]
 congr 1
 funext x;simp [vV_evD]
theorem omap_ev {F:DFr} (x:Option Operand):x.map (ev (vVs G F))=(x.map (evD F)).map (vV G):=by
 cases x<;>simp [vV_evD]
theorem pure_wo {P:Program} {F:DFr} {op:Op}:Wo G (pureD P F op) (pureOp P (vVs G F) op):=by
 intro c v h hc
 unfold pureD at h
 split at h
 ·exact one_wo (vV_evD F _) _ _ h hc
 ·exact one_wo (vV_evD F _) _ _ h hc
 ·simp only [pureOp,←vV_evD];exact pick_wo _ _ h hc
 ·simp only [pureOp,←vV_evD];exact nilCheck_wo _ _ h hc
 ·simp only [pureOp,←vV_evD];exact bin_wo _ _ h hc
 ·simp only [pureOp,←vV_evD];exact un_wo _ _ h hc
 ·simp only [pureOp,←vV_evD];exact conv_wo _ _ h hc
 ·simp only [pureOp,←vV_evD];exact field_wo _ _ h hc
 ·simp only [pureOp,←vV_evD];exact index_wo _ _ h hc
 ·simp only [pureOp,←vV_evD,omap_ev];exact slice_wo _ _ h hc
 ·rename_i t parts
  simp only [pureOp]
  have:=build_wo _ _ h hc
  rw [List.map_map] at this
  rw [←this]
  congr 1
  refine List.map_congr_left fun p _=>?_
  simp [vV_evD]
 ·simp only [pureOp,←vV_evD]
  split at h
  ·rename_i vs he
   split at h
   ·rename_i v' hv
    simp only [Option.some.injEq,Prod.mk.injEq] at h;obtain ⟨rfl,rfl⟩:=h
    simp only [he,vV,vVs_get,hv,Option.map_some]
   ·simp at h
  ·simp at h
 ·rename_i f first cap
  simp only [pureOp]
  split at h
  ·rename_i h0
   simp only [Option.some.injEq,Prod.mk.injEq] at h;obtain ⟨rfl,rfl⟩:=h
   rw [if_pos h0,map_ev];simp only [vV]
  ·simp at h
 ·simp only [pureOp]
  split at h
  ·rename_i x t h1 h2
   simp only [h1,h2,←vV_evD];exact len_wo _ _ h hc
  ·simp at h
 ·simp only [pureOp]
  split at h
  ·rename_i x t h1 h2
   simp only [h1,h2,←vV_evD];exact cap_wo _ _ h hc
  ·simp at h
 ·simp only [pureOp]
  split at h
  ·rename_i x y h1
   simp only [h1,←vV_evD];exact max_wo _ _ h hc
  ·simp at h
 ·simp only [pureOp]
  split at h
  ·rename_i x y h1
   simp only [h1,←vV_evD];exact min_wo _ _ h hc
  ·simp at h
 ·simp at h
end Go.Am
namespace Go.Am
variable {G:Nat→List AV}
noncomputable def vBlk (G:Nat→List AV) (b:DBlk):Blk:=⟨b.esz,vL G b.cells⟩
noncomputable def vHp (G:Nat→List AV) (H:DHp):Hp:=H.map (Option.map (vBlk G))
noncomputable def vHop (G:Nat→List AV):DHop→Hop
 | .set i b=>.set i (vBlk G b)
 | .new b=>.new (vBlk G b)
 | .app j b=>.app j (vBlk G b)
theorem vHp_length (H:DHp):(vHp G H).length=H.length:=by simp [vHp]
theorem vHp_get (H:DHp) (i:Nat):(vHp G H)[i]?=(H[i]?).map (Option.map (vBlk G)):=by simp [vHp]
theorem vHp_some {H:DHp} {i:Nat} {b:DBlk} (h:H[i]?=some (some b)):(vHp G H)[i]?=some (some (vBlk G b)):=by rw [vHp_get,h];rfl
theorem vHop_act (H:DHp) (h:DHop):vHp G (h.act H)=(vHop G h).act (vHp G H):=by
 cases h<;>simp [DHop.act,Hop.act,vHop,vHp,List.map_set]
theorem vHop_acts:∀ (hs:List DHop) (H:DHp),vHp G (dacts H hs)=acts (vHp G H) (hs.map (vHop G))
 | [],H=>rfl
 | h::hs,H=>by simp only [dacts,List.map_cons,acts,vHop_acts hs,vHop_act]
open Classical in
theorem rowsA_iff {l ls:List AV}:rowsA l ls=true↔∀ v∈ls,v=.agg l:=by unfold rowsA;exact decide_eq_true_iff
theorem famRows_ok (z:Nat):∀ (c j:Nat) (H:DHp) (ls:List EV),famRows z j H c=some ls→ls.length=c∧∀ i,i<c→∃ l,H[i]?=some (some ⟨z,.row l (.lit (j+i))⟩)∧ls[i]?=some (.agg l)
 | 0,j,H,ls,h=>by
  have:famRows z j H 0=some []:=by unfold famRows;rfl
  rw [this] at h
  simp only [Option.some.injEq] at h;subst h;exact ⟨rfl,fun i hi=>by omega⟩
 | c+1,j,[],ls,h=>by simp [famRows] at h
 | c+1,j,none::H,ls,h=>by simp [famRows] at h
 | c+1,j,some ⟨z',l0⟩::H,ls,h=>by
  cases l0 with
  | row l k=>cases k with
   | lit i0=>
    simp only [famRows] at h
    split at h
    ·rename_i hb
     split at h
     ·rename_i ls' h1
      simp only [Option.some.injEq] at h;subst h
      rw [Bool.and_eq_true] at hb
      have e1:=Nat.eq_of_beq_eq_true hb.1
      have e2:=Nat.eq_of_beq_eq_true hb.2
      subst e1;subst e2
      obtain ⟨g1,g2⟩:=famRows_ok z c (i0+1) H ls' h1
      refine ⟨by simp [g1],fun i hi=>?_⟩
      cases i with
      | zero=>exact ⟨l,by simp,by simp⟩
      | succ i=>
       obtain ⟨l2,q1,q2⟩:=g2 i (by omega)
       exact ⟨l2,by rw [show i0+(i+1)=i0+1+i by omega];simpa using q1,by simpa using q2⟩
     ·simp at h
    ·simp at h
   | _=>simp [famRows] at h
  | _=>simp [famRows] at h
theorem famAt_ok {H:DHp} {b c z:Nat} {l:EL} {ls:List EV} (h:famAt H b c=some (z,l,ls)):Nat.beq z 4294967291=false∧ls.length=c∧∀ i,i<c→∃ l',H[b+i]?=some (some ⟨z,.row l' (.lit i)⟩)∧ls[i]?=some (.agg l'):=by
 unfold famAt at h
 split at h
 ·split at h
  ·simp at h
  ·rename_i hz
   split at h
   ·rename_i ls' h1
    simp only [Option.some.injEq,Prod.mk.injEq] at h
    obtain ⟨rfl,rfl,rfl⟩:=h
    obtain ⟨g1,g2⟩:=famRows_ok _ _ _ _ _ h1
    refine ⟨hz,g1,fun i hi=>?_⟩
    obtain ⟨l',q1,q2⟩:=g2 i hi
    rw [List.getElem?_drop] at q1
    exact ⟨l',by simpa using q1,q2⟩
   ·simp at h
 ·simp at h
theorem vVs_get? {ls:List EV} {i:Nat} {x:EV} (h:ls[i]?=some x):(vVs G ls)[i]?=some (vV G x):=by rw [vVs_map,List.getElem?_map,h];rfl
theorem fam_at {H:DHp} {b c z:Nat} {l:EL} {ls:List EV} (h:famAt H b c=some (z,l,ls)) (hr:rowsA (vL G l) (vVs G ls)=true) {i:Nat} (hi:i<c):(vHp G H)[b+i]?=some (some ⟨z,rowA (vL G l) i⟩):=by
 obtain ⟨_,g1,g2⟩:=famAt_ok h
 obtain ⟨l',q1,q2⟩:=g2 i hi
 have e:=rowsA_iff.1 hr _ (List.mem_of_getElem? (vVs_get? (G:=G) q2))
 simp only [vV,AV.agg.injEq] at e
 rw [vHp_some q1]
 simp only [vBlk,vL,vN,e]
theorem cellsAt_ok {C:Ctx} (hG:C.G=G) {H:DHp} {r:ER} {c0:EB} {l:EL} (h:cellsAtD H r=some (c0,l)) (hc:vB G c0=true):cellsAt C (vHp G H) (vR G r)=some (vL G l):=by
 unfold cellsAtD at h
 split at h
 ·split at h
  ·rename_i b hb
   split at h
   ·simp at h
   rename_i hr
   simp only [Option.some.injEq,Prod.mk.injEq] at h;obtain ⟨rfl,rfl⟩:=h
   have hr:isRec (vBlk G b)=false:=hr
   simp only [vR,cellsAt,vHp_some hb,hr]
   simp only [vBlk]
  ·simp at h
 ·simp only [Option.some.injEq,Prod.mk.injEq] at h;obtain ⟨rfl,rfl⟩:=h
  simp only [vR,cellsAt,vL,hG]
 ·rename_i b c k
  split at h
  ·rename_i z l' ls hf
   simp only [Option.some.injEq,Prod.mk.injEq] at h;obtain ⟨rfl,rfl⟩:=h
   obtain ⟨g1,g2⟩:=mkAnd_true hc
   rw [vB_mkLe,vN_mkAdd] at g1
   simp only [vN] at g1
   have g1:=leB_iff.1 g1
   simp only [vB] at g2
   have hr:isRec ⟨z,rowA (vL G l') (vN G k)⟩=false:=(famAt_ok hf).1
   simp only [vR,cellsAt,fam_at hf g2 (show vN G k<c by omega),hr,vL]
  ·simp at h
theorem dleaf_ok (l:Lf) (cs:EL) (off:EN):vV G (leafD l cs off)=leafA l (vL G cs) (vN G off):=by
 cases l<;>simp only [leafD,leafA,vV,vI,vB,vS,vR,vN]
theorem dleafs_ok (cs:EL):∀ (ls:List Lf) (off:EN),vVs G (leafsD cs off ls)=leafsA (vL G cs) (vN G off) ls
 | [],off=>by simp only [leafsD,leafsA,vVs]
 | l::ls,off=>by
  simp only [leafsD,leafsA,vVs,dleaf_ok,dleafs_ok cs ls,vN_mkAdd,vN]
theorem partR_wo {P:Program} {t:TypeId} {cs:EL} {off:EN}:Wo G (partRD P t cs off) (partR P t (vL G cs) (vN G off)):=by
 intro c v h hc
 unfold partRD at h
 unfold partR
 split at h
 ·rename_i k hu
  simp only [hu]
  simp only [Option.some.injEq,Prod.mk.injEq] at h;obtain ⟨rfl,rfl⟩:=h
  simp only [vB] at hc
  simp only [hc,vV,vI]
 ·rename_i hu
  simp only [hu]
  simp only [Option.some.injEq,Prod.mk.injEq] at h;obtain ⟨rfl,rfl⟩:=h
  simp only [vB] at hc
  simp only [hc,vV,vB]
 ·rename_i hu
  simp only [hu]
  simp only [Option.some.injEq,Prod.mk.injEq] at h;obtain ⟨rfl,rfl⟩:=h
  simp only [vB] at hc
  simp only [hc,vV,vS]
 ·rename_i e hu
  simp only [hu]
  simp only [Option.some.injEq,Prod.mk.injEq] at h;obtain ⟨rfl,rfl⟩:=h
  simp only [vB] at hc
  simp only [hc,vV,vR,vN]
 ·rename_i fs hu
  simp only [hu]
  split at h
  ·rename_i z ls hz hl
   simp only [hz,hl]
   split at h
   ·rename_i hb
    simp only [Option.some.injEq,Prod.mk.injEq] at h;obtain ⟨rfl,rfl⟩:=h
    simp only [vB] at hc
    simp only [hb,hc,vV,vL,dleafs_ok,Bool.and_self]
   ·simp at h
  ·simp at h
 ·rename_i n e hu
  simp only [hu]
  split at h
  ·rename_i z ls hz hl
   simp only [hz,hl]
   split at h
   ·rename_i hb
    simp only [Option.some.injEq,Prod.mk.injEq] at h;obtain ⟨rfl,rfl⟩:=h
    simp only [vB] at hc
    simp only [hb,hc,vV,vL,dleafs_ok,Bool.and_self]
   ·simp at h
  ·simp at h
 ·simp at h
theorem load_wo {C:Ctx} (hG:C.G=G) {H:DHp} {t:TypeId} {r:ER} {off:EN}:Wo G (loadD C.P H t r off) (loadA C (vHp G H) t (vR G r) (vN G off)):=by
 intro c v h hc
 unfold loadD at h
 unfold loadA
 split at h
 ·rename_i c0 cs hcs
  split at h
  ·rename_i c1 v1 hp
   simp only [Option.some.injEq,Prod.mk.injEq] at h;obtain ⟨rfl,rfl⟩:=h
   obtain ⟨g1,g2⟩:=mkAnd_true hc
   rw [cellsAt_ok hG hcs g1]
   unfold partLD at hp
   split at hp
   ·simp only [vR,partL];exact part_wo _ _ hp g2
   ·simp only [vR,partL];exact partR_wo _ _ hp g2
   ·simp only [vR,partL];exact part_wo _ _ hp g2
  ·simp at h
 ·simp at h
theorem isFA_some {b c o:Nat} {cs:List AV} (h:isFA b c cs o=true):cs[o]?=some (.slice true (.rw (b+fkA b cs o)) (foA cs o) (fnA cs o))∧fkA b cs o<c:=by
 unfold isFA at h
 split at h
 ·rename_i i f n he
  rw [Bool.and_eq_true] at h
  have h1:=Nat.le_of_ble_eq_true h.1
  have h2:i<b+c:=Nat.blt_eq ▸ h.2
  have e1:fkA b cs o=i - b:=by unfold fkA;rw [he]
  have e2:foA cs o=f:=by unfold foA;rw [he]
  have e3:fnA cs o=n:=by unfold fnA;rw [he]
  rw [e1,e2,e3,he,show b+(i - b)=i by omega]
  exact ⟨rfl,by omega⟩
 ·simp at h
theorem isPA_some {b c o:Nat} {cs:List AV} (h:isPA b c cs o=true):cs[o]?=some (.ptr (.rw (b+fkA b cs o)) (foA cs o))∧fkA b cs o<c:=by
 unfold isPA at h
 split at h
 ·rename_i i f he
  rw [Bool.and_eq_true] at h
  have h1:=Nat.le_of_ble_eq_true h.1
  have h2:i<b+c:=Nat.blt_eq ▸ h.2
  have e1:fkA b cs o=i - b:=by unfold fkA;rw [he]
  have e2:foA cs o=f:=by unfold foA;rw [he]
  rw [e1,e2,he,show b+(i - b)=i by omega]
  exact ⟨rfl,by omega⟩
 ·simp at h
theorem isNilA_some {o:Nat} {cs:List AV} (h:isNilA cs o=true):cs[o]?=some .nilp:=by
 unfold isNilA at h
 split at h
 ·assumption
 ·simp at h
theorem famL1_ok {l:EL} {o:EN} {f:FL} (h:vB G (famO1 l o f)=true):(vL G l)[vN G o]?=some (vV G (famL1 l o f)):=by
 cases f with
 | int k=>
  simp only [famO1,vB] at h
  simp only [famL1,vV,vI]
  exact isI_some h
 | bool=>
  simp only [famO1,vB] at h
  simp only [famL1,vV,vB]
  unfold isB at h
  unfold getB
  split at h
  ·rename_i b he;rw [he]
  ·simp at h
 | sl b c=>
  simp only [famO1,vB] at h
  simp only [famL1,vV,vR,vN]
  exact (isFA_some h).1
theorem famL_ok:∀ (fs:List FL) {l:EL} {o:EN},vB G (famLO l o fs)=true→vVs G (famLV l o fs)=((vL G l).drop (vN G o)).take fs.length∧vN G o+fs.length≤max (vN G o) (vL G l).length
 | [],l,o,_=>by simp [famLV,vVs];omega
 | f::fs,l,o,h=>by
  simp only [famLO] at h
  obtain ⟨h1,h2⟩:=mkAnd_true h
  have e1:=famL1_ok h1
  obtain ⟨e2,e3⟩:=famL_ok fs h2
  rw [vN_mkAdd] at e2 e3
  simp only [vN] at e2 e3
  have hlt:vN G o<(vL G l).length:=(List.getElem?_eq_some_iff.1 e1).1
  refine ⟨?_,by simp only [List.length_cons];omega⟩
  simp only [famLV,vVs,e2]
  rw [List.drop_eq_getElem_cons hlt,List.length_cons,List.take_succ_cons]
  rw [List.getElem?_eq_getElem hlt] at e1
  simp only [Option.some.injEq] at e1
  rw [e1]
def WoF (G:Nat→List AV) (x:FamR) (p:Option (Bool×AV)):Prop:=
 match x with
 | .val c v=>vB G c=true→p=some (true,vV G v)
 | .ptr n c v=>(vB G n=true→p=some (true,.nilp))∧(vB G c=true→p=some (true,vV G v))
theorem famP_ok {fam:TypeId→Option (Nat×Nat)} {P:Program} {t:TypeId} {cs:EL} {off:EN} {x:FamR} (h:famP fam P t cs off=some x):WoF G x (partA P t (vL G cs) (vN G off)):=by
 unfold famP at h
 split at h
 ·simp at h
 ·rename_i b c hf
  split at h
  ·rename_i fs hu
   split at h
   ·simp at h
   ·split at h
    ·rename_i z ls hz hl
     split at h
     ·rename_i hb
      rw [Bool.and_eq_true] at hb
      have hz1:=Nat.le_of_ble_eq_true hb.2
      have hb:=Nat.eq_of_beq_eq_true hb.1
      simp only [Option.some.injEq] at h;subst h
      intro hc
      obtain ⟨e1,e2⟩:=famL_ok ls hc
      have hle:vN G off+z≤(vL G cs).length:=by omega
      unfold partA
      simp only [hu,hz,vV,vL,e1,hb]
      rw [decide_eq_true hle]
     ·simp at h
    ·simp at h
  ·rename_i e hu
   split at h
   ·simp at h
   ·simp only [Option.some.injEq] at h;subst h
    intro hc
    simp only [vB] at hc
    unfold partA
    simp only [hu,(isFA_some hc).1,vV,vR,vN]
  ·rename_i e hu
   split at h
   ·simp at h
   ·simp only [Option.some.injEq] at h;subst h
    refine ⟨fun hc=>?_,fun hc=>?_⟩
    ·simp only [vB] at hc
     unfold partA
     simp only [hu,isNilA_some hc]
    ·simp only [vB] at hc
     unfold partA
     simp only [hu,(isPA_some hc).1,vV,vR,vN]
  ·simp at h
theorem read_wo {C:Ctx} (hG:C.G=G) {F:DFr} {H:DHp} {op:Op}:Wo G (readD C.P F H op) (readOp C (vVs G F) (vHp G H) op):=by
 intro c v h hc
 unfold readD at h
 split at h
 ·simp only [readOp,←vV_evD]
  split at h
  ·rename_i r off he
   simp only [he,vV]
   exact load_wo hG _ _ h hc
  ·simp at h
 ·simp only [readOp,←vV_evD]
  split at h
  ·rename_i fs cs hu he
   simp only [hu,he,vV]
   split at h
   ·rename_i fd hf
    simp only [hf]
    have:=part_wo _ _ h hc
    simpa only [vN] using this
   ·simp at h
  ·simp at h
 ·simp only [readOp,←vV_evD]
  split at h
  ·rename_i len e cs k i hu he hi
   simp only [hu,he,hi,vV]
   split at h
   ·rename_i z hz
    simp only [hz]
    split at h
    ·rename_i c' v' hp
     simp only [Option.some.injEq,Prod.mk.injEq] at h;obtain ⟨rfl,rfl⟩:=h
     obtain ⟨g1,hc⟩:=mkAnd_true hc
     obtain ⟨g2,g3⟩:=mkAnd_true hc
     have:=part_wo _ _ hp g3
     rw [vN_mkMulz,vN_mkToN] at this
     rw [vB_mkCmp] at g1 g2
     have g1:decide (0≤vI G i)=true:=decide_eq_true (by have:=of_decide_eq_true g1;simpa only [vI] using this)
     have g2:decide (vI G i<len)=true:=decide_eq_true (by have:=of_decide_eq_true g2;simpa only [vI] using this)
     simp only [this,g1,g2,Bool.and_self]
    ·simp at h
   ·simp at h
  ·simp at h
 ·simp only [readOp,←vV_evD]
  split at h
  ·rename_i h1 he
   simp only [Option.some.injEq,Prod.mk.injEq] at h;obtain ⟨rfl,rfl⟩:=h
   simp only [h1,he,vV,vS]
  ·rename_i mb r off n h1 he
   simp only [h1,he,vV]
   split at h
   ·rename_i c0 cs hcs
    simp only [strOfD,Option.some.injEq,Prod.mk.injEq] at h;obtain ⟨rfl,rfl⟩:=h
    obtain ⟨g0,hc⟩:=mkAnd_true hc
    rw [cellsAt_ok hG hcs g0]
    obtain ⟨g1,g2⟩:=mkAnd_true hc
    rw [vB_mkLe,vN_mkAdd,vN_mkLen] at g1
    simp only [vB,vL_mkSubL,u8s] at g2
    have g1:decide (vN G off+vN G n≤(vL G cs).length)=true:=g1
    simp only [strOf,g1,g2,Bool.and_self,vV,vS,vL_mkSubL,strL]
   ·simp at h
  ·simp at h
 ·simp at h
theorem dsrc_ok {C:Ctx} (hG:C.G=G) {H:DHp} {z:Nat} {x:EV} {c:EB} {m:EN} {xs:EL} (h:srcD H z x=some (c,m,xs)) (hc:vB G c=true) :
  srcA C (vHp G H) z (vV G x)=some (true,vN G m,vL G xs):=by
 unfold srcD at h
 split at h
 ·simp only [Option.some.injEq,Prod.mk.injEq] at h;obtain ⟨rfl,rfl,rfl⟩:=h
  simp only [vV,srcA,vN,vL,vVs]
 ·rename_i mb r off m'
  split at h
  ·rename_i c0 cs hcs
   simp only [Option.some.injEq,Prod.mk.injEq] at h;obtain ⟨rfl,rfl,rfl⟩:=h
   obtain ⟨g0,hc⟩:=mkAnd_true hc
   obtain ⟨g1,g2⟩:=mkAnd_true hc
   rw [vB_mkLe,vN_mkAdd,vN_mkMul,vN_mkLen] at g1
   rw [allCell_ok,vL_mkSubL,vN_mkMul] at g2
   simp only [vV,srcA,cellsAt_ok hG hcs g0]
   have g1:decide (vN G off+vN G m'*z≤(vL G cs).length)=true:=g1
   simp only [g1,g2,Bool.and_self,vL_mkSubL,vN_mkMul]
  ·simp at h
 ·rename_i s
  split at h
  ·rename_i hz
   have hz:=Nat.eq_of_beq_eq_true hz
   subst hz
   simp only [Option.some.injEq,Prod.mk.injEq] at h;obtain ⟨rfl,rfl,rfl⟩:=h
   simp only [vV,srcA,vN_slenD,vL_mkBytes,decide_true]
  ·simp at h
 ·simp at h
theorem lenIs_ok {v:EV} {n:Nat} (h:lenIs (some v) n=true):(cellsOf (vV G v)).length=n:=by
 unfold lenIs at h
 simp only at h
 rw [←vL_cellsOf]
 split at h
 ·rename_i cs he
  rw [he]
  simp only [vL,vVs_length]
  exact Nat.eq_of_beq_eq_true h
 ·simp at h
def Ww (G:Nat→List AV) (o:Option (EB×EV×DHop)) (p:Option (Bool×AV×Hop)):Prop:=∀ c v h,o=some (c,v,h)→vB G c=true→p=some (true,vV G v,vHop G h)
theorem append_ww {C:Ctx} (hG:C.G=G) {H:DHp} {t:TypeId} {s x:EV}:Ww G (appendD C.P H t s x) (appendA C (vHp G H) t (vV G s) (vV G x)):=by
 intro c v hp h hc
 unfold appendD at h
 unfold appendA
 split at h
 rotate_left
 ·simp at h
 rename_i e hu
 simp only [hu]
 split at h
 rotate_left
 ·simp at h
 rename_i i zv hi hz
 have hz:=zero_ok (G:=G) hz
 simp only [hi,hz]
 split at h
 ·simp at h
 rename_i hb
 obtain ⟨hok,hb⟩:=and_true' hb
 obtain ⟨hb1,hb2⟩:=and_true' hb
 have hlen:((cellsOf (vV G zv)).length==i.size)=true:=by rw [lenIs_ok hb2];simp
 have hby:decide (1≤i.bytes)=true:=decide_eq_true (Nat.le_of_ble_eq_true hb1)
 split at h
 rotate_left
 ·simp at h
 rename_i c' m xs hs
 split at h
 ·simp only [Option.some.injEq,Prod.mk.injEq] at h;obtain ⟨rfl,rfl,rfl⟩:=h
  obtain ⟨g1,g2⟩:=mkAnd_true hc
  have e1:=dsrc_ok hG hs g1
  rw [vB_mkLe,vN_mkMul] at g2
  simp only [vN] at g2
  have g2:decide (vN G m*i.bytes≤140737488355328)=true:=g2
  simp only [e1,vV,g2,hby,hlen,hok,Bool.and_self,hereD,vR,vN,here,vHp_length,vHop,vBlk]
 ·rename_i mb j
  split at h
  ·rename_i b hj
   split at h
   ·rename_i hez
    have hez:=Nat.eq_of_beq_eq_true hez
    simp only [Option.some.injEq,Prod.mk.injEq] at h;obtain ⟨rfl,rfl,rfl⟩:=h
    obtain ⟨g1,g2⟩:=mkAnd_true hc
    have e1:=dsrc_ok hG hs g1
    rw [vB_mkLe,vN_mkMul] at g2
    simp only [vN] at g2
    have g2:decide (vN G m*i.bytes≤140737488355328)=true:=g2
    have hr:∀ l,isRec ⟨i.size,l⟩=false:=fun l=>okSz_rec hok
    have g4:decide (0*i.size≤(vL G b.cells).length)=true:=decide_eq_true (by omega)
    simp only [hr,Bool.not_false,e1,vV,vR,vN,vHp_some hj,vBlk,g2,hby,hlen,hez,beq_self_eq_true,Bool.and_self,hereD,here,vHp_length,vHop,Nat.zero_add,Nat.zero_mul,List.take_zero,List.nil_append,Nat.zero_le,decide_true]
   ·simp at h
  ·simp at h
 ·rename_i mb j n
  split at h
  ·rename_i b hj
   split at h
   ·rename_i hez
    have hez:=Nat.eq_of_beq_eq_true hez
    simp only [Option.some.injEq,Prod.mk.injEq] at h;obtain ⟨rfl,rfl,rfl⟩:=h
    obtain ⟨g1,hc⟩:=mkAnd_true hc
    obtain ⟨g2,g3⟩:=mkAnd_true hc
    have e1:=dsrc_ok hG hs g1
    rw [vB_mkLe,vN_mkMul,vN_mkAdd] at g2
    simp only [vN] at g2
    rw [vB_mkLe,vN_mkLen,vN_mkMul] at g3
    have g2:decide ((vN G n+vN G m)*i.bytes≤140737488355328)=true:=g2
    have hr:∀ l,isRec ⟨i.size,l⟩=false:=fun l=>okSz_rec hok
    have g4:decide (vN G n*i.size≤(vL G b.cells).length)=true:=g3
    simp only [hr,Bool.not_false,e1,vV,vR,vN,Nat.mul_one,vHp_some hj,vBlk,g2,hby,hlen,hez,g4,beq_self_eq_true,Bool.and_self,hereD,here,vHp_length,vHop,vL_mkAppL,vL_mkSubL,vN_mkAdd,vN_mkMul,subL,List.drop_zero]
   ·simp at h
  ·simp at h
 ·rename_i mb j n _ _
  split at h
  ·rename_i b hj
   split at h
   ·rename_i hez
    have hez:=Nat.eq_of_beq_eq_true hez
    simp only [Option.some.injEq,Prod.mk.injEq] at h;obtain ⟨rfl,rfl,rfl⟩:=h
    obtain ⟨g1,hc⟩:=mkAnd_true hc
    obtain ⟨g2,g3⟩:=mkAnd_true hc
    have e1:=dsrc_ok hG hs g1
    rw [vB_mkLe,vN_mkMul,vN_mkAdd] at g2
    simp only [vN] at g2
    rw [vB_mkEqN,vN_mkLen,vN_mkMul] at g3
    have g3:=Nat.eq_of_beq_eq_true g3
    have g2:decide ((vN G n+vN G m)*i.bytes≤140737488355328)=true:=g2
    have hr:∀ l,isRec ⟨i.size,l⟩=false:=fun l=>okSz_rec hok
    have g4:decide (vN G n*i.size≤(vL G b.cells).length)=true:=decide_eq_true (by omega)
    have g5:(vL G b.cells).take (vN G n*i.size)=vL G b.cells:=List.take_of_length_le (by omega)
    simp only [hr,Bool.not_false,e1,vV,vR,vN,vHp_some hj,vBlk,g2,hby,hlen,hez,g4,g5,beq_self_eq_true,Bool.and_self,hereD,here,vHp_length,vHop,vL_mkAppL,vN_mkAdd]
   ·simp at h
  ·simp at h
 ·simp at h
theorem vL_mkStore {l:EL} {o:EN} {v:EV} {z:Nat} (hz:sizeOfAV (vV G v)=z):vL G (mkStore l o v z)=setPart (vL G l) (vN G o) (vV G v):=by
 unfold mkStore
 split
 ·rename_i d
  split
  ·rename_i cs _
   split
   ·rename_i hb
    have hb:=Nat.eq_of_beq_eq_true hb
    simp only [vV,sizeOfAV] at hz
    simp only [vV,setPart,spl,vL,vN,List.take_zero,List.nil_append,Nat.zero_add]
    rw [List.drop_of_length_le (by rw [vVs_length];omega),List.append_nil]
   ·exact vL_mkSet _ _ _
  ·exact vL_mkSet _ _ _
 ·exact vL_mkSet _ _ _
theorem appendZ_ww {C:Ctx} {H:DHp} {t:TypeId} {s x:EV}:Ww G (appendZD C.P H t s x) (appendZ C (vHp G H) t (vV G s) (vV G x)):=by
 intro c v hp h hc
 unfold appendZD at h
 unfold appendZ
 split at h
 rotate_left
 ·simp at h
 rename_i e n hu
 simp only [hu,vV]
 split at h
 rotate_left
 ·simp at h
 rename_i i zv hi hz
 simp only [hi,zero_ok (G:=G) hz]
 split at h
 rotate_left
 ·simp at h
 rename_i hb
 obtain ⟨hok,hb⟩:=and_true' hb
 obtain ⟨hb0,hb⟩:=and_true' hb
 obtain ⟨hb1,hb2⟩:=and_true' hb
 simp only [Option.some.injEq,Prod.mk.injEq] at h;obtain ⟨rfl,rfl,rfl⟩:=h
 obtain ⟨g1,g3⟩:=mkAnd_true hc
 rw [vB_mkCmp] at g1 g3
 have ebig:vI G (appendZD.mkBigD n i.bytes)=vI G n*i.bytes:=by
  unfold appendZD.mkBigD
  split<;>simp [vI,vVs,vV,bigF]
 rw [ebig] at g3
 simp only [vI] at g1 g3
 have g1:decide (0≤vI G n)=true:=decide_eq_true (of_decide_eq_true g1)
 have g3:decide (vI G n*i.bytes≤140737488355328)=true:=decide_eq_true (of_decide_eq_true g3)
 have g0:decide (1≤i.bytes)=true:=decide_eq_true (Nat.le_of_ble_eq_true hb0)
 have g5:decide ((cellsOf (vV G zv)).length=i.size)=true:=decide_eq_true (lenIs_ok hb1)
 have g6:decide (1≤i.size)=true:=decide_eq_true (Nat.le_of_ble_eq_true hb2)
 simp only [hok,g0,g1,g3,g5,g6,Bool.and_self,vV,hereD,vR,vN,here,vHp_length,vHop,vBlk,vL_mkRep,vL_cellsOf,vN_mkToN]
theorem clear_ww {C:Ctx} {H:DHp} {t:TypeId} {x:EV}:Ww G (clearD C.P H t x) (clearA C (vHp G H) t (vV G x)):=by
 intro c v hp h hc
 unfold clearD at h
 unfold clearA
 split at h
 rotate_left
 ·simp at h
 rename_i e mb j off n hu
 simp only [hu,vV,vR]
 split at h
 rotate_left
 ·simp at h
 rename_i z zv b hz hzv hj
 split at h
 ·simp at h
 rename_i hr
 rw [Bool.or_eq_false_iff] at hr
 obtain ⟨hr,hb⟩:=hr
 have hr:isRec (vBlk G b)=false:=hr
 have hb:(lenIs (some zv) z&&Nat.ble 1 z)=true:=by simpa using hb
 obtain ⟨hb1,hb2⟩:=and_true' hb
 simp only [hz,zero_ok (G:=G) hzv,vHp_some hj,hr,Bool.not_false,Bool.true_and]
 simp only [Option.some.injEq,Prod.mk.injEq] at h;obtain ⟨rfl,rfl,rfl⟩:=h
 obtain ⟨g1,hc⟩:=mkAnd_true hc
 obtain ⟨g2,g3⟩:=mkAnd_true hc
 rw [vB_mkLe] at g1 g3
 rw [allCell_ok,vL_cellsOf] at g2
 rw [vN_mkAdd,vN_mkMul,vN_mkLen] at g3
 simp only [vN] at g1
 have g1:decide (1≤vN G n)=true:=g1
 have g3:decide (vN G off+vN G n*z≤(vL G b.cells).length)=true:=g3
 have g5:decide ((cellsOf (vV G zv)).length=z)=true:=decide_eq_true (lenIs_ok hb1)
 have g6:decide (1≤z)=true:=decide_eq_true (Nat.le_of_ble_eq_true hb2)
 simp only [g1,g2,g5,g6,vBlk,vV,vVs,vHop,vL_mkSet,setPart,vL_mkRep,vL_cellsOf]
 have g7:=of_decide_eq_true g3
 simp only [g7,decide_true,Bool.and_self]
theorem write_ww {C:Ctx} (hG:C.G=G) {F:DFr} {H:DHp} {op:Op}:Ww G (writeD C.P F H op) (writeOp C (vVs G F) (vHp G H) op):=by
 intro c v hp h hc
 unfold writeD at h
 split at h
 ·-- store
  simp only [writeOp,←vV_evD]
  split at h
  ·rename_i i off z he hz
   simp only [he,hz,vV,vR]
   split at h
   ·rename_i b hb
    split at h
    ·simp at h
    rename_i hr
    have hr:∀ l,isRec ⟨b.esz,l⟩=false:=fun _=>hr
    simp only [Option.some.injEq,Prod.mk.injEq] at h;obtain ⟨rfl,rfl,rfl⟩:=h
    obtain ⟨g1,hc⟩:=mkAnd_true hc
    obtain ⟨g2,g3⟩:=mkAnd_true hc
    rw [vB_mkLe,vN_mkAdd,vN_mkLen] at g3
    simp only [vN] at g3
    have g3:decide (vN G off+z≤(vL G b.cells).length)=true:=g3
    simp only [hr,Bool.not_false,vHp_some hb,vBlk,goodCells_ok _ g1,sizeIs_ok g2,g3,beq_self_eq_true,Bool.and_self,vV,vVs,vHop,vL_mkStore (sizeIs_ok g2)]
   ·simp at h
  ·simp at h
 ·-- alloc
  simp only [writeOp]
  split at h
  ·rename_i z hz
   simp only [zero_ok (G:=G) hz]
   simp only [Option.some.injEq,Prod.mk.injEq] at h;obtain ⟨rfl,rfl,rfl⟩:=h
   simp only [vV,hereD,vR,vN,here,vHp_length,vHop,vBlk,vL_cellsOf]
  ·simp at h
 ·-- box
  simp only [writeOp,←vV_evD]
  split at h
  ·rename_i hk
   simp only [Option.some.injEq,Prod.mk.injEq] at h;obtain ⟨rfl,rfl,rfl⟩:=h
   simp only [known_ok hk,vV,hereD,vR,vN,here,vHp_length,vHop,vBlk,vL_cellsOf]
  ·simp at h
 ·-- buildSlice
  rename_i t n parts
  simp only [writeOp]
  split at h
  rotate_left
  ·simp at h
  rename_i e hu
  simp only [hu]
  split at h
  rotate_left
  ·simp at h
  rename_i z zv hz hzv
  simp only [hz,zero_ok (G:=G) hzv]
  split at h
  rotate_left
  ·simp at h
  rename_i cs hcs
  split at h
  rotate_left
  ·simp at h
  rename_i hb
  obtain ⟨hok,hb⟩:=and_true' hb
  obtain ⟨hb1,hb2⟩:=and_true' hb
  have e0:cellsOf (vV G zv)=vVs G cs:=by rw [←vL_cellsOf,hcs];simp only [vL]
  have e1:(vVs G cs).length=z:=by rw [vVs_length];exact Nat.eq_of_beq_eq_true hb2
  split at h
  ·rename_i c' cs' hf
   simp only [Option.some.injEq,Prod.mk.injEq] at h;obtain ⟨rfl,rfl,rfl⟩:=h
   have:=fill_wo _ _ _ _ hf hc
   have e2:vL G (.of (List.replicate n cs).flatten)=(List.replicate n (cellsOf (vV G zv))).flatten:=by
    simp only [vL,e0,vVs_map,List.map_flatten,List.map_replicate]
   rw [e2,List.map_map] at this
   have e3:(List.map ((fun p:Nat×EV=>(p.1,vV G p.2)) ∘ fun p:Nat×Operand=>(p.1,evD F p.2)) parts.toList)=List.map (fun p=>(p.1,ev (vVs G F) p.2)) parts.toList:=by
    refine List.map_congr_left fun p _=>?_
    simp [vV_evD]
   rw [e3] at this
   have hb1:decide (n*z≤16777216)=true:=decide_eq_true (Nat.le_of_ble_eq_true hb1)
   rw [e0] at this
   simp only [hok,e0,this,e1,hb1,decide_true,Bool.and_self,vV,hereD,vR,vN,here,vHp_length,vHop,vBlk]
  ·simp at h
 ·-- makeSlice
  simp only [writeOp,←vV_evD]
  split at h
  rotate_left
  ·simp at h
  rename_i e k l k' c' hu hl hc'
  simp only [hu,hl,hc',vV]
  split at h
  rotate_left
  ·simp at h
  rename_i i zv hi hz
  simp only [hi,zero_ok (G:=G) hz]
  split at h
  rotate_left
  ·simp at h
  rename_i hb
  obtain ⟨hok,hb⟩:=and_true' hb
  obtain ⟨hb1,hb2⟩:=and_true' hb
  simp only [Option.some.injEq,Prod.mk.injEq] at h;obtain ⟨rfl,rfl,rfl⟩:=h
  obtain ⟨g1,hc⟩:=mkAnd_true hc
  obtain ⟨g2,hc⟩:=mkAnd_true hc
  obtain ⟨g3,g4⟩:=mkAnd_true hc
  rw [vB_mkCmp] at g1 g2 g3 g4
  have ebig:vI G (writeD.mkBig c' i.bytes)=vI G c'*i.bytes:=by
   unfold writeD.mkBig
   split<;>simp [vI,vVs,vV,bigF]
  rw [ebig] at g3
  simp only [vI] at g1 g3 g4
  have g1:decide (0≤vI G l)=true:=decide_eq_true (of_decide_eq_true g1)
  have g2:decide (vI G l≤vI G c')=true:=decide_eq_true (of_decide_eq_true g2)
  have g3:decide (vI G c'*i.bytes≤140737488355328)=true:=decide_eq_true (of_decide_eq_true g3)
  have g4:decide (vI G c'≤140737488355328)=true:=decide_eq_true (of_decide_eq_true g4)
  have g5:decide ((cellsOf (vV G zv)).length=i.size)=true:=decide_eq_true (lenIs_ok hb1)
  have g6:decide (1≤i.size)=true:=decide_eq_true (Nat.le_of_ble_eq_true hb2)
  simp only [hok,g1,g2,g3,g4,g5,g6,Bool.and_self,vV,hereD,vR,vN,here,vHp_length,vHop,vBlk,vL_mkRep,vL_cellsOf,vN_mkToN]
 ·-- convert
  simp only [writeOp,←vV_evD]
  split at h
  ·rename_i s h1 he
   simp only [h1,he,vV]
   simp only [Option.some.injEq,Prod.mk.injEq] at h;obtain ⟨rfl,rfl,rfl⟩:=h
   rw [vB_mkLe,vN_slenD] at hc
   simp only [vN] at hc
   have hc:decide ((vS G s).length≤140737488355328)=true:=hc
   simp only [hc,vV,hereD,vR,vN,here,vHp_length,vHop,vBlk,vN_slenD,vL_mkBytes]
  ·rename_i mb i off n h1 he
   simp only [h1,he,vV,vR]
   split at h
   ·rename_i h2
    simp only [h2]
    split at h
    ·rename_i b hb
     split at h
     ·simp at h
     rename_i hr
     have hr:isRec (vBlk G b)=false:=hr
     simp only [vHp_some hb,hr,Bool.not_false,Bool.true_and]
     simp only [Option.some.injEq,Prod.mk.injEq] at h;obtain ⟨rfl,rfl,rfl⟩:=h
     rw [vB_mkLe] at hc
     simp only [vN] at hc
     have hc:Nat.ble 1 (vN G n)=true:=Nat.ble_eq_true_of_le (leB_iff.1 hc)
     simp only [hc,vV,vR,vHop]
    ·simp at h
   ·simp at h
  ·simp at h
 ·-- append
  simp only [writeOp]
  split at h
  rotate_left
  ·simp at h
  rename_i s x t u h1 h2
  simp only [h1,h2,←vV_evD]
  split at h
  ·rename_i e hu
   simp only [hu]
   exact append_ww hG _ _ _ h hc
  ·rename_i hu
   simp only [hu]
   exact append_ww hG _ _ _ h hc
  ·rename_i k hu
   simp only [hu]
   exact appendZ_ww _ _ _ h hc
  ·simp at h
 ·-- clear
  simp only [writeOp]
  split at h
  rotate_left
  ·simp at h
  rename_i x t h1 h2
  simp only [h1,h2,←vV_evD]
  exact clear_ww _ _ _ h hc
 ·simp at h
theorem fam_wo {C:Ctx} (hG:C.G=G) {fam:TypeId→Option (Nat×Nat)} {F:DFr} {H:DHp} {op:Op} {c0:EB} {x:FamR} (h:famD fam C.P F H op=some (c0,x)) (h0:vB G c0=true):WoF G x (readOp C (vVs G F) (vHp G H) op):=by
 unfold famD at h
 split at h
 ·rename_i t a
  simp only [readOp,←vV_evD]
  split at h
  ·rename_i r off he
   simp only [he,vV]
   split at h
   ·simp at h
   ·rename_i hr
    split at h
    ·rename_i c1 cs hcs
     split at h
     ·rename_i y hp
      simp only [Option.some.injEq,Prod.mk.injEq] at h;obtain ⟨rfl,rfl⟩:=h
      have hl:loadA C (vHp G H) t (vR G r) (vN G off)=partA C.P t (vL G cs) (vN G off):=by
       unfold loadA
       rw [cellsAt_ok hG hcs h0]
       cases r with
       | rw i=>simp only [vR,partL]
       | ro n=>exact absurd rfl (hr n)
       | fm b c k=>simp only [vR,partL]
      rw [hl]
      exact famP_ok hp
     ·simp at h
    ·simp at h
  ·simp at h
 ·simp only [readOp,←vV_evD]
  split at h
  ·rename_i fs cs hu he
   simp only [hu,he,vV]
   split at h
   ·rename_i fd hf
    simp only [hf]
    split at h
    ·rename_i y hp
     simp only [Option.some.injEq,Prod.mk.injEq] at h;obtain ⟨rfl,rfl⟩:=h
     have:=famP_ok (G:=G) hp
     simpa only [vN] using this
    ·simp at h
   ·simp at h
  ·simp at h
 ·simp only [readOp,←vV_evD]
  split at h
  ·rename_i len e cs k i hu he hi
   simp only [hu,he,hi,vV]
   split at h
   ·rename_i z hz
    simp only [hz]
    split at h
    ·rename_i y hp
     simp only [Option.some.injEq,Prod.mk.injEq] at h;obtain ⟨rfl,rfl⟩:=h
     obtain ⟨g1,g2⟩:=mkAnd_true h0
     have:=famP_ok (G:=G) hp
     rw [vN_mkMulz,vN_mkToN] at this
     rw [vB_mkCmp] at g1 g2
     have g1:decide (0≤vI G i)=true:=decide_eq_true (by have:=of_decide_eq_true g1;simpa only [vI] using this)
     have g2:decide (vI G i<len)=true:=decide_eq_true (by have:=of_decide_eq_true g2;simpa only [vI] using this)
     cases y with
     | val c v=>exact fun hc=>by simp only [this hc,g1,g2,Bool.and_self]
     | ptr n c v=>exact ⟨fun hc=>by simp only [this.1 hc,g1,g2,Bool.and_self],fun hc=>by simp only [this.2 hc,g1,g2,Bool.and_self]⟩
    ·simp at h
   ·simp at h
  ·simp at h
 ·simp at h
theorem acts_sets (b:Nat) (f:Nat→Blk):∀ (c:Nat) (H:Hp),(acts H ((List.range c).map fun j=>Hop.set (b+j) (f j))).length=H.length∧∀ i,(acts H ((List.range c).map fun j=>Hop.set (b+j) (f j)))[i]?=if b≤i∧i<b+c∧i<H.length then some (some (f (i - b))) else H[i]?
 | 0,H=>⟨by simp [acts],fun i=>by rw [if_neg (by omega)];simp [acts]⟩
 | c+1,H=>by
  have app:∀ (hs ks:List Hop) (H:Hp),acts H (hs++ks)=acts (acts H hs) ks:=by
   intro hs
   induction hs with
   | nil=>intro ks H;rfl
   | cons h hs ih=>intro ks H;exact ih ks _
  obtain ⟨h1,h2⟩:=acts_sets b f c H
  rw [List.range_succ,List.map_append,app]
  simp only [List.map_cons,List.map_nil,acts,Hop.act]
  refine ⟨by rw [List.length_set,h1],fun i=>?_⟩
  rw [List.getElem?_set,h1]
  by_cases e:b+c=i
  ·subst e
   rw [if_pos rfl]
   by_cases hl:b+c<H.length
   ·rw [if_pos hl,if_pos (by omega),show b+c - b=c by omega]
   ·rw [if_neg hl,if_neg (by omega),List.getElem?_eq_none (by omega)]
  ·rw [if_neg e,h2]
   by_cases hi:b≤i∧i<b+c∧i<H.length
   ·rw [if_pos hi,if_pos (by omega)]
   ·rw [if_neg hi,if_neg (by omega)]
theorem famSets_ok {H:DHp} {b c z:Nat} {l l2:EL} {ls:List EV} {k:Nat} {N:List AV} (hf:famAt H b c=some (z,l,ls)) (hr:rowsA (vL G l) (vVs G ls)=true) (hk:k<c) (hkl:k<(vL G l).length) (h2:vL G l2=putA (vL G l) k N) :
  acts (vHp G H) ((famSets b c z l2).map (vHop G))=(vHp G H).set (b+k) (some ⟨z,N⟩):=by
 have e0:(famSets b c z l2).map (vHop G)=(List.range c).map fun j=>Hop.set (b+j) ⟨z,rowA (putA (vL G l) k N) j⟩:=by
  unfold famSets
  rw [List.map_map]
  refine List.map_congr_left fun j _=>?_
  simp only [Function.comp,vHop,vBlk,vL,vN,h2]
 rw [e0]
 obtain ⟨h1,h3⟩:=acts_sets b (fun j=>⟨z,rowA (putA (vL G l) k N) j⟩) c (vHp G H)
 refine List.ext_getElem? fun i=>?_
 rw [h3,List.getElem?_set]
 have hput:∀ j,rowA (putA (vL G l) k N) j=if k=j then N else rowA (vL G l) j:=fun j=>by
  unfold rowA putA
  rw [List.getElem?_set]
  by_cases e:k=j
  ·subst e
   rw [if_pos rfl,if_pos rfl,if_pos hkl]
  ·rw [if_neg e,if_neg e]
 by_cases hi:b≤i∧i<b+c∧i<(vHp G H).length
 ·rw [if_pos hi,hput]
  by_cases e:b+k=i
  ·subst e
   rw [if_pos rfl,if_pos (by omega),if_pos hi.2.2]
  ·rw [if_neg e,if_neg (by omega)]
   have:=fam_at hf hr (i:=i - b) (by omega)
   rw [show b+(i - b)=i by omega] at this
   rw [this]
 ·rw [if_neg hi]
  by_cases e:b+k=i
  ·subst e
   have:=fam_at hf hr hk
   have:=(List.getElem?_eq_some_iff.1 this).1
   omega
  ·rw [if_neg e]
theorem writeF_ok {C:Ctx} (hG:C.G=G) {F:DFr} {H:DHp} {op:Op} {c:EB} {hs:List DHop} (h:writeFD C.P F H op=some (c,hs)) (hc:vB G c=true) :
  ∃ hp,writeOp C (vVs G F) (vHp G H) op=some (true,.tup [],hp)∧hp.act (vHp G H)=acts (vHp G H) (hs.map (vHop G)):=by
 unfold writeFD at h
 split at h
 ·rename_i t a x
  simp only [writeOp,←vV_evD]
  split at h
  ·rename_i b cc k off z he hz
   simp only [he,hz,vV,vR]
   split at h
   ·rename_i z0 l ls hf
    simp only [Option.some.injEq,Prod.mk.injEq] at h;obtain ⟨rfl,rfl⟩:=h
    obtain ⟨g1,hc⟩:=mkAnd_true hc
    obtain ⟨g2,hc⟩:=mkAnd_true hc
    obtain ⟨g3,hc⟩:=mkAnd_true hc
    obtain ⟨g4,hc⟩:=mkAnd_true hc
    obtain ⟨g5,g6⟩:=mkAnd_true hc
    rw [vB_mkLe,vN_mkAdd] at g1 g3
    simp only [vN] at g1 g3
    have g1:=leB_iff.1 g1
    have g3:=leB_iff.1 g3
    simp only [vB] at g2
    rw [vB_mkLe,vN_mkAdd,vN_mkLen] at g6
    simp only [vN,vL] at g6
    have g6:decide (vN G off+z≤(rowA (vL G l) (vN G k)).length)=true:=g6
    have hr:∀ l',isRec ⟨z0,l'⟩=false:=fun _=>(famAt_ok hf).1
    refine ⟨.set (b+vN G k) ⟨z0,setPart (rowA (vL G l) (vN G k)) (vN G off) (vV G (evD F x))⟩,?_,?_⟩
    ·simp only [fam_at hf g2 (show vN G k<cc by omega),hr,Bool.not_false,goodCells_ok _ g4,sizeIs_ok g5,g6,beq_self_eq_true,Bool.and_self]
    ·rw [famSets_ok (k:=vN G k) (N:=setPart (rowA (vL G l) (vN G k)) (vN G off) (vV G (evD F x))) hf g2 (by omega) (by omega) (by simp only [vL,vL_mkStore (sizeIs_ok g5)])]
     rfl
   ·simp at h
  ·simp at h
 ·simp at h
theorem call_ok {F:DFr} {op:Op} {f:FuncId} {args:List EV} (h:callD F op=some (f,args)):callOp (vVs G F) op=some (f,vVs G args):=by
 unfold callD at h
 split at h
 ·simp only [callOp,←vV_evD]
  split at h
  ·rename_i g cap he
   simp only [Option.some.injEq,Prod.mk.injEq] at h;obtain ⟨rfl,rfl⟩:=h
   simp only [he,vV,vVs_append,map_ev]
  ·simp at h
 ·simp at h
theorem yld_ok {F:DFr} {op:Op} {i:Nat} {args:List EV} (h:yldD F op=some (i,args)):yldOp (vVs G F) op=some (i,vVs G args):=by
 unfold yldD at h
 split at h
 ·simp only [yldOp,←vV_evD]
  split at h
  ·rename_i g he
   simp only [Option.some.injEq,Prod.mk.injEq] at h;obtain ⟨rfl,rfl⟩:=h
   simp only [he,vV,map_ev]
  ·simp at h
 ·simp at h
theorem resOne_wo {C:Ctx} (hG:C.G=G) {F:DFr} {H:DHp} (x:ResultVar):Wo G (resOneD C.P F H x) (resOne C (vVs G F) (vHp G H) x):=by
 intro c v h hc
 unfold resOneD at h
 unfold resOne
 split at h
 ·simp only [Option.some.injEq,Prod.mk.injEq] at h;obtain ⟨rfl,rfl⟩:=h
  simp only [getF0_eq,vVs_getD]
 ·simp only [vVs_getD]
  simp only [getF0_eq] at h
  split at h
  ·rename_i r off he
   simp only [he,vV]
   exact load_wo hG _ _ h hc
  ·simp at h
theorem resAll_ok {C:Ctx} (hG:C.G=G) {F:DFr} {H:DHp}:∀ (xs:List ResultVar) (c:EB) (vs:List EV),resAllD C.P F H xs=some (c,vs)→vB G c=true→resAll C (vVs G F) (vHp G H) xs=some (true,vVs G vs)
 | [],c,vs,h,_=>by
  simp only [resAllD,Option.some.injEq,Prod.mk.injEq] at h;obtain ⟨rfl,rfl⟩:=h
  simp only [resAll,vVs]
 | x::xs,c,vs,h,hc=>by
  unfold resAllD at h
  split at h
  ·rename_i c1 v h1
   split at h
   ·rename_i d r h2
    simp only [Option.some.injEq,Prod.mk.injEq] at h;obtain ⟨rfl,rfl⟩:=h
    obtain ⟨g1,g2⟩:=mkAnd_true hc
    simp only [resAll,resOne_wo hG x _ _ h1 g1,resAll_ok hG xs _ _ h2 g2,Bool.and_self,vVs]
   ·simp at h
  ·simp at h
theorem res_wo {C:Ctx} (hG:C.G=G) {fn:Func} {F:DFr} {H:DHp}:Wo G (resD C.P fn F H) (resA C fn (vVs G F) (vHp G H)):=by
 intro c v h hc
 unfold resD at h
 unfold resA
 split at h
 ·rename_i c' v' hr
  simp only [Option.some.injEq,Prod.mk.injEq] at h;obtain ⟨rfl,rfl⟩:=h
  simp only [resAll_ok hG _ _ _ hr hc,vVs]
 ·rename_i c' vs hn hr
  simp only [Option.some.injEq,Prod.mk.injEq] at h;obtain ⟨rfl,rfl⟩:=h
  rw [resAll_ok hG _ _ _ hr hc]
  cases vs with
  | nil=>simp only [vVs,vV]
  | cons x l=>cases l with
   | nil=>exact absurd rfl (hn _)
   | cons y l=>simp only [vVs,vV]
 ·simp at h
end Go.Am
namespace Go.Am
variable {G:Nat→List AV}
def vT (G:Nat→List AV) (Q:Ex→List AV→Hp→Prop) (R:AV→Hp→Prop):T→Prop
 | .fail=>False
 | .chk b t=>vB G b=true∧vT G Q R t
 | .tst b x y=>(vB G b=true→vT G Q R x)∧(vB G b=false→vT G Q R y)
 | .imp b t=>vB G b=true→vT G Q R t
 | .allI _ k=>∀ x,vT G Q R (k x)
 | .allN _ k=>∀ x,vT G Q R (k x)
 | .allB _ k=>∀ x,vT G Q R (k x)
 | .allL _ k=>∀ x,vT G Q R (k x)
 | .namI _ e k=>∀ x,x=vI G e→vT G Q R (k x)
 | .namN _ e k=>∀ x,x=vN G e→vT G Q R (k x)
 | .namB _ e k=>∀ x,x=vB G e→vT G Q R (k x)
 | .namL _ e k=>∀ x,x=vL G e→vT G Q R (k x)
 | .leaf e F H=>Q e (vVs G F) (vHp G H)
 | .ret v H=>R (vV G v) (vHp G H)
section
variable {Q:Ex→List AV→Hp→Prop} {R:AV→Hp→Prop}
theorem vT_chkT:∀ (b:EB) {t:T},vT G Q R (chkT b t)→vB G b=true∧vT G Q R t
 | .lit true,t,h=>⟨rfl,h⟩
 | .lit false,t,h=>h.elim
 | .and a b,t,h=>by
  simp only [chkT] at h
  obtain ⟨h1,h⟩:=vT_chkT a h
  obtain ⟨h2,h⟩:=vT_chkT b h
  exact ⟨by simp [vB,h1,h2],h⟩
 | .var ..,t,h=>h
 | .cmp ..,t,h=>h
 | .not ..,t,h=>h
 | .eqB ..,t,h=>h
 | .eqS ..,t,h=>h
 | .isI ..,t,h=>h
 | .isB ..,t,h=>h
 | .isT ..,t,h=>h
 | .isR ..,t,h=>h
 | .get ..,t,h=>h
 | .leN ..,t,h=>h
 | .eqN ..,t,h=>h
 | .leaf ..,t,h=>h
 | .u8s ..,t,h=>h
 | .cells ..,t,h=>h
 | .isF ..,t,h=>h
 | .isP ..,t,h=>h
 | .isNil ..,t,h=>h
 | .rows ..,t,h=>h
 | .uf ..,t,h=>h
def Bran (G:Nat→List AV) (Q:Ex→List AV→Hp→Prop) (R:AV→Hp→Prop) (n:Nat) (b:EB) (x y:Facts→T):Prop:=
 (vB G b=true∧∃ fs':Facts,fs'.n=n∧vT G Q R (x fs'))∨(vB G b=false∧∃ fs':Facts,fs'.n=n∧vT G Q R (y fs'))
theorem vT_dec {fs:Facts} {b:EB} {x y:Facts→T} (h:vT G Q R (match dec fs b with | some true=>.chk b (x fs) | some false=>.chk (.not b) (y fs) | none=>.tst b (x (learn fs b true)) (y (learn fs b false)))):Bran G Q R fs.n b x y:=by
 have hl:∀ v,(learn fs b v).n=fs.n:=fun v=>by unfold learn;rfl
 split at h
 ·exact .inl ⟨h.1,fs,rfl,h.2⟩
 ·refine .inr ⟨?_,fs,rfl,h.2⟩
  have:=h.1
  simpa [vB] using this
 ·cases hb:vB G b with
  | true=>exact .inl ⟨hb,_,hl _,h.1 hb⟩
  | false=>exact .inr ⟨hb,_,hl _,h.2 hb⟩
theorem vT_tstT:∀ (b:EB) (fs:Facts) (x y:Facts→T),vT G Q R (tstT fs b x y)→Bran G Q R fs.n b x y
 | .lit true,fs,x,y,h=>.inl ⟨rfl,fs,rfl,h⟩
 | .lit false,fs,x,y,h=>.inr ⟨rfl,fs,rfl,h⟩
 | .not b,fs,x,y,h=>by
  simp only [tstT] at h
  rcases vT_tstT b fs y x h with ⟨h1,h2⟩ | ⟨h1,h2⟩
  ·exact .inr ⟨by simp [vB,h1],h2⟩
  ·exact .inl ⟨by simp [vB,h1],h2⟩
 | .and a b,fs,x,y,h=>by
  simp only [tstT] at h
  rcases vT_tstT a fs _ _ h with ⟨h1,fs1,e1,h2⟩ | ⟨h1,h2⟩
  ·rcases vT_tstT b fs1 _ _ h2 with ⟨h3,h4⟩ | ⟨h3,h4⟩
   ·rw [e1] at h4;exact .inl ⟨by simp [vB,h1,h3],h4⟩
   ·rw [e1] at h4;exact .inr ⟨by simp [vB,h1,h3],h4⟩
  ·exact .inr ⟨by simp [vB,h1],h2⟩
 | .eqB a b,fs,x,y,h=>by
  simp only [tstT] at h
  rcases vT_tstT a fs _ _ h with ⟨h1,fs1,e1,h2⟩ | ⟨h1,fs1,e1,h2⟩
  ·rcases vT_tstT b fs1 _ _ h2 with ⟨h3,h4⟩ | ⟨h3,h4⟩
   ·rw [e1] at h4;exact .inl ⟨by simp [vB,h1,h3],h4⟩
   ·rw [e1] at h4;exact .inr ⟨by simp [vB,h1,h3],h4⟩
  ·rcases vT_tstT b fs1 _ _ h2 with ⟨h3,h4⟩ | ⟨h3,h4⟩
   ·rw [e1] at h4;exact .inr ⟨by simp [vB,h1,h3],h4⟩
   ·rw [e1] at h4;exact .inl ⟨by simp [vB,h1,h3],h4⟩
 | .var ..,fs,x,y,h=>vT_dec h
 | .cmp ..,fs,x,y,h=>vT_dec h
 | .eqS ..,fs,x,y,h=>vT_dec h
 | .isI ..,fs,x,y,h=>vT_dec h
 | .isB ..,fs,x,y,h=>vT_dec h
 | .isT ..,fs,x,y,h=>vT_dec h
 | .isR ..,fs,x,y,h=>vT_dec h
 | .get ..,fs,x,y,h=>vT_dec h
 | .leN ..,fs,x,y,h=>vT_dec h
 | .eqN ..,fs,x,y,h=>vT_dec h
 | .leaf ..,fs,x,y,h=>vT_dec h
 | .u8s ..,fs,x,y,h=>vT_dec h
 | .cells ..,fs,x,y,h=>vT_dec h
 | .isF ..,fs,x,y,h=>vT_dec h
 | .isP ..,fs,x,y,h=>vT_dec h
 | .isNil ..,fs,x,y,h=>vT_dec h
 | .rows ..,fs,x,y,h=>vT_dec h
 | .uf ..,fs,x,y,h=>vT_dec h
theorem vT_opT {o:Option (EB×EV)} {k:EV→T} (h:vT G Q R (opT o k)):∃ c v,o=some (c,v)∧vB G c=true∧vT G Q R (k v):=by
 unfold opT at h
 split at h
 ·rename_i c v
  obtain ⟨h1,h2⟩:=vT_chkT c h
  exact ⟨c,v,rfl,h1,h2⟩
 ·exact h.elim
end
def oAll (G:Nat→List AV) (P:EV→List DHop→Prop):Outs→Prop
 | .one v hs=>P v hs
 | .chk b x=>vB G b=true→oAll G P x
 | .tst b x y=>(vB G b=true→oAll G P x)∧(vB G b=false→oAll G P y)
 | .namI e f=>∀ j,oAll G P (f (.var j (vI G e)))
 | .namN e f=>∀ j,oAll G P (f (.var j (vN G e)))
 | .namB e f=>∀ j,oAll G P (f (.var j (vB G e)))
 | .namL e f=>∀ j,oAll G P (f (.var j (vL G e)))
theorem vT_outT {Q:Ex→List AV→Hp→Prop} {R:AV→Hp→Prop} {P:EV→List DHop→Prop} {k:Facts→EV→List DHop→T}:∀ (o:Outs) (fs:Facts),vT G Q R (outT fs o k)→oAll G P o→∃ fs' v hs,P v hs∧vT G Q R (k fs' v hs)
 | .one v hs,fs,h,ho=>⟨fs,v,hs,ho,h⟩
 | .chk b x,fs,h,ho=>by
  simp only [outT] at h
  obtain ⟨h1,h2⟩:=vT_chkT b h
  exact vT_outT x fs h2 (ho h1)
 | .tst b x y,fs,h,ho=>by
  simp only [outT] at h
  rcases vT_tstT b fs _ _ h with ⟨h1,fs1,_,h2⟩ | ⟨h1,fs1,_,h2⟩
  ·exact vT_outT x fs1 h2 (ho.1 h1)
  ·exact vT_outT y fs1 h2 (ho.2 h1)
 | .namI e f,fs,h,ho=>vT_outT (f (.var fs.n (vI G e))) (fresh fs) (h _ rfl) (ho _)
 | .namN e f,fs,h,ho=>vT_outT (f (.var fs.n (vN G e))) (fresh fs) (h _ rfl) (ho _)
 | .namB e f,fs,h,ho=>vT_outT (f (.var fs.n (vB G e))) (fresh fs) (h _ rfl) (ho _)
 | .namL e f,fs,h,ho=>vT_outT (f (.var fs.n (vL G e))) (fresh fs) (h _ rfl) (ho _)
def lHolds (G:Nat→List AV) (Q:Ex→DFr→DHp→Prop):Nat→LOut→Prop
 | _,.one e F H=>Q e F H
 | n,.chk b x=>vB G b=true∧lHolds G Q n x
 | n,.tst b x y=>(vB G b=true→lHolds G Q n x)∧(vB G b=false→lHolds G Q n y)
 | n,.imp b x=>vB G b=true→lHolds G Q n x
 | n,.allI f=>∀ x,lHolds G Q (n+1) (f (.var n x))
 | n,.allN f=>∀ x,lHolds G Q (n+1) (f (.var n x))
 | n,.allB f=>∀ x,lHolds G Q (n+1) (f (.var n x))
 | n,.allL f=>∀ x,lHolds G Q (n+1) (f (.var n x))
 | n,.namI e f=>lHolds G Q (n+1) (f (.var n (vI G e)))
 | n,.namN e f=>lHolds G Q (n+1) (f (.var n (vN G e)))
 | n,.namB e f=>lHolds G Q (n+1) (f (.var n (vB G e)))
 | n,.namL e f=>lHolds G Q (n+1) (f (.var n (vL G e)))
theorem vT_loutT {Q:Ex→List AV→Hp→Prop} {R:AV→Hp→Prop} {k:Facts→Ex→DFr→DHp→T}:∀ (o:LOut) (fs:Facts),vT G Q R (loutT fs o k)→lHolds G (fun e F H=>∃ fs',vT G Q R (k fs' e F H)) fs.n o
 | .one e F H,fs,h=>⟨fs,h⟩
 | .chk b x,fs,h=>by
  simp only [loutT] at h
  obtain ⟨h1,h2⟩:=vT_chkT b h
  exact ⟨h1,vT_loutT x fs h2⟩
 | .tst b x y,fs,h=>by
  simp only [loutT] at h
  rcases vT_tstT b fs _ _ h with ⟨h1,fs1,e1,h2⟩ | ⟨h1,fs1,e1,h2⟩
  ·have:=vT_loutT x fs1 h2
   rw [e1] at this
   exact ⟨fun _=>this,fun hb=>by rw [h1] at hb;simp at hb⟩
  ·have:=vT_loutT y fs1 h2
   rw [e1] at this
   exact ⟨fun hb=>by rw [h1] at hb;simp at hb,fun _=>this⟩
 | .imp b x,fs,h=>fun hb=>vT_loutT x (learn fs b true) (h hb)
 | .allI f,fs,h=>fun x=>vT_loutT (f (.var fs.n x)) (fresh fs) (h x)
 | .allN f,fs,h=>fun x=>vT_loutT (f (.var fs.n x)) (fresh fs) (h x)
 | .allB f,fs,h=>fun x=>vT_loutT (f (.var fs.n x)) (fresh fs) (h x)
 | .allL f,fs,h=>fun x=>vT_loutT (f (.var fs.n x)) (fresh fs) (h x)
 | .namI e f,fs,h=>vT_loutT (f (.var fs.n _)) (fresh fs) (h _ rfl)
 | .namN e f,fs,h=>vT_loutT (f (.var fs.n _)) (fresh fs) (h _ rfl)
 | .namB e f,fs,h=>vT_loutT (f (.var fs.n _)) (fresh fs) (h _ rfl)
 | .namL e f,fs,h=>vT_loutT (f (.var fs.n _)) (fresh fs) (h _ rfl)
def DOut (C:Ctx) (f:FuncId) (args:List EV) (H:DHp) (v:EV) (hs:List DHop):Prop:=
 ACalls C f (vVs C.G args) (vHp C.G H) fun v' H'=>v'=vV C.G v∧H'=acts (vHp C.G H) (hs.map (vHop C.G))
def DYld (C:Ctx) (i:Nat) (args:List EV) (H:DHp) (v:EV) (hs:List DHop):Prop:=
 AYld C i (vVs C.G args) (vHp C.G H) fun v' H'=>v'=vV C.G v∧H'=acts (vHp C.G H) (hs.map (vHop C.G))
structure DGood (C:Ctx) (K:DCfg) (lps:List Code):Prop where
 hP:K.P=C.P
 mix:C.P.follows .mixedOrders=true
 calls:∀ f args H o,K.sum f args H=some o→oAll C.G (DOut C f args H) o
 loops:∀ m c F H o,m≤K.M→c∈lps→K.loop c F H=some o→∀ n (Q:Post),lHolds C.G (fun e F' H'=>Q e (vVs C.G F') (vHp C.G H')) n o→AWp C m (.loop c) (vVs C.G F) (vHp C.G H) Q
 inl:∀ f fn c,K.inl f=true→C.P.funcs[f]?=some fn→fn.body=some c→∀ b∈loopsOf c,b∈lps
 rngs:∀ m c F H o,m≤K.M→c∈lps→K.rng c F H=some o→∀ n (Q:Post),lHolds C.G (fun e F' H'=>Q e (vVs C.G F') (vHp C.G H')) n o→AWp C m c (vVs C.G F) (vHp C.G H) Q
 ylds:∀ i args H o,K.ysum i args H=some o→oAll C.G (DYld C i args H) o
def K0 (C:Ctx):Cfg:={ C:=C,inl:=fun _=>false,strict:=.lazy,unr:=false,sum:=fun _ _ _=>none,loop:=fun _ _ _=>none,M:=0 }
theorem good_K0 {C:Ctx} (h:C.P.follows .mixedOrders=true) (lps:List Code):Good (K0 C) lps:=⟨h,fun f args H v hs h=>by simp [K0] at h,fun m c F H e F' H' _ _ h=>by simp [K0] at h⟩
noncomputable def vTrK (G:Nat→List AV):DTrK→TrK
 | .still=>.still
 | .read r=>.read (vR G r)
 | .write=>.write
noncomputable def vTr (G:Nat→List AV) (t:DTr):Tr:=⟨vTrK G t.kd,t.len,t.hs.map (vHop G)⟩
noncomputable def vWk (G:Nat→List AV):DWk→Wk
 | .code c=>.code c
 | .ops all l=>.ops all l
 | .dr all l trs=>.dr all l (trs.map (vTr G))
theorem touch_ok (i:Nat):∀ (hs:List DHop) (len:Nat),touch i len (hs.map (vHop G))=touchD i len hs
 | [],_=>rfl
 | h::hs,len=>by cases h<;>simp only [List.map_cons,vHop,touch,touchD,touch_ok i hs]
theorem touchR_ok (r:ER) (hs:List DHop) (len:Nat) (h:touchRD r len hs=false):touchR (vR G r) len (hs.map (vHop G))=false:=by
 cases r with
 | rw i=>simp only [touchRD] at h;simp only [vR,touchR,touch_ok,h]
 | ro n=>simp only [vR,touchR]
 | fm b c k=>simp [touchRD] at h
theorem apartH_ok (x y:DTr) (h:apartHD x y=true):apartH (vTr G x) (vTr G y)=true:=by
 obtain ⟨kx,lx,hx⟩:=x
 obtain ⟨ky,ly,hy⟩:=y
 cases kx<;>cases ky<;>simp only [vTr,vTrK,apartH,apartHD] at h ⊢
 ·rw [touchR_ok _ _ _ (by simpa using h)];rfl
 ·rw [touchR_ok _ _ _ (by simpa using h)];rfl
 ·cases h
theorem drawOk_ok (all:List Oper) (trs:List DTr) (h:drawOkD all trs=true):drawOk all (trs.map (vTr G))=true:=by
 unfold drawOkD at h
 unfold drawOk
 simp only [Bool.and_eq_true,List.all_eq_true,Bool.or_eq_true] at h ⊢
 refine ⟨h.1,fun j hj i hi=>?_⟩
 rcases h.2 j hj i hi with h1 | h1
 ·exact .inl h1
 ·refine .inr ?_
  simp only [List.getElem?_map]
  revert h1
  cases all[i]?<;>cases all[j]?<;>cases trs[i]?<;>cases trs[j]?<;>simp
  intro g1 g2
  exact ⟨g1,apartH_ok _ _ g2⟩
theorem diffN_ok:∀ (H':DHp) (p:Bool) (i:Nat) (hs:List DHop),diffND p i H'=some hs→diffN p i (vHp G H')=some (hs.map (vHop G))
 | [],false,i,hs,h=>by simp [diffND] at h;subst h;rfl
 | [],true,i,hs,h=>by simp [diffND] at h
 | some b::H',false,i,hs,h=>by
  simp only [diffND] at h
  split at h
  ·rename_i hs' h1
   simp at h;subst h
   have:=diffN_ok H' false (i+1) hs' h1
   simp only [vHp] at this
   simp only [vHp,List.map_cons,Option.map_some,diffN,this,vHop]
  ·simp at h
 | some b::H',true,i,hs,h=>by
  simp only [diffND] at h
  split at h
  ·rename_i hs' h1
   simp at h;subst h
   have:=diffN_ok H' false (i+1) hs' h1
   simp only [vHp] at this
   simp only [vHp,List.map_cons,Option.map_some,diffN,this,vHop]
  ·simp at h
 | none::H',false,i,hs,h=>by
  simp only [diffND] at h
  split at h
  ·rename_i hs' h1
   simp at h;subst h
   have:=diffN_ok H' true (i+1) hs' h1
   simp only [vHp] at this
   simp only [vHp,List.map_cons,Option.map_none,diffN,this,vHop,vBlk,vL,vVs]
  ·simp at h
 | none::H',true,i,hs,h=>by
  simp only [diffND] at h
  split at h
  ·rename_i hs' h1
   simp at h;subst h
   have:=diffN_ok H' true (i+1) hs' h1
   simp only [vHp] at this
   simp only [vHp,List.map_cons,Option.map_none,diffN,this,vHop,vBlk,vL,vVs]
  ·simp at h
theorem diff_ok:∀ (H H':DHp) (i:Nat) (hs:List DHop),diffD i H H'=some hs→diffH false i (vHp G H) (vHp G H')=some (hs.map (vHop G))
 | [],H',i,hs,h=>by
  simp only [diffD] at h
  have:=diffN_ok (G:=G) H' false i hs h
  simp only [vHp,List.map_nil,diffH] at this ⊢
  exact this
 | x::H,some b::H',i,hs,h=>by
  cases x<;>simp only [diffD] at h
  all_goals
   split at h
   ·rename_i hs' h1
    simp at h;subst h
    have:=diff_ok H H' (i+1) hs' h1
    simp only [vHp] at this
    simp only [vHp,List.map_cons,Option.map_some,Option.map_none,diffH,Bool.false_and,this,vHop]
   ·simp at h
 | none::H,none::H',i,hs,h=>by
  simp only [diffD] at h
  have:=diff_ok H H' (i+1) hs h
  simp only [vHp] at this
  simp only [vHp,List.map_cons,Option.map_none,diffH,this]
 | some _::H,none::H',i,hs,h=>by simp [diffD] at h
 | some _::H,[],i,hs,h=>by simp [diffD] at h
 | none::H,[],i,hs,h=>by simp [diffD] at h
theorem frame_ok (fn:Func) (args:List EV):vVs G (frameD fn args)=frame0 fn (vVs G args):=by
 unfold frameD frame0
 rw [vVs_append,vVs_length]
 congr 1
 rw [vVs_map,List.map_replicate]
 simp only [vV,vVs]
theorem put_ok (F:DFr) (d:Option Tmp) (v:EV):vVs G (putD F d v)=put (vVs G F) d (vV G v):=by
 cases d<;>simp only [putD,setF0_eq,put,vVs_set]
theorem roIn_mono {K:DCfg} {r1 r2:Code→Bool} (h:∀ c,r1 c=true→r2 c=true):∀ c,roInD K r1 c=true→roInD K r2 c=true:=by
 have op:∀ o,roOpD K r1 o=true→roOpD K r2 o=true:=fun o ho=>by
  unfold roOpD at ho ⊢
  split at ho<;>first
   | rfl
   | (simp at ho;done)
   | skip
  split at ho
  ·rename_i g _ _
   obtain ⟨h1,h2⟩:=and_true' ho
   rw [h1]
   simp only [Bool.true_and]
   split at h2
   ·split at h2
    ·exact h _ h2
    ·rfl
   ·rfl
  ·simp at ho
 intro c
 induction c with
 | region id ops d=>simp only [roInD,List.all_eq_true];exact fun h o ho=>op o (h o ho)
 | seq a b iha ihb=>simp only [roInD,Bool.and_eq_true];exact fun h=>⟨iha h.1,ihb h.2⟩
 | cond x a b iha ihb=>simp only [roInD,Bool.and_eq_true];exact fun h=>⟨iha h.1,ihb h.2⟩
 | block id c ih=>exact ih
 | scope c ih=>exact ih
 | _=>intro h;simp_all [roInD]
theorem roCode_mono {K:DCfg}:∀ d c,roCodeD K d c=true→roCodeD K (d+1) c=true
 | 0,c,h=>by simp [roCodeD] at h
 | d+1,c,h=>roIn_mono (roCode_mono d) c h
def heapIs (H:DHp):T→Prop
 | .fail=>True
 | .chk _ t=>heapIs H t
 | .tst _ x y=>heapIs H x∧heapIs H y
 | .imp _ t=>heapIs H t
 | .allI _ k=>∀ x,heapIs H (k x)
 | .allN _ k=>∀ x,heapIs H (k x)
 | .allB _ k=>∀ x,heapIs H (k x)
 | .allL _ k=>∀ x,heapIs H (k x)
 | .namI _ _ k=>∀ x,heapIs H (k x)
 | .namN _ _ k=>∀ x,heapIs H (k x)
 | .namB _ _ k=>∀ x,heapIs H (k x)
 | .namL _ _ k=>∀ x,heapIs H (k x)
 | .leaf ..=>True
 | .ret _ H'=>H'=H
theorem hi_chkT {H:DHp}:∀ (b:EB) {t:T},heapIs H t→heapIs H (chkT b t)
 | .lit true,t,h=>h
 | .lit false,t,h=>trivial
 | .and a b,t,h=>by simp only [chkT];exact hi_chkT a (hi_chkT b h)
 | .var ..,t,h=>h
 | .cmp ..,t,h=>h
 | .not ..,t,h=>h
 | .eqB ..,t,h=>h
 | .eqS ..,t,h=>h
 | .isI ..,t,h=>h
 | .isB ..,t,h=>h
 | .isT ..,t,h=>h
 | .isR ..,t,h=>h
 | .get ..,t,h=>h
 | .leN ..,t,h=>h
 | .eqN ..,t,h=>h
 | .leaf ..,t,h=>h
 | .u8s ..,t,h=>h
 | .cells ..,t,h=>h
 | .isF ..,t,h=>h
 | .isP ..,t,h=>h
 | .isNil ..,t,h=>h
 | .rows ..,t,h=>h
 | .uf ..,t,h=>h
theorem hi_dec {H:DHp} {fs:Facts} {b:EB} {x y:Facts→T} (hx:∀ fs,heapIs H (x fs)) (hy:∀ fs,heapIs H (y fs)) :
  heapIs H (match dec fs b with | some true=>.chk b (x fs) | some false=>.chk (.not b) (y fs) | none=>.tst b (x (learn fs b true)) (y (learn fs b false))):=by
 split
 ·exact hx _
 ·exact hy _
 ·exact ⟨hx _,hy _⟩
theorem hi_tstT {H:DHp}:∀ (b:EB) (fs:Facts) (x y:Facts→T),(∀ fs,heapIs H (x fs))→(∀ fs,heapIs H (y fs))→heapIs H (tstT fs b x y)
 | .lit true,fs,x,y,hx,hy=>hx _
 | .lit false,fs,x,y,hx,hy=>hy _
 | .not b,fs,x,y,hx,hy=>by simp only [tstT];exact hi_tstT b fs y x hy hx
 | .and a b,fs,x,y,hx,hy=>by simp only [tstT];exact hi_tstT a fs _ _ (fun fs=>hi_tstT b fs x y hx hy) hy
 | .eqB a b,fs,x,y,hx,hy=>by simp only [tstT];exact hi_tstT a fs _ _ (fun fs=>hi_tstT b fs x y hx hy) (fun fs=>hi_tstT b fs y x hy hx)
 | .var ..,fs,x,y,hx,hy=>hi_dec hx hy
 | .cmp ..,fs,x,y,hx,hy=>hi_dec hx hy
 | .eqS ..,fs,x,y,hx,hy=>hi_dec hx hy
 | .isI ..,fs,x,y,hx,hy=>hi_dec hx hy
 | .isB ..,fs,x,y,hx,hy=>hi_dec hx hy
 | .isT ..,fs,x,y,hx,hy=>hi_dec hx hy
 | .isR ..,fs,x,y,hx,hy=>hi_dec hx hy
 | .get ..,fs,x,y,hx,hy=>hi_dec hx hy
 | .leN ..,fs,x,y,hx,hy=>hi_dec hx hy
 | .eqN ..,fs,x,y,hx,hy=>hi_dec hx hy
 | .leaf ..,fs,x,y,hx,hy=>hi_dec hx hy
 | .u8s ..,fs,x,y,hx,hy=>hi_dec hx hy
 | .cells ..,fs,x,y,hx,hy=>hi_dec hx hy
 | .isF ..,fs,x,y,hx,hy=>hi_dec hx hy
 | .isP ..,fs,x,y,hx,hy=>hi_dec hx hy
 | .isNil ..,fs,x,y,hx,hy=>hi_dec hx hy
 | .rows ..,fs,x,y,hx,hy=>hi_dec hx hy
 | .uf ..,fs,x,y,hx,hy=>hi_dec hx hy
theorem hi_famT {H:DHp} {fs:Facts} {o:EB×FamR} {k:Facts→EV→T} (h:∀ fs v,heapIs H (k fs v)):heapIs H (famT fs o k):=by
 obtain ⟨c0,x⟩:=o
 cases x with
 | val c v=>exact hi_chkT c0 (hi_chkT c (h _ _))
 | ptr n c v=>exact hi_chkT c0 (hi_tstT n fs _ _ (fun fs=>h _ _) (fun fs=>hi_chkT c (h _ _)))
theorem hi_opT {H:DHp} {o:Option (EB×EV)} {k:EV→T} (h:∀ v,heapIs H (k v)):heapIs H (opT o k):=by
 unfold opT;split
 ·exact hi_chkT _ (h _)
 ·trivial
def oRo:Outs→Prop
 | .one _ hs=>hs=[]
 | .chk _ x=>oRo x
 | .tst _ x y=>oRo x∧oRo y
 | .namI _ f=>∀ x,oRo (f x)
 | .namN _ f=>∀ x,oRo (f x)
 | .namB _ f=>∀ x,oRo (f x)
 | .namL _ f=>∀ x,oRo (f x)
theorem hi_outT {H:DHp} {k:Facts→EV→List DHop→T} (hk:∀ fs v,heapIs H (k fs v [])):∀ (o:Outs) (fs:Facts),oRo o→heapIs H (outT fs o k)
 | .one v hs,fs,ho=>by have:hs=[]:=ho;subst this;exact hk _ _
 | .chk b x,fs,ho=>hi_chkT b (hi_outT hk x fs ho)
 | .tst b x y,fs,ho=>hi_tstT b fs _ _ (fun fs=>hi_outT hk x fs ho.1) (fun fs=>hi_outT hk y fs ho.2)
 | .namI e f,fs,ho=>fun x=>hi_outT hk _ _ (ho _)
 | .namN e f,fs,ho=>fun x=>hi_outT hk _ _ (ho _)
 | .namB e f,fs,ho=>fun x=>hi_outT hk _ _ (ho _)
 | .namL e f,fs,ho=>fun x=>hi_outT hk _ _ (ho _)
theorem outs_ro {H:DHp}:∀ (t:T) (o:Outs),outsOf true H t=some o→oRo o
 | .ret v H',o,h=>by simp [outsOf] at h;subst h;rfl
 | .chk b t,o,h=>by
  simp only [outsOf] at h
  split at h
  ·rename_i o' h1;simp at h;subst h;exact outs_ro t o' h1
  ·simp at h
 | .tst b x y,o,h=>by
  simp only [outsOf] at h
  split at h
  ·rename_i o1 o2 h1 h2;simp at h;subst h;exact ⟨outs_ro x o1 h1,outs_ro y o2 h2⟩
  ·simp at h
 | .fail,o,h=>by simp [outsOf] at h
 | .allI ..,o,h=>by simp [outsOf] at h
 | .allN ..,o,h=>by simp [outsOf] at h
 | .allB ..,o,h=>by simp [outsOf] at h
 | .allL ..,o,h=>by simp [outsOf] at h
 | .leaf ..,o,h=>by simp [outsOf] at h
 | .imp ..,o,h=>by simp [outsOf] at h
 | .namI ..,o,h=>by simp [outsOf] at h
 | .namN ..,o,h=>by simp [outsOf] at h
 | .namB ..,o,h=>by simp [outsOf] at h
 | .namL ..,o,h=>by simp [outsOf] at h
def roWkD (K:DCfg):DWk→Bool
 | .code c=>roCodeD K 20 c
 | .ops _ l=>l.all (roOpD K (roCodeD K 20))
 | .dr _ l _=>l.all (roOpD K (roCodeD K 20))
theorem roOp_call {K:DCfg} {o:Oper} {F:DFr} {f:FuncId} {args:List EV} (hk:kdOf K.P o.op=.call) (hr:roOpD K (roCodeD K 20) o=true) (hc:callD F o.op=some (f,args)) :
  K.inl f=true∧∀ fn c,K.P.funcs[f]?=some fn→fn.body=some c→roCodeD K 20 c=true:=by
 unfold roOpD at hr
 rw [hk] at hr
 simp only at hr
 split at hr
 ·rename_i g args' ts hop
  rw [hop] at hc
  simp only [callD,evD,Option.some.injEq,Prod.mk.injEq] at hc
  obtain ⟨rfl,_⟩:=hc
  obtain ⟨h1,h2⟩:=and_true' hr
  refine ⟨h1,fun fn c hf hb=>?_⟩
  rw [hf] at h2
  simp only [hb] at h2
  exact h2
 ·simp at hr
theorem roOp_yld {K:DCfg} {o:Oper} {F:DFr} {i:Nat} {args:List EV} (hk:kdOf K.P o.op=.call) (hr:roOpD K (roCodeD K 20) o=true) (hc:yldD F o.op=some (i,args)):False:=by
 unfold roOpD at hr
 rw [hk] at hr
 simp only at hr
 split at hr
 ·rename_i g args' ts hop
  rw [hop] at hc
  simp [yldD,evD] at hc
 ·simp at hr
theorem dx_ro {K:DCfg}:∀ n m wk F H fs q,roWkD K wk=true→(∀ e F fs,heapIs H (q e F H fs))→heapIs H (dx K n m wk F H fs q):=by
  intro n
  induction n with
  | zero => intro m wk F H fs q _ _; trivial
  | succ n ih=>
    intro m wk F H fs q hr hq
    have guard:∀ {all:List Oper} {g:Option (Nat×Bool)} {go skip:DFr→Facts→T},(∀ F fs,heapIs H (go F fs))→(∀ F fs,heapIs H (skip F fs))→heapIs H (guardD fs all g F go skip):=by
      intro all g go skip h1 h2
      unfold guardD
      split
      · exact h1 _ _
      · split
        · split
          · refine hi_tstT _ _ _ _ (fun fs=>?_) (fun fs=>?_)<;>split<;>first | exact h1 _ _ | exact h2 _ _
          · exact h2 _ _
          · trivial
        · trivial
    cases wk with
    | ops all l=>
      show heapIs H (stepOpsD K (dx K n) m all l F H fs q)
      cases l with
      | nil=>exact hq _ _ _
      | cons o l=>
        obtain ⟨dst,op,ty,pos,after,g⟩:=o
        simp only [roWkD,List.all_cons,Bool.and_eq_true] at hr
        obtain ⟨ho,hl⟩:=hr
        simp only [stepOpsD]
        refine guard (fun F fs=>?_) (fun F fs=>ih _ _ _ _ _ _ hl hq)
        unfold stepOpD
        split
        · exact hi_opT fun v=>ih _ (.ops all l) _ _ _ _ hl hq
        · split
          · exact hi_famT fun fs v=>ih _ (.ops all l) _ _ _ _ hl hq
          · exact hi_opT fun v=>ih _ (.ops all l) _ _ _ _ hl hq
        · rename_i hk
          simp [roOpD,hk] at ho
        · rename_i hk
          split
          · rename_i f args hc
            obtain ⟨hi,hb⟩:=roOp_call hk ho hc
            rw [hi]
            simp only
            split
            · rename_i fn hf
              split
              · rename_i c hbody
                split
                · trivial
                · refine ih _ (.code c) _ _ _ _ (hb fn c hf hbody) fun e F fs=>?_
                  unfold retD
                  split
                  · trivial
                  · exact hi_opT fun v=>ih _ _ _ _ _ _ hl hq
              · trivial
            · trivial
          · split
            · rename_i i args hy
              exact (roOp_yld hk ho hy).elim
            · trivial
    | dr all l trs=>
      show heapIs H (stepDrD K (dx K n) m all l trs F H fs q)
      cases l with
      | nil=>
        simp only [stepDrD]
        split
        · exact hq _ _ _
        · trivial
      | cons o l=>
        obtain ⟨dst,op,ty,pos,after,g⟩:=o
        simp only [roWkD,List.all_cons,Bool.and_eq_true] at hr
        obtain ⟨ho,hl⟩:=hr
        simp only [stepDrD]
        refine guard (fun F fs=>?_) (fun F fs=>ih _ (.dr all l _) _ _ _ _ hl hq)
        unfold stepDrOpD
        split
        · exact hi_opT fun v=>ih _ (.dr all l _) _ _ _ _ hl hq
        · split
          · exact hi_famT fun fs v=>ih _ (.dr all l _) _ _ _ _ hl hq
          · exact hi_opT fun v=>ih _ (.dr all l _) _ _ _ _ hl hq
        · rename_i hk
          simp [roOpD,hk] at ho
        · rename_i hk
          split
          · rename_i f args hc
            obtain ⟨hi,hb⟩:=roOp_call hk ho hc
            rw [hi]
            simp only
            split
            · rename_i fn hf
              split
              · rename_i c hbody
                split
                · trivial
                · split
                  · rename_i o' ho'
                    rw [hb fn c hf hbody] at ho'
                    exact hi_outT (fun fs v=>ih _ (.dr all l _) _ _ _ _ hl hq) o' fs (outs_ro _ _ ho')
                  · trivial
              · trivial
            · trivial
          · split
            · rename_i i args hy
              exact (roOp_yld hk ho hy).elim
            · trivial
    | code c=>
      have sub:∀ {c':Code},roInD K (roCodeD K 19) c'=true→roWkD K (.code c')=true:=fun h=>h
      show heapIs H (stepCodeD K (dx K n) m c F H fs q)
      have hr:roInD K (roCodeD K 19) c=true:=hr
      have opsOk:∀ {l:List Oper},l.all (roOpD K (roCodeD K 19))=true→l.all (roOpD K (roCodeD K 20))=true:=fun {l} h=>by
        have:=roIn_mono (K:=K) (r1:=roCodeD K 19) (r2:=roCodeD K 20) (fun c=>roCode_mono 19 c) (.region 0 l.toArray false) (by simpa [roInD] using h)
        simpa [roInD] using this
      cases c with
      | skip=>exact hq _ _ _
      | region id ops draw=>
        simp only [roInD] at hr
        cases draw with
        | true=>exact ih _ (.dr _ _ _) _ _ _ _ (opsOk hr) hq
        | false=>exact ih _ (.ops _ _) _ _ _ _ (opsOk hr) hq
      | seq a b=>
        simp only [roInD,Bool.and_eq_true] at hr
        refine ih _ (.code a) _ _ _ _ (sub hr.1) fun e F fs=>?_
        unfold thenD
        split
        · exact ih _ (.code b) _ _ _ _ (sub hr.2) hq
        · exact hq _ _ _
      | cond x a b=>
        simp only [roInD,Bool.and_eq_true] at hr
        obtain ⟨ra,rb⟩:=hr
        simp only [stepCodeD,stepCondD]
        split
        · split
          · exact hi_tstT _ _ _ _ (fun fs=>ih _ (.code a) _ _ _ _ (sub ra) hq) (fun fs=>ih _ (.code b) _ _ _ _ (sub rb) hq)
          · trivial
        · split
          · exact ih _ (.code a) _ _ _ _ (sub ra) hq
          · exact ih _ (.code b) _ _ _ _ (sub rb) hq
        · trivial
      | block id c=>
        refine ih _ (.code c) _ _ _ _ (sub hr) fun e F fs=>?_
        unfold blockD
        split
        · split
          · exact hq _ _ _
          · exact hq _ _ _
        · exact hq _ _ _
      | loop c=>simp [roInD] at hr
      | exit i=>exact hq _ _ _
      | scope c=>exact ih _ (.code c) _ _ _ _ (sub hr) hq
      | label i=>exact hq _ _ _
      | ret=>exact hq _ _ _
      | _=>simp [roInD] at hr
theorem outs_ok {C:Ctx} {f:FuncId} {args:List EV} {H:DHp} {ro:Bool}:∀ (t:T) (o:Outs),outsOf ro H t=some o→(ro=true→heapIs H t)→
  (∀ R:AV→Hp→Prop,vT C.G (fun _ _ _=>False) R t→ACalls C f (vVs C.G args) (vHp C.G H) R)→oAll C.G (DOut C f args H) o
 | .ret v H',o,h,hro,hc=>by
  simp only [outsOf] at h
  split at h
  ·simp at h;subst h
   have:=hro rfl
   simp only [heapIs] at this
   subst this
   exact hc _ ⟨rfl,rfl⟩
  ·split at h
   ·rename_i hs hd
    simp at h;subst h
    have e:=acts_diff 0 [] _ _ _ rfl (diff_ok (G:=C.G) _ _ _ _ hd)
    simp only [List.nil_append] at e
    exact hc _ ⟨rfl,e.symm⟩
   ·simp at h
 | .chk b t,o,h,hro,hc=>by
  simp only [outsOf] at h
  split at h
  ·rename_i o' h1
   simp at h;subst h
   exact fun hb=>outs_ok t o' h1 hro fun R hR=>hc R ⟨hb,hR⟩
  ·simp at h
 | .tst b x y,o,h,hro,hc=>by
  simp only [outsOf] at h
  split at h
  ·rename_i o1 o2 h1 h2
   simp at h;subst h
   exact ⟨fun hb=>outs_ok x o1 h1 (fun hr=>(hro hr).1) fun R hR=>hc R ⟨fun _=>hR,fun hb'=>by rw [hb] at hb';simp at hb'⟩,
    fun hb=>outs_ok y o2 h2 (fun hr=>(hro hr).2) fun R hR=>hc R ⟨fun hb'=>by rw [hb] at hb';simp at hb',fun _=>hR⟩⟩
  ·simp at h
 | .fail,o,h,_,_=>by simp [outsOf] at h
 | .allI ..,o,h,_,_=>by simp [outsOf] at h
 | .allN ..,o,h,_,_=>by simp [outsOf] at h
 | .allB ..,o,h,_,_=>by simp [outsOf] at h
 | .allL ..,o,h,_,_=>by simp [outsOf] at h
 | .leaf ..,o,h,_,_=>by simp [outsOf] at h
 | .imp ..,o,h,_,_=>by simp [outsOf] at h
 | .namI ..,o,h,_,_=>by simp [outsOf] at h
 | .namN ..,o,h,_,_=>by simp [outsOf] at h
 | .namB ..,o,h,_,_=>by simp [outsOf] at h
 | .namL ..,o,h,_,_=>by simp [outsOf] at h
theorem famT_ok {C:Ctx} {K:DCfg} {Q:Ex→List AV→Hp→Prop} {R:AV→Hp→Prop} (hG:C.G=C.G) {F:DFr} {H:DHp} {op:Op} {o:EB×FamR} {fs:Facts} {k:Facts→EV→T} (ho:famD K.fam C.P F H op=some o) (h:vT C.G Q R (famT fs o k)) :
  ∃ fs2 v,readOp C (vVs C.G F) (vHp C.G H) op=some (true,vV C.G v)∧vT C.G Q R (k fs2 v):=by
 obtain ⟨c0,x⟩:=o
 cases x with
 | val c v=>
  simp only [famT] at h
  obtain ⟨h0,h⟩:=vT_chkT c0 h
  obtain ⟨h1,h⟩:=vT_chkT c h
  exact ⟨fs,v,fam_wo hG ho h0 h1,h⟩
 | ptr n c v=>
  simp only [famT] at h
  obtain ⟨h0,h⟩:=vT_chkT c0 h
  have hw:=fam_wo hG ho h0
  rcases vT_tstT n fs _ _ h with ⟨h1,fs1,_,h2⟩ | ⟨h1,fs1,_,h2⟩
  ·exact ⟨fs1,.nilp,by rw [hw.1 h1];simp only [vV],h2⟩
  ·obtain ⟨h3,h4⟩:=vT_chkT c h2
   exact ⟨fs1,v,hw.2 h3,h4⟩
theorem sees_ok {F:DFr} {op:Op}:seesOp (vVs G F) op=(seesD F op).map (vR G):=by
 unfold seesOp seesD
 cases op<;>simp only [Option.map_none]
 ·simp only [←vV_evD]
  generalize evD F _=x
  cases x<;>simp only [vV,Option.map_some,Option.map_none]
 ·simp only [←vV_evD]
  generalize evD F _=x
  cases x<;>simp only [vV,Option.map_some,Option.map_none]
theorem lHolds_mono {P P':Ex→DFr→DHp→Prop} (hp:∀ e F H,P e F H→P' e F H):∀ (o:LOut) (n:Nat),lHolds G P n o→lHolds G P' n o
 | .one e F H,n,h=>hp _ _ _ h
 | .chk b x,n,h=>⟨h.1,lHolds_mono hp x n h.2⟩
 | .tst b x y,n,h=>⟨fun hb=>lHolds_mono hp x n (h.1 hb),fun hb=>lHolds_mono hp y n (h.2 hb)⟩
 | .imp b x,n,h=>fun hb=>lHolds_mono hp x n (h hb)
 | .allI f,n,h=>fun x=>lHolds_mono hp (f (.var n x)) (n+1) (h x)
 | .allN f,n,h=>fun x=>lHolds_mono hp (f (.var n x)) (n+1) (h x)
 | .allB f,n,h=>fun x=>lHolds_mono hp (f (.var n x)) (n+1) (h x)
 | .allL f,n,h=>fun x=>lHolds_mono hp (f (.var n x)) (n+1) (h x)
 | .namI e f,n,h=>lHolds_mono hp (f (.var n _)) (n+1) h
 | .namN e f,n,h=>lHolds_mono hp (f (.var n _)) (n+1) h
 | .namB e f,n,h=>lHolds_mono hp (f (.var n _)) (n+1) h
 | .namL e f,n,h=>lHolds_mono hp (f (.var n _)) (n+1) h
def LpD (K:DCfg) (lps:List Code) (wk:DWk):Prop:=
 match wk with
 | .code c=>∀ b∈loopsOf c,b∈lps
 | _=>True
theorem guard_ok {Q:Ex→List AV→Hp→Prop} {R:AV→Hp→Prop} {fs:Facts} {all:List Oper} {g:Option (Nat×Bool)} {F:DFr} {go skip:DFr→Facts→T} (h:vT G Q R (guardD fs all g F go skip)) :
  ∃ F' fs',vVs G F'=vVs G F∧F'.length=F.length∧((wantA all g (vVs G F)=some true∧vT G Q R (go F' fs'))∨(wantA all g (vVs G F)=some false∧vT G Q R (skip F' fs'))):=by
 unfold guardD at h
 unfold wantA
 split at h
 ·exact ⟨F,fs,rfl,rfl,.inl ⟨rfl,h⟩⟩
 ·rename_i j want
  simp only
  split at h
  ·rename_i t ht
   simp only [ht,vVs_getD]
   rw [getF0_eq] at h
   split at h
   ·rename_i b hb
    have hv:∀ x:Bool,vB G b=x→vVs G (putD F (some t) (.bool (.lit x)))=vVs G F:=fun x hx=>by
     rw [put_ok]
     simp only [put,vV,vB]
     refine set_same ?_ (by simp)
     rw [vVs_getD,hb]
     simp only [vV,hx]
    rw [hb]
    simp only [vV]
    rcases vT_tstT b fs _ _ h with ⟨h1,fs1,_,h2⟩ | ⟨h1,fs1,_,h2⟩
    ·refine ⟨putD F (some t) (.bool (.lit true)),fs1,hv _ h1,by simp [putD,setF0_eq],?_⟩
     rw [h1]
     cases want
     ·exact .inr ⟨rfl,h2⟩
     ·exact .inl ⟨rfl,h2⟩
    ·refine ⟨putD F (some t) (.bool (.lit false)),fs1,hv _ h1,by simp [putD,setF0_eq],?_⟩
     rw [h1]
     cases want
     ·exact .inl ⟨rfl,h2⟩
     ·exact .inr ⟨rfl,h2⟩
   ·rename_i hb
    rw [hb]
    simp only [vV,vVs]
    exact ⟨F,fs,rfl,rfl,.inr ⟨trivial,h⟩⟩
   ·exact h.elim
  ·exact h.elim
theorem dx_sound {C:Ctx} {K:DCfg} {lps:List Code} (hK:DGood C K lps):∀ n m wk F H fs q (Q:Post) (QQ:Ex→List AV→Hp→Prop) (RR:AV→Hp→Prop),
    (∀ e F H fs,vT C.G QQ RR (q e F H fs)→Q e (vVs C.G F) (vHp C.G H))→LpD K lps wk→vT C.G QQ RR (dx K n m wk F H fs q)→Snd (K0 C) m (vWk C.G wk) (vVs C.G F) (vHp C.G H) Q:=by
  have hG:C.G=C.G:=rfl
  have hP:=hK.hP
  intro n
  induction n with
  | zero => intro m wk F H fs q Q QQ RR _ _ h; exact h.elim
  | succ n ih=>
    intro m wk F H fs q Q QQ RR hq hlp h
    have g0:=good_K0 (C:=C) hK.mix lps
    cases wk with
    | ops all l=>
      change vT C.G QQ RR (stepOpsD K (dx K n) m all l F H fs q) at h
      cases l with
      | nil=>exact fun r ρ a w hm hH hF=>⟨.normal,ρ,_,_,rfl,hq _ _ _ _ h,Pin.refl m ρ,hH,hF,Frm.refl ρ w⟩
      | cons o l=>
        obtain ⟨dst,op,ty,pos,after,guard⟩:=o
        simp only [stepOpsD] at h
        obtain ⟨F',fs',hFe,_,h⟩:=guard_ok h
        rw [← hFe]
        rw [← hFe] at h
        rcases h with ⟨hw,h⟩ | ⟨hw,h⟩
        · unfold stepOpD at h
          rw [hP] at h
          split at h
          · rename_i hk
            obtain ⟨c,v,h1,h2,h3⟩:=vT_opT h
            have:=ih m (.ops all l) _ _ _ _ _ _ _ hq trivial h3
            rw [put_ok] at this
            exact step_then (lps:=lps) g0 (.pure hw hk (pure_wo _ _ h1 h2)) this
          · rename_i hk
            split at h
            · rename_i o ho
              obtain ⟨fs2,v,h1,h3⟩:=famT_ok hG (o:=o) ho h
              have:=ih m (.ops all l) _ _ _ _ _ _ _ hq trivial h3
              rw [put_ok] at this
              exact step_then (lps:=lps) g0 (.read hw hk h1) this
            · obtain ⟨c,v,h1,h2,h3⟩:=vT_opT h
              have:=ih m (.ops all l) _ _ _ _ _ _ _ hq trivial h3
              rw [put_ok] at this
              exact step_then (lps:=lps) g0 (.read hw hk (read_wo hG _ _ h1 h2)) this
          · rename_i hk
            split at h
            · rename_i c v x hx
              obtain ⟨h2,h3⟩:=vT_chkT c h
              have:=ih m (.ops all l) _ _ _ _ _ _ _ hq trivial h3
              rw [put_ok,vHop_act] at this
              exact step_then (lps:=lps) g0 (.write hw hk (write_ww hG _ _ _ hx h2)) this
            · split at h
              · rename_i c hs hx
                obtain ⟨h2,h3⟩:=vT_chkT c h
                obtain ⟨hp,e1,e2⟩:=writeF_ok hG hx h2
                have:=ih m (.ops all l) _ _ _ _ _ _ _ hq trivial h3
                rw [put_ok,vHop_acts,←e2] at this
                simp only [vV,vVs] at this
                exact step_then (lps:=lps) g0 (.write hw hk e1) this
              · exact h.elim
          · rename_i hk
            split at h
            · rename_i f args hc
              have hc:=call_ok (G:=C.G) hc
              split at h
              · rename_i hi
                split at h
                · rename_i fn hfn
                  split at h
                  · rename_i c hb
                    split at h
                    · exact h.elim
                    · rename_i hnm
                      have hbody:∀ (r:Option Nat),okR r c=true→∀ (ρ:Env) (a:Act) (w:World),(vHp C.G H).length≤(vHp C.G H).length→HRel C ρ (vHp C.G H) w→FRel ρ (frame0 fn (vVs C.G args)) a→
                          c.wpIn (W r) 0 C.P (AP C (vHp C.G H).length ρ w (retK C fn fun v' H'=>∃ v H1 fs,v'=vV C.G v∧H'=vHp C.G H1∧vT C.G QQ RR (dx K n m (.ops all l) (putD F' dst v) H1 fs q))) a w:=by
                        have:=ih H.length (.code c) (frameD fn args) H fs' _ (retK C fn fun v' H'=>∃ v H1 fs,v'=vV C.G v∧H'=vHp C.G H1∧vT C.G QQ RR (dx K n m (.ops all l) (putD F' dst v) H1 fs q)) QQ RR (fun e F1 H1 fs1 ht=>by
                          unfold retD at ht
                          split at ht
                          · exact ht.elim
                          · rename_i hne
                            obtain ⟨cc,v,q1,q2,q3⟩:=vT_opT ht
                            have e1:=res_wo hG _ _ q1 q2
                            cases e with
                            | exit i=>exact absurd rfl (hne i)
                            | normal=>simp only [retK];rw [e1];exact ⟨v,H1,fs1,rfl,rfl,q3⟩
                            | ret=>simp only [retK];rw [e1];exact ⟨v,H1,fs1,rfl,rfl,q3⟩) (fun b hb'=>hK.inl f fn c hi hfn hb b hb') h
                        rw [frame_ok] at this
                        rw [← vHp_length (G := C.G) H] at this
                        exact this
                      have hcall:=acalls_of (f:=f) (C:=C) (fn:=fn) (K:=fun v' H'=>∃ v H1 fs,v'=vV C.G v∧H'=vHp C.G H1∧vT C.G QQ RR (dx K n m (.ops all l) (putD F' dst v) H1 fs q)) hfn hb hnm (fun r hr ρ a w hH hF=>hbody r hr ρ a w (Nat.le_refl _) hH hF)
                      intro r ρ a w hm hH hF
                      unfold wpListIn
                      rw [wanted_of hF hw,if_pos rfl]
                      obtain ⟨cargs,hv,h1⟩:=call_enters (w:=w) (o:=⟨dst,op,ty,pos,after,guard⟩) hF hc hcall.1
                      refine wpIn_run (nd_call hc) ?_
                      have h1:(execOp a.eval ⟨dst,op,ty,pos,after,guard⟩).run (K0 C).C.P w=.ok (.enter f cargs.toArray) w:=h1
                      rw [h1]
                      refine ⟨fun h=>by simp [W,Fence.wide] at h,callsIn_W.2 ((hcall.2 ρ w cargs hH hv).mono ?_)⟩
                      rintro e w' ⟨v',cv,ρ',H',rfl,⟨v,H1,fs1,rfl,rfl,g1⟩,g2,g3,g4,g5⟩
                      have hp:=Pin.of_le hH g2 hm
                      have:=ih m (.ops all l) _ _ _ _ _ _ _ hq trivial g1
                      rw [put_ok] at this
                      exact wpListIn_monoQ (fun e a w h=>AP.link hp g5 h) l _ _ (this r ρ' _ w' (pin_len hm hH g3 hp) g3 ((hF.mono g2).put _ _ _ g4))
                  · exact h.elim
                · exact h.elim
              · split at h
                · rename_i o ho
                  obtain ⟨fs1,v,hs,h1,h2⟩:=vT_outT o fs' h (hK.calls _ _ _ _ ho)
                  have:=ih m (.ops all l) _ _ _ _ _ _ _ hq trivial h2
                  rw [put_ok,vHop_acts] at this
                  exact step_then (lps:=lps) g0 (.call hw hk hc h1) this
                · exact h.elim
            · split at h
              · rename_i i args hy
                have hy:=yld_ok (G:=C.G) hy
                split at h
                · rename_i o ho
                  obtain ⟨fs1,v,hs,h1,h2⟩:=vT_outT o fs' h (hK.ylds _ _ _ _ ho)
                  have:=ih m (.ops all l) _ _ _ _ _ _ _ hq trivial h2
                  rw [put_ok,vHop_acts] at this
                  intro r ρ a w hm hH hF
                  unfold wpListIn
                  rw [wanted_of hF hw,if_pos rfl]
                  refine h1 ρ _ w a ⟨dst,op,ty,pos,after,guard⟩ r _ _ hH hF hy ?_
                  rintro v' H' ρ' cv w' ⟨rfl,rfl⟩ g3 g4 g2 g5
                  have hp:=Pin.of_le hH g2 hm
                  exact wpListIn_monoQ (fun e a w h=>AP.link hp g5 h) l _ _ (this r ρ' _ w' (pin_len hm hH g3 hp) g3 ((hF.mono g2).put _ _ _ g4))
                · exact h.elim
              · exact h.elim
        · have:=ih m (.ops all l) _ _ _ _ _ _ _ hq trivial h
          rw [put_ok] at this
          simp only [vV,vVs] at this
          exact step_then (lps:=lps) g0 (.skip hw) this
    | dr all l trs=>
      change vT C.G QQ RR (stepDrD K (dx K n) m all l trs F H fs q) at h
      cases l with
      | nil=>
        simp only [stepDrD] at h
        split at h
        · rename_i hd
          exact ⟨[],_,_,.nil _ _,by have:=drawOk_ok (G:=C.G) all trs hd;simpa using this,hq _ _ _ _ h⟩
        · exact h.elim
      | cons o l=>
        obtain ⟨dst,op,ty,pos,after,guard⟩:=o
        simp only [stepDrD] at h
        obtain ⟨F',fs',hFe,_,h⟩:=guard_ok h
        rw [← hFe]
        rw [← hFe] at h
        have go:∀ {tr:DTr} {v:EV} {H':DHp} {fs1:Facts},St (K0 C) all ⟨dst,op,ty,pos,after,guard⟩ (vVs C.G F') (vHp C.G H) (vTr C.G tr) (vV C.G v) (vHp C.G H')→
            vT C.G QQ RR (dx K n m (.dr all l (trs++[tr])) (putD F' dst v) H' fs1 q)→Snd (K0 C) m (vWk C.G (.dr all (⟨dst,op,ty,pos,after,guard⟩::l) trs)) (vVs C.G F') (vHp C.G H) Q:=by
          intro tr v H' fs1 hst hrec
          have:=ih m (.dr all l (trs++[tr])) _ _ _ _ _ _ _ hq trivial hrec
          rw [put_ok] at this
          obtain ⟨trs',F1,H1,g1,g2,g3⟩:=this
          exact ⟨vTr C.G tr::trs',F1,H1,.cons hst g1,by simpa using g2,g3⟩
        rcases h with ⟨hw,h⟩ | ⟨hw,h⟩
        · unfold stepDrOpD at h
          rw [hP] at h
          split at h
          · rename_i hk
            obtain ⟨c,v,h1,h2,h3⟩:=vT_opT h
            refine go (tr:=⟨.still,H.length,[]⟩) ?_ h3
            have:=St.pure (K:=K0 C) (all:=all) (o:=⟨dst,op,ty,pos,after,guard⟩) (H:=vHp C.G H) hw hk (pure_wo _ _ h1 h2)
            rw [vHp_length] at this
            exact this
          · rename_i hk
            obtain ⟨fs2,v,h1,h3⟩:∃ fs2 v,readOp C (vVs C.G F') (vHp C.G H) op=some (true,vV C.G v)∧vT C.G QQ RR (dx K n m (.dr all l (trs++[⟨(match seesD F' op with | some r=>.read r | none=>.still),H.length,[]⟩])) (putD F' dst v) H fs2 q):=by
              split at h
              · rename_i o ho
                exact famT_ok hG (o:=o) ho h
              · obtain ⟨c,v,h1,h2,h3⟩:=vT_opT h
                exact ⟨_,v,read_wo hG _ _ h1 h2,h3⟩
            refine go ?_ h3
            have:=St.read (K:=K0 C) (all:=all) (o:=⟨dst,op,ty,pos,after,guard⟩) (H:=vHp C.G H) hw hk h1
            rw [vHp_length] at this
            refine cast (congrArg (fun tr=>St (K0 C) all ⟨dst,op,ty,pos,after,guard⟩ (vVs C.G F') (vHp C.G H) tr (vV C.G v) (vHp C.G H)) ?_) this
            simp only [vTr,List.map_nil]
            congr 1
            rw [sees_ok]
            cases seesD F' op<;>simp only [Option.map_some,Option.map_none,vTrK]
          · rename_i hk
            split at h
            · rename_i c v x hx
              obtain ⟨h2,h3⟩:=vT_chkT c h
              refine go ?_ h3
              have:=St.write (K:=K0 C) (all:=all) (o:=⟨dst,op,ty,pos,after,guard⟩) hw hk (write_ww hG _ _ _ hx h2)
              rw [vHp_length,←vHop_act] at this
              exact this
            · exact h.elim
          · rename_i hk
            split at h
            · rename_i f args hc
              have hc:=call_ok (G:=C.G) hc
              have fin:∀ {o:Outs} {fs1:Facts},oAll C.G (DOut C f args H) o→vT C.G QQ RR (outT fs1 o fun fs v hs=>dx K n m (.dr all l (trs++[⟨.write,H.length,hs⟩])) (putD F' dst v) (dacts H hs) fs q)→
                  Snd (K0 C) m (vWk C.G (.dr all (⟨dst,op,ty,pos,after,guard⟩::l) trs)) (vVs C.G F') (vHp C.G H) Q:=by
                intro o fs1 ho ht
                obtain ⟨fs2,v,hs,h1,h2⟩:=vT_outT o fs1 ht ho
                refine go ?_ h2
                have:=St.call (K:=K0 C) (all:=all) (o:=⟨dst,op,ty,pos,after,guard⟩) hw hk hc h1
                rw [vHp_length,←vHop_acts] at this
                exact this
              split at h
              · rename_i hi
                split at h
                · rename_i fn hfn
                  split at h
                  · rename_i c hb
                    split at h
                    · exact h.elim
                    · rename_i hnm
                      split at h
                      · rename_i o ho
                        refine fin (outs_ok _ _ ho (fun hr=>?_) fun R hR=>?_) h
                        · refine dx_ro n _ (.code c) _ _ _ _ hr fun e F fs=>?_
                          unfold retD
                          split
                          · trivial
                          · exact hi_opT fun v=>rfl
                        · refine acalls_of (f:=f) (C:=C) (fn:=fn) hfn hb hnm fun r hr ρ a w hH hF=>?_
                          have:=ih H.length (.code c) (frameD fn args) H fs' _ (retK C fn R) (fun _ _ _=>False) R (fun e F1 H1 fs1 ht=>by
                            unfold retD at ht
                            split at ht
                            · exact ht.elim
                            · rename_i hne
                              obtain ⟨cc,v,q1,q2,q3⟩:=vT_opT ht
                              have e1:=res_wo hG _ _ q1 q2
                              cases e with
                              | exit i=>exact absurd rfl (hne i)
                              | normal=>simp only [retK];rw [e1];exact q3
                              | ret=>simp only [retK];rw [e1];exact q3) (fun b hb'=>hK.inl f fn c hi hfn hb b hb') hR
                          rw [frame_ok,←vHp_length (G:=C.G) H] at this
                          exact this r hr ρ a w (Nat.le_refl _) hH hF
                      · exact h.elim
                  · exact h.elim
                · exact h.elim
              · split at h
                · rename_i o ho
                  exact fin (hK.calls _ _ _ _ ho) h
                · exact h.elim
            · split at h
              · rename_i i args hy
                have hy:=yld_ok (G:=C.G) hy
                split at h
                · rename_i o ho
                  obtain ⟨fs2,v,hs,h1,h2⟩:=vT_outT o fs' h (hK.ylds _ _ _ _ ho)
                  refine go ?_ h2
                  have:=St.yld (K:=K0 C) (all:=all) (o:=⟨dst,op,ty,pos,after,guard⟩) hw hy h1
                  rw [vHp_length,←vHop_acts] at this
                  exact this
                · exact h.elim
              · exact h.elim
        · refine go (tr:=⟨.still,H.length,[]⟩) (v:=.tup []) ?_ h
          have:=St.skip (K:=K0 C) (all:=all) (o:=⟨dst,op,ty,pos,after,guard⟩) (H:=vHp C.G H) hw
          rw [vHp_length] at this
          simp only [vV,vVs]
          exact this
    | code c=>
      change vT C.G QQ RR (stepCodeD K (dx K n) m c F H fs q) at h
      intro r hr ρ a w hm hH hF
      have here:∀ ae,Q ae (vVs C.G F) (vHp C.G H)→AP C m ρ w Q (toExit ae) a w:=fun ae hq=>⟨ae,ρ,_,_,rfl,hq,Pin.refl m ρ,hH,hF,Frm.refl ρ w⟩
      cases c with
      | skip=>exact wpIn_skip (here .normal (hq _ _ _ _ h))
      | region id ops draw=>
        cases draw with
        | true=>
          obtain ⟨trs',F',H',g1,g2,g3⟩:=ih m (.dr ops.toList ops.toList []) F H fs q Q QQ RR hq trivial h
          have:=draw_sound (id:=id) (r:=r) (Q:=AP C m ρ w Q) (lps:=lps) g0 g1 (by simpa using g2) hH hF fun ρ' a' w' q1 q2 q3 q4=>⟨.normal,ρ',F',H',rfl,g3,Pin.of_le hH q3 hm,q1,q2,q4⟩
          rwa [Array.toArray_toList] at this
        | false=>
          have:=ih m (.ops ops.toList ops.toList) F H fs q Q QQ RR hq trivial h r ρ a w hm hH hF
          rw [Array.toArray_toList] at this
          exact wpIn_region_list this
      | seq x y=>
        have hx:LpD K lps (.code x):=fun b hb=>hlp b (List.mem_append.2 (.inl hb))
        have hy:LpD K lps (.code y):=fun b hb=>hlp b (List.mem_append.2 (.inr hb))
        have key:=ih m (.code x) F H fs (thenD (dx K n) m y q) (fun e F1 H1=>match e with
          | .normal=>∀ ρ' a' w',m≤H1.length→HRel C ρ' H1 w'→FRel ρ' F1 a'→y.wpIn (W r) 0 C.P (AP C m ρ' w' Q) a' w'
          | e=>Q e F1 H1) QQ RR (fun e F1 H1 fs1 ht=>by
            cases e with
            | normal=>exact fun ρ' a' w' q1 q2 q3=>ih m (.code y) F1 H1 fs1 q Q QQ RR hq hy ht r (okR_seq hr).2 ρ' a' w' q1 q2 q3
            | exit i=>exact hq _ _ _ _ ht
            | ret=>exact hq _ _ _ _ ht) hx h r (okR_seq hr).1 ρ a w hm hH hF
        refine wpIn_seq (Code.wpIn_mono ?_ key)
        rintro e a' w' ⟨ae,ρ',F',H',rfl,h2,h3,h4,h5,h6⟩
        cases ae with
        | normal=>exact Code.wpIn_mono (fun e a w h=>AP.link h3 h6 h) (h2 ρ' a' w' (pin_len hm hH h4 h3) h4 h5)
        | exit i=>exact ⟨.exit i,ρ',F',H',rfl,h2,h3,h4,h5,h6⟩
        | ret=>exact ⟨.ret,ρ',F',H',rfl,h2,h3,h4,h5,h6⟩
      | cond c x y=>
        have hx:LpD K lps (.code x):=fun b hb=>hlp b (List.mem_append.2 (.inl hb))
        have hy:LpD K lps (.code y):=fun b hb=>hlp b (List.mem_append.2 (.inr hb))
        simp only [stepCodeD,stepCondD] at h
        split at h
        · rename_i t
          rw [getF0_eq] at h
          split at h
          · rename_i b hb
            have hv:=hF.at t
            rw [vVs_getD,hb] at hv
            simp only [vV,VR] at hv
            have hs:∀ x:Bool,vB C.G b=x→vVs C.G (putD F (some t) (.bool (.lit x)))=vVs C.G F:=fun x hx=>by
              rw [put_ok]
              simp only [put,vV,vB]
              refine set_same ?_ (by simp)
              rw [vVs_getD,hb]
              simp only [vV,hx]
            rcases vT_tstT b fs _ _ h with ⟨h1,fs1,_,h2⟩ | ⟨h1,fs1,_,h2⟩
            · rw [h1] at hv
              have:=ih m (.code x) _ H fs1 q Q QQ RR hq hx h2 r (okR_cond hr).1 ρ a w hm hH
              rw [hs _ h1] at this
              exact wpIn_cond_true hv (this hF)
            · rw [h1] at hv
              have:=ih m (.code y) _ H fs1 q Q QQ RR hq hy h2 r (okR_cond hr).2 ρ a w hm hH
              rw [hs _ h1] at this
              exact wpIn_cond_false hv (this hF)
          · exact h.elim
        · rename_i b
          cases b with
          | true=>exact wpIn_cond_true rfl (ih m (.code x) F H fs q Q QQ RR hq hx h r (okR_cond hr).1 ρ a w hm hH hF)
          | false=>exact wpIn_cond_false rfl (ih m (.code y) F H fs q Q QQ RR hq hy h r (okR_cond hr).2 ρ a w hm hH hF)
        · exact h.elim
      | block id c=>
        have key:=ih m (.code c) F H fs (blockD id q) (blockK id Q) QQ RR (fun e F1 H1 fs1 ht=>by
          cases e with
          | normal=>exact hq _ _ _ _ ht
          | ret=>exact hq _ _ _ _ ht
          | exit i=>
            simp only [blockD] at ht
            simp only [blockK]
            cases hb:(i==id) with
            | true=>rw [hb] at ht;exact hq _ _ _ _ ht
            | false=>rw [hb] at ht;exact hq _ _ _ _ ht) (fun b hb=>hlp b hb) h r (okR_block hr) ρ a w hm hH hF
        refine wpIn_block (Code.wpIn_mono ?_ key)
        rintro e a' w' ⟨ae,ρ',F',H',rfl,h2,h3⟩
        cases ae with
        | normal=>exact ⟨.normal,ρ',F',H',rfl,h2,h3⟩
        | ret=>exact ⟨.ret,ρ',F',H',rfl,h2,h3⟩
        | exit i=>
          simp only [blockK] at h2
          show (if i=id then AP C m ρ w Q .normal a' w' else AP C m ρ w Q (.exit i) a' w')
          split at h2
          · rename_i hi
            rw [if_pos (by simpa using hi)]
            exact ⟨.normal,ρ',F',H',rfl,h2,h3⟩
          · rename_i hi
            rw [if_neg (by simpa using hi)]
            exact ⟨.exit i,ρ',F',H',rfl,h2,h3⟩
      | loop c=>
        simp only [stepCodeD] at h
        split at h
        · rename_i hm'
          split at h
          · rename_i o ho
            have hmem:c∈lps:=hlp c (List.mem_cons_self ..)
            exact hK.loops m c F H o (Nat.le_of_ble_eq_true hm') hmem ho fs.n Q (lHolds_mono (fun e F' H' ⟨fs',ht⟩=>hq _ _ _ _ ht) o fs.n (vT_loutT o fs h)) r hr ρ a w hH hF
          · exact h.elim
        · exact h.elim
      | rangeFunc g ps as bd=>
        simp only [stepCodeD] at h
        split at h
        · rename_i hm'
          split at h
          · rename_i o ho
            have hmem:Code.rangeFunc g ps as bd∈lps:=hlp _ (List.mem_cons_self ..)
            exact hK.rngs m _ F H o (Nat.le_of_ble_eq_true hm') hmem ho fs.n Q (lHolds_mono (fun e F' H' ⟨fs',ht⟩=>hq _ _ _ _ ht) o fs.n (vT_loutT o fs h)) r hr ρ a w hH hF
          · exact h.elim
        · exact h.elim
      | exit i=>exact wpIn_exit (here (.exit i) (hq _ _ _ _ h))
      | scope c=>
        refine wpIn_scope_straight (Code.wpIn_mono ?_ (ih m (.code c) F H fs q Q QQ RR hq (fun b hb=>hlp b hb) h r (okR_scope hr) ρ a w hm hH hF))
        rintro e a' w' h
        obtain ⟨ae,ρ',F',H',rfl,h2⟩:=h
        cases ae with
        | normal=>exact ⟨.normal,ρ',F',H',rfl,h2⟩
        | ret=>exact ⟨.ret,ρ',F',H',rfl,h2⟩
        | exit i=>exact ⟨.exit i,ρ',F',H',rfl,h2⟩
      | label i=>exact wpIn_label (here .normal (hq _ _ _ _ h))
      | ret=>exact wpIn_ret (here .ret (hq _ _ _ _ h))
      | _=>exact h.elim
end Go.Am
namespace Go.Am
variable {C:Ctx}
def f0 (n:Nat):Facts:=⟨n,[]⟩
noncomputable def dcall (K:DCfg) (fuel n0:Nat) (fn:Func) (args:List EV) (H:DHp) (keep:Nat):T:=
 dx K fuel H.length (.code (bodyOf fn)) (frameD fn args) H (f0 n0) (retD K.P fn fun v H' _=>.ret v (H'.take keep))
noncomputable def dlaw (K:DCfg) (fuel n0:Nat) (fn:Func) (args:List EV) (H:DHp):T:=
 dx K fuel H.length (.code (bodyOf fn)) (frameD fn args) H (f0 n0) (retD K.P fn fun v _ _=>.ret v [])
def rdD (live:List Nat) (F:DFr):List EV:=live.map fun i=>F.getD i .undef
def flD (N:Nat) (live:List Nat) (vs:List EV):DFr:=(List.range N).map fun i=>(((live.zip vs).find? fun p=>Nat.beq p.1 i).map (·.2)).getD .undef
def finL (N:Nat) (live:List Nat):DK:=fun e F H _=>match Nat.beq F.length N with
 | true=>.leaf e (rdD live F) H
 | false=>.fail
noncomputable def dloop (K:DCfg) (fuel n0 m:Nat) (c:Code) (N:Nat) (live:List Nat) (vs:List EV) (H:DHp):T:=
 dx K fuel m (.code c) (flD N live vs) H (f0 n0) (finL N live)
theorem vVs_fl {G:Nat→List AV} (N:Nat) (live:List Nat) (vs:List EV):vVs G (flD N live vs)=fl N live (vVs G vs):=by
 unfold flD fl fr
 rw [vVs_map,List.map_map]
 refine List.map_congr_left fun i _=>?_
 simp only [Function.comp]
 induction live generalizing vs with
 | nil=>simp [vV]
 | cons x live ih=>
  cases vs with
  | nil=>simp [vV,vVs]
  | cons v vs=>
   simp only [vVs,List.zip_cons_cons,List.find?_cons]
   split
   ·rename_i h
    simp only [Option.map_some,Option.getD_some]
   ·rename_i h
    exact ih vs
theorem vVs_rd {G:Nat→List AV} (live:List Nat) (F:DFr):vVs G (rdD live F)=rdF live (vVs G F):=by
 unfold rdD rdF
 rw [vVs_map,List.map_map]
 refine List.map_congr_left fun i _=>?_
 simp only [Function.comp,vVs_getD]
theorem dcall_ok {K : DCfg} {fuel n0 : Nat} {f : FuncId} {fn : Func} {args : List EV} {H : DHp} {keep : Nat} {R : AV → Hp → Prop} (hK : DGood C K (loopsOf (bodyOf fn))) (hf : C.P.funcs[f]? = some fn) (hb : fn.body = some (bodyOf fn)) (hn : (fn.name == "runtime.NumGoroutine") = false)
  (h:vT C.G (fun _ _ _=>False) R (dcall K fuel n0 fn args H keep)):ACalls C f (vVs C.G args) (vHp C.G H) fun v H'=>R v (H'.take keep):=by
 refine acalls_of hf hb hn fun r hr ρ a w hH hF=>?_
 have:=dx_sound hK fuel H.length (.code (bodyOf fn)) (frameD fn args) H (f0 n0) _ (retK C fn fun v H'=>R v (H'.take keep)) (fun _ _ _=>False) R (fun e F1 H1 fs1 ht=>by
  unfold retD at ht
  split at ht
  ·exact ht.elim
  ·rename_i hne
   obtain ⟨cc,v,q1,q2,q3⟩:=vT_opT ht
   rw [hK.hP] at q1
   have e1:=res_wo rfl _ _ q1 q2
   have e2:vHp C.G (H1.take keep)=(vHp C.G H1).take keep:=by simp only [vHp,List.map_take]
   simp only [vT,e2] at q3
   cases e with
   | exit i=>exact absurd rfl (hne i)
   | normal=>simp only [retK];rw [e1];exact q3
   | ret=>simp only [retK];rw [e1];exact q3) (fun b hb=>hb) h
 simp only [vWk,frame_ok] at this
 have:=this r hr ρ a w (by simp [vHp_length]) hH hF
 rw [←vHp_length (G:=C.G) H] at this
 exact this
theorem dlaw_ok {K : DCfg} {fuel n0 : Nat} {f : FuncId} {fn : Func} {args : List EV} {H : DHp} {R : AV → Hp → Prop} (hK : DGood C K (loopsOf (bodyOf fn))) (hf : C.P.funcs[f]? = some fn) (hb : fn.body = some (bodyOf fn)) (hn : (fn.name == "runtime.NumGoroutine") = false)
  (h:vT C.G (fun _ _ _=>False) R (dlaw K fuel n0 fn args H)):ACalls C f (vVs C.G args) (vHp C.G H) fun v _=>R v []:=by
 refine acalls_of hf hb hn fun r hr ρ a w hH hF=>?_
 have:=dx_sound hK fuel H.length (.code (bodyOf fn)) (frameD fn args) H (f0 n0) _ (retK C fn fun v H'=>R v []) (fun _ _ _=>False) R (fun e F1 H1 fs1 ht=>by
  unfold retD at ht
  split at ht
  ·exact ht.elim
  ·rename_i hne
   obtain ⟨cc,v,q1,q2,q3⟩:=vT_opT ht
   rw [hK.hP] at q1
   have e1:=res_wo rfl _ _ q1 q2
   cases e with
   | exit i=>exact absurd rfl (hne i)
   | normal=>simp only [retK];rw [e1];exact q3
   | ret=>simp only [retK];rw [e1];exact q3) (fun b hb=>hb) h
 simp only [vWk,frame_ok] at this
 have:=this r hr ρ a w (by simp [vHp_length]) hH hF
 rw [←vHp_length (G:=C.G) H] at this
 exact this
theorem dloop_ok {K:DCfg} {fuel n0 m:Nat} {c:Code} {N:Nat} {live:List Nat} {vs:List EV} {H:DHp} {Q:Ex→List AV→Hp→Prop} (hK:DGood C K (loopsOf c)) (hm:m≤H.length)
  (h:vT C.G Q (fun _ _=>False) (dloop K fuel n0 m c N live vs H)):AWp C m c (fl N live (vVs C.G vs)) (vHp C.G H) (lv N live Q):=by
 have:=dx_sound hK fuel m (.code c) (flD N live vs) H (f0 n0) _ (lv N live Q) Q (fun _ _=>False) (fun e F1 H1 fs1 ht=>by
  unfold finL at ht
  split at ht
  ·rename_i hb
   simp only [vT,vVs_rd] at ht
   simp only [lv,vVs_length,hb]
   exact ht
  ·exact ht.elim) (fun b hb=>hb) h
 rw [vVs_fl] at this
 exact fun r hr ρ a w hH hF=>this r hr ρ a w (by simpa [vHp_length] using hm) hH hF
abbrev DSum:=List EV→DHp→Option Outs
def dsums:List (Nat×DSum)→FuncId→List EV→DHp→Option Outs
 | [],_,_,_=>none
 | (g,s)::l,f,args,H=>match Nat.beq g f with
  | true=>s args H
  | false=>dsums l f args H
def DSumOk (C:Ctx) (f:FuncId) (s:DSum):Prop:=∀ args H o,s args H=some o→oAll C.G (DOut C f args H) o
def DSumsOk (C:Ctx) (l:List (Nat×DSum)):Prop:=∀ f args H o,dsums l f args H=some o→oAll C.G (DOut C f args H) o
theorem DSumsOk.nil:DSumsOk C []:=fun f args H o h=>by simp [dsums] at h
theorem DSumsOk.cons {g:Nat} {s:DSum} {l:List (Nat×DSum)} (h:DSumOk C g s) (k:DSumsOk C l):DSumsOk C ((g,s)::l):=by
 intro f args H o ho
 simp only [dsums] at ho
 split at ho
 ·rename_i hg
  have:=Nat.eq_of_beq_eq_true hg
  subst this
  exact h args H o ho
 ·exact k f args H o ho
abbrev DLoop:=List EV→DHp→Option LOut
def lmap (N:Nat) (live:List Nat):LOut→LOut
 | .one e vs H=>.one e (flD N live vs) H
 | .chk b x=>.chk b (lmap N live x)
 | .tst b x y=>.tst b (lmap N live x) (lmap N live y)
 | .imp b x=>.imp b (lmap N live x)
 | .allI k=>.allI fun x=>lmap N live (k x)
 | .allN k=>.allN fun x=>lmap N live (k x)
 | .allB k=>.allB fun x=>lmap N live (k x)
 | .allL k=>.allL fun x=>lmap N live (k x)
 | .namI e k=>.namI e fun x=>lmap N live (k x)
 | .namN e k=>.namN e fun x=>lmap N live (k x)
 | .namB e k=>.namB e fun x=>lmap N live (k x)
 | .namL e k=>.namL e fun x=>lmap N live (k x)
structure DL where
 ex:Nat
 N:Nat
 live:List Nat
 S:DLoop
def dloops:List DL→Code→DFr→DHp→Option LOut
 | [],_,_,_=>none
 | d::l,c,F,H=>match exOf c with
  | some i=>match Nat.beq i d.ex with
   | true=>match Nat.beq F.length d.N with
    | true=>match d.S (rdD d.live F) H with
     | some o=>some (lmap d.N d.live o)
     | none=>none
    | false=>none
   | false=>dloops l c F H
  | none=>none
theorem lHolds_map {G:Nat→List AV} {Q:Ex→DFr→DHp→Prop} {N:Nat} {live:List Nat}:∀ (o:LOut) (n:Nat),lHolds G Q n (lmap N live o)→lHolds G (fun e vs H=>Q e (flD N live vs) H) n o
 | .one e F H,n,h=>h
 | .chk b x,n,h=>⟨h.1,lHolds_map x n h.2⟩
 | .tst b x y,n,h=>⟨fun hb=>lHolds_map x n (h.1 hb),fun hb=>lHolds_map y n (h.2 hb)⟩
 | .imp b x,n,h=>fun hb=>lHolds_map x n (h hb)
 | .allI f,n,h=>fun x=>lHolds_map (f (.var n x)) (n+1) (h x)
 | .allN f,n,h=>fun x=>lHolds_map (f (.var n x)) (n+1) (h x)
 | .allB f,n,h=>fun x=>lHolds_map (f (.var n x)) (n+1) (h x)
 | .allL f,n,h=>fun x=>lHolds_map (f (.var n x)) (n+1) (h x)
 | .namI e f,n,h=>lHolds_map (f (.var n _)) (n+1) h
 | .namN e f,n,h=>lHolds_map (f (.var n _)) (n+1) h
 | .namB e f,n,h=>lHolds_map (f (.var n _)) (n+1) h
 | .namL e f,n,h=>lHolds_map (f (.var n _)) (n+1) h
def Lp (m:Nat) (Q:Ex→List AV→Hp→Prop) (e:Ex) (vs'':List AV) (H'':Hp):Prop:=(∃ vs',wk vs' vs''∧Q e vs' H'')∨∃ vs' H',View m vs' H' vs'' H''∧Q e vs' H'
def DLoopOk (C:Ctx) (M:Nat) (c:Code) (d:DL):Prop:=
 ∀ m vs H o,m≤M→d.S vs H=some o→∀ n (Q:Ex→List AV→Hp→Prop),lHolds C.G (fun e vs' H'=>Q e (vVs C.G vs') (vHp C.G H')) n o→
  AWp C m (.loop c) (fl d.N d.live (vVs C.G vs)) (vHp C.G H) (lv d.N d.live (Lp m Q))
def DLoopsOk (C:Ctx) (M:Nat) (cs:List Code) (ls:Code→DFr→DHp→Option LOut):Prop:=∀ m c F H o,m≤M→c∈cs→ls c F H=some o→∀ n (Q:Post),lHolds C.G (fun e F' H'=>Q e (vVs C.G F') (vHp C.G H')) n o→AWp C m (.loop c) (vVs C.G F) (vHp C.G H) Q
theorem DLoopsOk.nil {M:Nat} {ls:Code→DFr→DHp→Option LOut}:DLoopsOk C M [] ls:=fun m c F H o _ h=>by simp at h
theorem AWp.wkd {m:Nat} {c:Code} {F:Fr} {H:Hp} {N:Nat} {live:List Nat} {Q:Ex→List AV→Hp→Prop} {Q':Post} (h:AWp C m c F H (lv N live (Lp m Q))) (hq:∀ e vs H',Q e vs H'→Q' e (fl N live vs) H'):AWp C m c F H Q':=by
 intro r hr ρ a w hH hF
 refine Code.wpIn_mono ?_ (h r hr ρ a w hH hF)
 rintro e a' w' ⟨ae,ρ',F',H',rfl,h2,h3,h4,h5,h6⟩
 obtain ⟨h7,h8⟩:=chk_true h2
 have hN:F'.length=N:=Nat.eq_of_beq_eq_true h7
 rcases h8 with ⟨vs',h8,h9⟩ | ⟨vs',H1,h8,h9⟩
 ·exact ⟨ae,ρ',_,H',rfl,hq _ _ _ h9,h3,h4,wk_rel h5 hN h8,h6⟩
 ·obtain ⟨ρ2,g1,g2,g3,g4⟩:=h8.live (N:=N) (live:=live) h4 h5.nod (by rw [←h5.len,hN]) (by simp [rdF]) (fun j i v q1 q2=>by
   simp only [rdF,List.getElem?_map,q1,Option.map_some,Option.some.injEq] at q2
   subst q2
   by_cases hi:i<F'.length
   ·exact h5.val i _ (by simp [List.getD,hi])
   ·simp [List.getD,hi,VR])
  exact ⟨ae,ρ2,_,H1,rfl,hq _ _ _ h9,h3.trans g3,g1,g2,h6.trans g4⟩
def dpick (i:Nat):List DL→Option DL
 | []=>none
 | d::l=>match Nat.beq i d.ex with
  | true=>some d
  | false=>dpick i l
theorem dloops_pick {c:Code} {F:DFr} {H:DHp} {o:LOut} {i:Nat} (he:exOf c=some i):∀ (l:List DL),dloops l c F H=some o→∃ d,dpick i l=some d∧F.length=d.N∧∃ o',d.S (rdD d.live F) H=some o'∧o=lmap d.N d.live o'
 | [],h=>by simp [dloops] at h
 | d::l,h=>by
  simp only [dloops,he] at h
  simp only [dpick]
  split at h
  ·rename_i hi
   split at h
   ·rename_i hN
    split at h
    ·rename_i o' ho
     simp at h;subst h
     exact ⟨d,rfl,Nat.eq_of_beq_eq_true hN,o',ho,rfl⟩
    ·simp at h
   ·simp at h
  ·exact dloops_pick he l h
theorem DLoopsOk.cons {M:Nat} {c:Code} {cs:List Code} {l:List DL} {d:DL} {i:Nat} (he:exOf c=some i) (hp:dpick i l=some d) (h:DLoopOk C M c d) (k:DLoopsOk C M cs (dloops l)):DLoopsOk C M (c::cs) (dloops l):=by
 intro m c' F H o hm hc ho n Q hQ
 rcases List.mem_cons.1 hc with rfl | hc
 ·obtain ⟨d',h1,h2,o',h3,rfl⟩:=dloops_pick he l ho
  rw [hp] at h1
  simp at h1;subst h1
  have:=h m _ _ _ hm h3 n (fun e vs H'=>Q e (fl d.N d.live vs) H') (by
   have:=lHolds_map o' n hQ
   refine lHolds_mono (fun e vs H' hq=>?_) o' n this
   rw [vVs_fl] at hq
   exact hq)
  have:=this.wkd (Q':=Q) fun e vs H' h=>h
  intro r hr ρ a w hH hF
  refine this r hr ρ a w hH ?_
  have:=rd_rel (live:=d.live) (N:=d.N) hF (by rw [vVs_length];exact h2)
  rw [vVs_rd]
  exact this
 ·exact k m c' F H o hm hc ho n Q hQ
theorem DLoopsOk.cast {M:Nat} {cs ds:List Code} {ls:Code→DFr→DHp→Option LOut} (h:DLoopsOk C M ds ls) (e:cs=ds):DLoopsOk C M cs ls:=by rw [e];exact h
theorem lone {m m':Nat} {c:Code} {N:Nat} {live:List Nat} {vs:List AV} {H:Hp} {e:Ex} {vs':List EV} {H':DHp} {Q:Ex→List AV→Hp→Prop}
  (h:AWp C m c (fl N live vs) H (lv N live fun e' vs'' H''=>e'=e∧wk (vVs C.G vs') vs''∧H''=vHp C.G H')) (hq:Q e (vVs C.G vs') (vHp C.G H')) :
  AWp C m c (fl N live vs) H (lv N live (Lp m' Q)):=
 h.lmono fun e' vs'' H'' ⟨h1,h2,h3⟩=>.inl ⟨_,h2,by rw [h1,h3];exact hq⟩
theorem View.pin {m m':Nat} (hm:m'≤m) {F F':Fr} {H H':Hp} (h:View m F H F' H'):View m' F H F' H':=by
 obtain ⟨θ,g1,g2,g3,g4⟩:=h.ex
 exact ⟨θ,g1,by omega,fun i hi=>g3 i (by omega),g4⟩
theorem Lp.pin {m m':Nat} (hm:m'≤m) {Q:Ex→List AV→Hp→Prop} {e:Ex} {vs:List AV} {H:Hp} (h:Lp m Q e vs H):Lp m' Q e vs H:=by
 rcases h with h | ⟨vs',H',h1,h2⟩
 ·exact .inl h
 ·exact .inr ⟨vs',H',h1.pin hm,h2⟩
def DCodeOk (C:Ctx) (M:Nat) (c:Code) (d:DL):Prop:=
 ∀ m vs H o,m≤M→d.S vs H=some o→∀ n (Q:Ex→List AV→Hp→Prop),lHolds C.G (fun e vs' H'=>Q e (vVs C.G vs') (vHp C.G H')) n o→
  AWp C m c (fl d.N d.live (vVs C.G vs)) (vHp C.G H) (lv d.N d.live (Lp m Q))
def rnKey:Code→Option Nat
 | .rangeFunc _ ps _ _=>some (ps.toList.headD 0)
 | _=>none
def drngs:List DL→Code→DFr→DHp→Option LOut
 | [],_,_,_=>none
 | d::l,c,F,H=>match rnKey c with
  | some i=>match Nat.beq i d.ex with
   | true=>match Nat.beq F.length d.N with
    | true=>match d.S (rdD d.live F) H with
     | some o=>some (lmap d.N d.live o)
     | none=>none
    | false=>none
   | false=>drngs l c F H
  | none=>none
def DRngsOk (C:Ctx) (M:Nat) (cs:List Code) (ls:Code→DFr→DHp→Option LOut):Prop:=∀ m c F H o,m≤M→c∈cs→ls c F H=some o→∀ n (Q:Post),lHolds C.G (fun e F' H'=>Q e (vVs C.G F') (vHp C.G H')) n o→AWp C m c (vVs C.G F) (vHp C.G H) Q
theorem DRngsOk.none {M:Nat} {cs:List Code}:DRngsOk C M cs (drngs []):=fun m c F H o _ _ h=>by simp [drngs] at h
theorem DRngsOk.nil {M:Nat} {ls:Code→DFr→DHp→Option LOut}:DRngsOk C M [] ls:=fun m c F H o _ h=>by simp at h
theorem drngs_pick {c:Code} {F:DFr} {H:DHp} {o:LOut} {i:Nat} (he:rnKey c=some i):∀ (l:List DL),drngs l c F H=some o→∃ d,dpick i l=some d∧F.length=d.N∧∃ o',d.S (rdD d.live F) H=some o'∧o=lmap d.N d.live o'
 | [],h=>by simp [drngs] at h
 | d::l,h=>by
  simp only [drngs,he] at h
  simp only [dpick]
  split at h
  ·rename_i hi
   split at h
   ·rename_i hN
    split at h
    ·rename_i o' ho
     simp at h;subst h
     exact ⟨d,rfl,Nat.eq_of_beq_eq_true hN,o',ho,rfl⟩
    ·simp at h
   ·simp at h
  ·exact drngs_pick he l h
theorem DRngsOk.cons {M:Nat} {c:Code} {cs:List Code} {l:List DL} {d:DL} {i:Nat} (he:rnKey c=some i) (hp:dpick i l=some d) (h:DCodeOk C M c d) (k:DRngsOk C M cs (drngs l)):DRngsOk C M (c::cs) (drngs l):=by
 intro m c' F H o hm hc ho n Q hQ
 rcases List.mem_cons.1 hc with rfl | hc
 ·obtain ⟨d',h1,h2,o',h3,rfl⟩:=drngs_pick he l ho
  rw [hp] at h1
  simp at h1;subst h1
  have:=h m _ _ _ hm h3 n (fun e vs H'=>Q e (fl d.N d.live vs) H') (by
   have:=lHolds_map o' n hQ
   refine lHolds_mono (fun e vs H' hq=>?_) o' n this
   rw [vVs_fl] at hq
   exact hq)
  have:=this.wkd (Q':=Q) fun e vs H' h=>h
  intro r hr ρ a w hH hF
  refine this r hr ρ a w hH ?_
  have:=rd_rel (live:=d.live) (N:=d.N) hF (by rw [vVs_length];exact h2)
  rw [vVs_rd]
  exact this
 ·exact k m c' F H o hm hc ho n Q hQ
theorem DLoopsOk.skip {M:Nat} {c:Code} {cs:List Code} {l:List DL} (he:exOf c=Option.none) (k:DLoopsOk C M cs (dloops l)):DLoopsOk C M (c::cs) (dloops l):=by
 intro m c' F H o hm hc ho n Q hQ
 rcases List.mem_cons.1 hc with rfl | hc
 ·cases l<;>simp [dloops,he] at ho
 ·exact k m c' F H o hm hc ho n Q hQ
def Dc (P:Program) (inl:List Nat) (sums:List (Nat×DSum)) (ls:List DL) (M:Nat):DCfg:={ P:=P,inl:=has inl,sum:=dsums sums,loop:=dloops ls,M:=M }
theorem dgood {P:Program} {G:Nat→List AV} {B:Nat} {inl:List Nat} {sums:List (Nat×DSum)} {ls:List DL} {M:Nat} {cs:List Code} (hm:P.follows .mixedOrders=true) (hp:plainFs P inl=true) (hs:DSumsOk ⟨P,G,B⟩ sums) (hl:DLoopsOk ⟨P,G,B⟩ M cs (dloops ls)) :
  DGood ⟨P,G,B⟩ (Dc P inl sums ls M) cs:=
 ⟨rfl,hm,hs,hl,plain_inl hp,fun m c F H o _ _ h=>by simp [Dc] at h,fun i args H o h=>by simp [Dc] at h⟩
abbrev Df (P:Program) (fam:List (TypeId×Nat×Nat)) (inl:List Nat) (sums:List (Nat×DSum)) (ls:List DL) (M:Nat):DCfg:={ Dc P inl sums ls M with fam:=fun t=>(fam.find? fun x=>Nat.beq x.1 t).map (·.2) }
theorem dgoodf {P:Program} {fam:List (TypeId×Nat×Nat)} {G:Nat→List AV} {B:Nat} {inl:List Nat} {sums:List (Nat×DSum)} {ls:List DL} {M:Nat} {cs:List Code} (hm:P.follows .mixedOrders=true) (hp:plainFs P inl=true) (hs:DSumsOk ⟨P,G,B⟩ sums) (hl:DLoopsOk ⟨P,G,B⟩ M cs (dloops ls)) :
  DGood ⟨P,G,B⟩ (Df P fam inl sums ls M) cs:=
 ⟨rfl,hm,hs,hl,plain_inl hp,fun m c F H o _ _ h=>by simp [Df,Dc] at h,fun i args H o h=>by simp [Df,Dc] at h⟩
abbrev DYsum:=Nat→List EV→DHp→Option Outs
def DYsumOk (C:Ctx) (y:DYsum):Prop:=∀ i args H o,y i args H=some o→oAll C.G (DYld C i args H) o
def noY:DYsum:=fun _ _ _=>none
theorem noY_ok:DYsumOk C noY:=fun i args H o h=>by simp [noY] at h
def Dr (P:Program) (inl:List Nat) (sums:List (Nat×DSum)) (ls rs:List DL) (y:DYsum) (M:Nat):DCfg:={ P:=P,inl:=has inl,sum:=dsums sums,loop:=dloops ls,M:=M,rng:=drngs rs,ysum:=y }
theorem dgoodr {P:Program} {G:Nat→List AV} {B:Nat} {inl:List Nat} {sums:List (Nat×DSum)} {ls rs:List DL} {y:DYsum} {M:Nat} {cs:List Code} (hm:P.follows .mixedOrders=true) (hp:plainFs P inl=true) (hs:DSumsOk ⟨P,G,B⟩ sums) (hl:DLoopsOk ⟨P,G,B⟩ M cs (dloops ls)) (hr:DRngsOk ⟨P,G,B⟩ M cs (drngs rs)) (hy:DYsumOk ⟨P,G,B⟩ y) :
  DGood ⟨P,G,B⟩ (Dr P inl sums ls rs y M) cs:=
 ⟨rfl,hm,hs,hl,plain_inl hp,hr,hy⟩
end Go.Am
