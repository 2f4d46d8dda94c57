/-
  Written terms: what the abstract machine over them says of values, and The machine over written terms: a piece of code becomes a tree.
-/
import Derived.Test.YthejjolnlngahaaBase3
namespace Go.Am
mutual
/-- whole numbers -/
inductive EI
 | lit (n:Int)
 | var (j:Nat) (x:Int)
 | bin (o:BinOp) (k:IntKind) (a b:EI)
 | conv (k:IntKind) (a:EI)
 | neg (k:IntKind) (a:EI)
 | cpl (k:IntKind) (a:EI)
 | ofN (n:EN)
 | mx (a b:EI)
 | mn (a b:EI)
 | get (l:EL) (o:EN)
 | uf (j:Nat) (f:List AV→Int) (as:List EV)
/-- counts -/
inductive EN
 | lit (n:Nat)
 | var (j:Nat) (x:Nat)
 | toN (a:EI)
 | add (a b:EN)
 | mul (a:EN) (z:Nat)
 | sub (a b:EN)
 | len (l:EL)
 | slen (s:ES)
 | rk (l:EL) (o:EN)
 | ro (l:EL) (o:EN)
 | rn (l:EL) (o:EN)
 | fk (b:Nat) (l:EL) (o:EN)
 | fo (l:EL) (o:EN)
 | fn (l:EL) (o:EN)
 | uf (j:Nat) (f:List AV→Nat) (as:List EV)
/-- truth values -/
inductive EB
 | lit (b:Bool)
 | var (j:Nat) (x:Bool)
 | cmp (o:BinOp) (a b:EI)
 | not (b:EB)
 | and (a b:EB)
 | eqB (a b:EB)
 | eqS (a b:ES)
 | isI (k:IntKind) (l:EL) (o:EN)
 | isB (l:EL) (o:EN)
 | isT (l:EL) (o:EN)
 | isR (l:EL) (o:EN)
 | get (l:EL) (o:EN)
 | leN (a b:EN)
 | eqN (a b:EN)
 | leaf (l:EL) (o:EN) (ls:List Lf)
 | u8s (l:EL)
 | cells (l:EL)
 | isF (b c:Nat) (l:EL) (o:EN)
 | isP (b c:Nat) (l:EL) (o:EN)
 | isNil (l:EL) (o:EN)
 | rows (l:EL) (ls:List EV)
 | uf (j:Nat) (f:List AV→Bool) (as:List EV)
/-- texts -/
inductive ES
 | lit (s:List UInt8)
 | var (j:Nat) (x:List UInt8)
 | app (a b:ES)
 | sub (s:ES) (lo hi:EN)
 | get (l:EL) (o:EN)
 | ofL (l:EL)
 | uf (j:Nat) (f:List AV→List UInt8) (as:List EV)
/-- cells -/
inductive EL
 | of (cs:List EV)
 | var (j:Nat) (x:List AV)
 | ro (n:EN)
 | set (l:EL) (o:EN) (v:EV)
 | app (a b:EL)
 | sub (l:EL) (o n:EN)
 | bytes (s:ES)
 | rep (n:EN) (l:EL)
 | row (l:EL) (k:EN)
 | put (l:EL) (k:EN) (v:EL)
 | uf (j:Nat) (f:List AV→List AV) (as:List EV)
/-- values -/
inductive EV
 | undef
 | bool (b:EB)
 | int (k:IntKind) (n:EI)
 | str (s:ES)
 | nilp
 | ptr (r:ER) (o:EN)
 | nils
 | slice (mb:Bool) (r:ER) (o n:EN)
 | nilf
 | func (f:FuncId) (cap:List EV)
 | agg (l:EL)
 | tup (vs:List EV)
 | yld (i:Nat)
/-- places -/
inductive ER
 | rw (i:Nat)
 | ro (n:EN)
 | fm (b c:Nat) (k:EN)
end
def Zy (o:BinOp) (k:IntKind) (x y:Int):Int:=
 match o with
 | .add=>k.wrap (x+y)
 | .sub=>k.wrap (x - y)
 | .mul=>k.wrap (x*y)
 | .quo=>k.wrap (x.tdiv y)
 | .rem=>x.tmod y
 | .and=>P0 k x y
 | .or=>Gp k x y
 | .xor=>Sa k x y
 | .andNot=>fC k x y
 | .shl=>Be k x y
 | .shr=>O0 k x y
 | _=>0
def Sp (o:BinOp) (x y:Int):Bool:=
 match o with
 | .eql=>x==y
 | .neq=>x != y
 | .lss=>decide (x<y)
 | .leq=>decide (x≤y)
 | .gtr=>decide (x>y)
 | .geq=>decide (x≥y)
 | _=>false
def leB (x y:Nat):Bool:=decide (x≤y)
def u8s (cs:List AV):Bool:=cs.all Fc
def cellsB (cs:List AV):Bool:=cs.all isCell
def O8 (cs:List AV):List UInt8:=cs.map Tp
def B3 (s:List UInt8):List AV:=s.map fun b=>.int .u8 b.toNat
def A9 (cs:List AV) (o n:Nat):List AV:=(cs.drop o).take n
def repL (n:Nat) (cs:List AV):List AV:=(List.replicate n cs).flatten
def A4 (L:List AV) (k:Nat):List AV:=match L[k]? with | some (.agg cs)=>cs | _=>[]
def Dx (L:List AV) (k:Nat) (cs:List AV):List AV:=L.set k (.agg cs)
def Tg (b:Nat) (cs:List AV) (o:Nat):Nat:=match cs[o]? with | some (.slice _ (.rw i) _ _)=>i - b | some (.ptr (.rw i) _)=>i - b | _=>0
def Ye (cs:List AV) (o:Nat):Nat:=match cs[o]? with | some (.slice _ (.rw _) f _)=>f | some (.ptr (.rw _) f)=>f | _=>0
def Tf (cs:List AV) (o:Nat):Nat:=match cs[o]? with | some (.slice _ (.rw _) _ n)=>n | _=>0
def Zg (b c:Nat) (cs:List AV) (o:Nat):Bool:=match cs[o]? with | some (.slice true (.rw i) _ _)=>Nat.ble b i&&Nat.blt i (b+c) | _=>false
def isPA (b c:Nat) (cs:List AV) (o:Nat):Bool:=match cs[o]? with | some (.ptr (.rw i) _)=>Nat.ble b i&&Nat.blt i (b+c) | _=>false
def nK (cs:List AV) (o:Nat):Bool:=match cs[o]? with | some .nilp=>true | _=>false
open Classical in
noncomputable def Nj (l:List AV) (ls:List AV):Bool:=decide (∀ v∈ls,v=.agg l)
section
variable (G:Nat→List AV)
mutual
noncomputable def vI:EI→Int
 | .lit n=>n
 | .var _ x=>x
 | .bin o k a b=>Zy o k (vI a) (vI b)
 | .conv k a=>k.wrap (vI a)
 | .neg k a=>k.wrap (0 - vI a)
 | .cpl k a=>Ze k (vI a)
 | .ofN n=>(vN n:Int)
 | .mx a b=>if vI b>vI a then vI b else vI a
 | .mn a b=>if vI b<vI a then vI b else vI a
 | .get l o=>A1 (vL l) (vN o)
 | .uf _ f as=>f (vVs as)
termination_by structural x=>x
noncomputable def vN:EN→Nat
 | .lit n=>n
 | .var _ x=>x
 | .toN a=>(vI a).toNat
 | .add a b=>vN a+vN b
 | .mul a z=>vN a*z
 | .sub a b=>vN a - vN b
 | .len l=>(vL l).length
 | .slen s=>(vS s).length
 | .rk l o=>C8 (vL l) (vN o)
 | .ro l o=>E9 (vL l) (vN o)
 | .rn l o=>C7 (vL l) (vN o)
 | .fk b l o=>Tg b (vL l) (vN o)
 | .fo l o=>Ye (vL l) (vN o)
 | .fn l o=>Tf (vL l) (vN o)
 | .uf _ f as=>f (vVs as)
termination_by structural x=>x
noncomputable def vB:EB→Bool
 | .lit b=>b
 | .var _ x=>x
 | .cmp o a b=>Sp o (vI a) (vI b)
 | .not b=>!(vB b)
 | .and a b=>vB a&&vB b
 | .eqB a b=>vB a==vB b
 | .eqS a b=>vS a==vS b
 | .isI k l o=>isI k (vL l) (vN o)
 | .isB l o=>isB (vL l) (vN o)
 | .isT l o=>kH (vL l) (vN o)
 | .isR l o=>Fd (vL l) (vN o)
 | .get l o=>E1 (vL l) (vN o)
 | .leN a b=>leB (vN a) (vN b)
 | .eqN a b=>Nat.beq (vN a) (vN b)
 | .leaf l o ls=>E5 (vL l) (vN o) ls
 | .u8s l=>u8s (vL l)
 | .cells l=>cellsB (vL l)
 | .isF b c l o=>Zg b c (vL l) (vN o)
 | .isP b c l o=>isPA b c (vL l) (vN o)
 | .isNil l o=>nK (vL l) (vN o)
 | .rows l ls=>Nj (vL l) (vVs ls)
 | .uf _ f as=>f (vVs as)
termination_by structural x=>x
noncomputable def vS:ES→List UInt8
 | .lit s=>s
 | .var _ x=>x
 | .app a b=>vS a++vS b
 | .sub s lo hi=>((vS s).take (vN hi)).drop (vN lo)
 | .get l o=>bS (vL l) (vN o)
 | .ofL l=>O8 (vL l)
 | .uf _ f as=>f (vVs as)
termination_by structural x=>x
noncomputable def vL:EL→List AV
 | .of cs=>vVs cs
 | .var _ x=>x
 | .ro n=>G (vN n)
 | .set l o v=>E2 (vL l) (vN o) (vV v)
 | .app a b=>vL a++vL b
 | .sub l o n=>A9 (vL l) (vN o) (vN n)
 | .bytes s=>B3 (vS s)
 | .rep n l=>repL (vN n) (vL l)
 | .row l k=>A4 (vL l) (vN k)
 | .put l k v=>Dx (vL l) (vN k) (vL v)
 | .uf _ f as=>f (vVs as)
termination_by structural x=>x
noncomputable def vV:EV→AV
 | .undef=>.undef
 | .bool b=>.bool (vB b)
 | .int k n=>.int k (vI n)
 | .str s=>.str (vS s)
 | .nilp=>.nilp
 | .ptr r o=>.ptr (vR r) (vN o)
 | .nils=>.nils
 | .slice mb r o n=>.slice mb (vR r) (vN o) (vN n)
 | .nilf=>.nilf
 | .func f cap=>.func f (vVs cap)
 | .agg l=>.agg (vL l)
 | .tup vs=>.tup (vVs vs)
 | .yld i=>.yld i
termination_by structural x=>x
noncomputable def vVs:List EV→List AV
 | []=>[]
 | x::l=>vV x::vVs l
termination_by structural x=>x
noncomputable def vR:ER→Ref
 | .rw i=>.rw i
 | .ro n=>.ro (vN n)
 | .fm b _ k=>.rw (b+vN k)
termination_by structural x=>x
end
end
mutual
def He:EI→EI→Bool
 | .lit a,.lit b=>a==b
 | .var j _,.var i _=>Nat.beq j i
 | .bin o k a b,.bin o' k' a' b'=>o==o'&&(k==k'&&(He a a'&&He b b'))
 | .conv k a,.conv k' a'=>k==k'&&He a a'
 | .neg k a,.neg k' a'=>k==k'&&He a a'
 | .cpl k a,.cpl k' a'=>k==k'&&He a a'
 | .ofN a,.ofN b=>eqN a b
 | .mx a b,.mx a' b'=>He a a'&&He b b'
 | .mn a b,.mn a' b'=>He a a'&&He b b'
 | .get l o,.get l' o'=>eqN o o'&&X0 l l'
 | .uf j _ a,.uf j' _ a'=>Nat.beq j j'&&Ou a a'
 | _,_=>false
termination_by structural x=>x
def eqN:EN→EN→Bool
 | .lit a,.lit b=>Nat.beq a b
 | .var j _,.var i _=>Nat.beq j i
 | .toN a,.toN b=>He a b
 | .add a b,.add a' b'=>eqN a a'&&eqN b b'
 | .mul a z,.mul a' z'=>Nat.beq z z'&&eqN a a'
 | .sub a b,.sub a' b'=>eqN a a'&&eqN b b'
 | .len a,.len b=>X0 a b
 | .slen a,.slen b=>eqS a b
 | .rk l o,.rk l' o'=>eqN o o'&&X0 l l'
 | .ro l o,.ro l' o'=>eqN o o'&&X0 l l'
 | .rn l o,.rn l' o'=>eqN o o'&&X0 l l'
 | .fk b l o,.fk b' l' o'=>Nat.beq b b'&&(eqN o o'&&X0 l l')
 | .fo l o,.fo l' o'=>eqN o o'&&X0 l l'
 | .fn l o,.fn l' o'=>eqN o o'&&X0 l l'
 | .uf j _ a,.uf j' _ a'=>Nat.beq j j'&&Ou a a'
 | _,_=>false
termination_by structural x=>x
def eqB:EB→EB→Bool
 | .lit a,.lit b=>a==b
 | .var j _,.var i _=>Nat.beq j i
 | .cmp o a b,.cmp o' a' b'=>o==o'&&(He a a'&&He b b')
 | .not a,.not b=>eqB a b
 | .and a b,.and a' b'=>eqB a a'&&eqB b b'
 | .eqB a b,.eqB a' b'=>eqB a a'&&eqB b b'
 | .eqS a b,.eqS a' b'=>eqS a a'&&eqS b b'
 | .isI k l o,.isI k' l' o'=>k==k'&&(eqN o o'&&X0 l l')
 | .isB l o,.isB l' o'=>eqN o o'&&X0 l l'
 | .isT l o,.isT l' o'=>eqN o o'&&X0 l l'
 | .isR l o,.isR l' o'=>eqN o o'&&X0 l l'
 | .get l o,.get l' o'=>eqN o o'&&X0 l l'
 | .leN a b,.leN a' b'=>eqN a a'&&eqN b b'
 | .eqN a b,.eqN a' b'=>eqN a a'&&eqN b b'
 | .leaf l o _,.leaf l' o' _=>eqN o o'&&X0 l l'
 | .u8s l,.u8s l'=>X0 l l'
 | .cells l,.cells l'=>X0 l l'
 | .isF b _ l o,.isF b' _ l' o'=>Nat.beq b b'&&(eqN o o'&&X0 l l')
 | .isP b _ l o,.isP b' _ l' o'=>Nat.beq b b'&&(eqN o o'&&X0 l l')
 | .isNil l o,.isNil l' o'=>eqN o o'&&X0 l l'
 | .rows l ls,.rows l' ls'=>X0 l l'&&Ou ls ls'
 | .uf j _ a,.uf j' _ a'=>Nat.beq j j'&&Ou a a'
 | _,_=>false
termination_by structural x=>x
def eqS:ES→ES→Bool
 | .lit a,.lit b=>a==b
 | .var j _,.var i _=>Nat.beq j i
 | .app a b,.app a' b'=>eqS a a'&&eqS b b'
 | .sub s l h,.sub s' l' h'=>eqS s s'&&(eqN l l'&&eqN h h')
 | .get l o,.get l' o'=>eqN o o'&&X0 l l'
 | .ofL l,.ofL l'=>X0 l l'
 | .uf j _ a,.uf j' _ a'=>Nat.beq j j'&&Ou a a'
 | _,_=>false
termination_by structural x=>x
def X0:EL→EL→Bool
 | .of a,.of b=>Ou a b
 | .var j _,.var i _=>Nat.beq j i
 | .ro a,.ro b=>eqN a b
 | .set l o v,.set l' o' v'=>eqN o o'&&(eqV' v v'&&X0 l l')
 | .app a b,.app a' b'=>X0 a a'&&X0 b b'
 | .sub l a b,.sub l' a' b'=>X0 l l'&&(eqN a a'&&eqN b b')
 | .bytes a,.bytes b=>eqS a b
 | .rep n l,.rep n' l'=>eqN n n'&&X0 l l'
 | .row l k,.row l' k'=>eqN k k'&&X0 l l'
 | .put l k v,.put l' k' v'=>eqN k k'&&(X0 v v'&&X0 l l')
 | .uf j _ a,.uf j' _ a'=>Nat.beq j j'&&Ou a a'
 | _,_=>false
termination_by structural x=>x
def eqV':EV→EV→Bool
 | .undef,.undef=>true
 | .bool a,.bool b=>eqB a b
 | .int k a,.int k' b=>k==k'&&He a b
 | .str a,.str b=>eqS a b
 | .nilp,.nilp=>true
 | .ptr r o,.ptr r' o'=>eqR r r'&&eqN o o'
 | .nils,.nils=>true
 | .slice _ r o n,.slice _ r' o' n'=>eqR r r'&&(eqN o o'&&eqN n n')
 | .nilf,.nilf=>true
 | .func f c,.func f' c'=>Nat.beq f f'&&Ou c c'
 | .agg a,.agg b=>X0 a b
 | .tup a,.tup b=>Ou a b
 | .yld i,.yld j=>Nat.beq i j
 | _,_=>false
termination_by structural x=>x
def Ou:List EV→List EV→Bool
 | [],[]=>true
 | x::l,y::m=>eqV' x y&&Ou l m
 | _,_=>false
termination_by structural x=>x
def eqR:ER→ER→Bool
 | .rw i,.rw j=>Nat.beq i j
 | .ro a,.ro b=>eqN a b
 | .fm b _ k,.fm b' _ k'=>Nat.beq b b'&&eqN k k'
 | _,_=>false
termination_by structural x=>x
end
def E6 (a b:EB):EB:=
 match a with
 | .lit true=>b
 | .lit false=>.lit false
 | a=>match b with
  | .lit true=>a
  | .lit false=>.lit false
  | b=>.and a b
def Ep:EB→EB
 | .lit b=>.lit (!b)
 | .not b=>b
 | b=>.not b
def kF (a b:EB):EB:=
 match a,b with
 | .lit true,b=>b
 | .lit false,b=>Ep b
 | a,.lit true=>a
 | a,.lit false=>Ep a
 | a,b=>.eqB a b
def H8 (o:BinOp) (a b:EI):EB:=
 match a,b with
 | .lit x,.lit y=>.lit (Sp o x y)
 | a,b=>.cmp o a b
def Dn (o:BinOp) (k:IntKind) (a b:EI):EI:=
 match a,b with
 | .lit x,.lit y=>.lit (Zy o k x y)
 | a,b=>.bin o k a b
def mX (k:IntKind):EI→EI
 | .lit x=>.lit (k.wrap x)
 | a=>.conv k a
def uU (k:IntKind):EI→EI
 | .lit x=>.lit (k.wrap (0 - x))
 | a=>.neg k a
def uV (k:IntKind):EI→EI
 | .lit x=>.lit (Ze k x)
 | a=>.cpl k a
def Dm:EN→EI
 | .lit n=>.lit n
 | n=>.ofN n
def Bb:EI→EN
 | .lit n=>.lit n.toNat
 | .ofN n=>n
 | a=>.toN a
def O7 (a b:EN):EN:=
 match a,b with
 | .lit x,.lit y=>.lit (x+y)
 | a,.lit 0=>a
 | .lit 0,b=>b
 | .add a (.lit x),.lit y=>.add a (.lit (x+y))
 | a,b=>.add a b
def T5 (a:EN) (z:Nat):EN:=
 match z with
 | 1=>a
 | z=>match a with
  | .lit x=>.lit (x*z)
  | a=>.mul a z
def uT (a b:EN):EN:=
 match a,b with
 | .lit x,.lit y=>.lit (x - y)
 | a,.lit 0=>a
 | a,b=>.sub a b
def V0 (a b:EN):EB:=
 match a,b with
 | .lit x,.lit y=>.lit (Nat.ble x y)
 | .lit 0,_=>.lit true
 | a,b=>.leN a b
def kE (a b:EN):EB:=
 match a,b with
 | .lit x,.lit y=>.lit (Nat.beq x y)
 | a,b=>.eqN a b
def bE (a b:ES):EB:=
 match a,b with
 | .lit x,.lit y=>.lit (x==y)
 | a,b=>.eqS a b
def uW (a b:ES):ES:=
 match a,b with
 | .lit x,.lit y=>.lit (x++y)
 | .lit [],b=>b
 | a,.lit []=>a
 | a,b=>.app a b
def Bc:EL→EN
 | .of cs=>.lit cs.length
 | .bytes s=>.slen s
 | .sub l o n=>.len (.sub l o n)
 | l=>.len l
def nN:EV→Bool
 | .agg _=>true
 | _=>false
def Rv (l:EL) (o:EN) (v:EV):EL:=
 match l,o with
 | .of cs,.lit n=>match v with
  | .agg (.of ds)=>.of (cs.take n++(ds++cs.drop (n+ds.length)))
  | .agg d=>.set (.of cs) (.lit n) (.agg d)
  | v=>.of (cs.set n v)
 | l,o=>.set l o v
def Gl (l:EL) (o n:EN):EL:=
 match l,o,n with
 | .of cs,.lit a,.lit b=>.of ((cs.drop a).take b)
 | l,o,n=>.sub l o n
def bG (a b:EL):EL:=
 match a,b with
 | .of cs,.of ds=>.of (cs++ds)
 | .of [],b=>b
 | a,.of []=>a
 | a,b=>.app a b
def Wz:ES→EL
 | .lit s=>.of (s.map fun b=>.int .u8 (.lit b.toNat))
 | s=>.bytes s
def bD (n:EN) (l:EL):EL:=
 match n,l with
 | .lit k,.of cs=>.of ((List.replicate k cs).flatten)
 | n,l=>.rep n l
def Zc:EN→Option Nat
 | .lit n=>some n
 | _=>none
def Ay:EL→Nat→Option (EB×EV)
 | .of cs,n=>match cs[n]? with
  | some v=>some (.lit true,v)
  | none=>none
 | .set l o v,n=>match Zc o,nN v with
  | some m,false=>match Nat.beq m n with
   | true=>some (V0 (.lit (n+1)) (Bc l),v)
   | false=>Ay l n
  | _,_=>none
 | _,_=>none
def rdI (k:IntKind) (l:EL) (o:EN):Option (EB×EI):=
 match Zc o with
 | some n=>match Ay l n with
  | some (c,.int k' e)=>if k=k' then some (c,e) else none
  | some _=>none
  | none=>some (.isI k l o,.get l o)
 | none=>some (.isI k l o,.get l o)
def rdB (l:EL) (o:EN):Option (EB×EB):=
 match Zc o with
 | some n=>match Ay l n with
  | some (c,.bool e)=>some (c,e)
  | some _=>none
  | none=>some (.isB l o,.get l o)
 | none=>some (.isB l o,.get l o)
structure Nd where
 esz:Nat
 cells:EL
abbrev DHp:=List (Option Nd)
abbrev DFr:=List EV
noncomputable def Sf (F:DFr) (n:Nat):EV:=
 List.rec (motive:=fun _=>Nat→EV) (fun _=>.undef) (fun x _ ih n=>Nat.rec (motive:=fun _=>EV) x (fun m _=>ih m) n) F n
noncomputable def tX (F:DFr) (n:Nat) (v:EV):DFr:=
 List.rec (motive:=fun _=>Nat→DFr) (fun _=>[]) (fun x xs ih n=>Nat.rec (motive:=fun _=>DFr) (v::xs) (fun m _=>x::ih m) n) F n
theorem Ff:∀ (F:DFr) (n:Nat),Sf F n=F.getD n .undef
 | [],n=>rfl
 | x::F,0=>rfl
 | x::F,n+1=>by
  have:=Ff F n
  show Sf F n=_;rw [this];rfl
theorem Rg:∀ (F:DFr) (n:Nat) (v:EV),tX F n v=F.set n v
 | [],n,v=>rfl
 | x::F,0,v=>rfl
 | x::F,n+1,v=>by
  have:=Rg F n v
  show x::tX F n v=_;rw [this];rfl
structure Facts where
 n:Nat
 l:List (EB×Bool)
inductive T
 | fail
 | chk (b:EB) (t:T)
 | tst (b:EB) (x y:T)
 | imp (b:EB) (t:T)
 | allI (j:Nat) (k:Int→T)
 | allN (j:Nat) (k:Nat→T)
 | allB (j:Nat) (k:Bool→T)
 | allL (j:Nat) (k:List AV→T)
 | namI (j:Nat) (e:EI) (k:Int→T)
 | namN (j:Nat) (e:EN) (k:Nat→T)
 | namB (j:Nat) (e:EB) (k:Bool→T)
 | namL (j:Nat) (e:EL) (k:List AV→T)
 | leaf (e:Ex) (F:List EV) (H:DHp)
 | ret (v:EV) (H:DHp)
inductive DHop
 | set (i:Nat) (b:Nd)
 | new (b:Nd)
 | app (j:Nat) (b:Nd)
def DHop.act (H:DHp):DHop→DHp
 | .set i b=>H.set i (some b)
 | .new b=>H++[some b]
 | .app j b=>H.set j none++[some b]
def Gu (H:DHp):List DHop→DHp
 | []=>H
 | h::hs=>Gu (h.act H) hs
inductive Outs
 | one (v:EV) (hs:List DHop)
 | chk (b:EB) (x:Outs)
 | tst (b:EB) (x y:Outs)
 | namI (e:EI) (k:EI→Outs)
 | namN (e:EN) (k:EN→Outs)
 | namB (e:EB) (k:EB→Outs)
 | namL (e:EL) (k:EL→Outs)
inductive LOut
 | one (e:Ex) (F:DFr) (H:DHp)
 | chk (b:EB) (x:LOut)
 | tst (b:EB) (x y:LOut)
 | imp (b:EB) (x:LOut)
 | allI (k:EI→LOut)
 | allN (k:EN→LOut)
 | allB (k:EB→LOut)
 | allL (k:EL→LOut)
 | namI (e:EI) (k:EI→LOut)
 | namN (e:EN) (k:EN→LOut)
 | namB (e:EB) (k:EB→LOut)
 | namL (e:EL) (k:EL→LOut)
def nf:EB→EB×Bool
 | .not b=>match nf b with | (b,s)=>(b,!s)
 | .cmp .neq a b=>(.cmp .eql a b,false)
 | .cmp .geq a b=>(.cmp .lss a b,false)
 | .cmp .gtr a b=>(.cmp .lss b a,true)
 | .cmp .leq a b=>(.cmp .lss b a,false)
 | b=>(b,true)
def look (b:EB):List (EB×Bool)→Option Bool
 | []=>none
 | (c,v)::fs=>match eqB b c with
  | true=>some v
  | false=>look b fs
def maxO:Option Int→Int→Option Int
 | none,b=>some b
 | some a,b=>some (if a<b then b else a)
def minO:Option Int→Int→Option Int
 | none,b=>some b
 | some a,b=>some (if b<a then b else a)
def aR (a:EI):List (EB×Bool)→Option Int×Option Int
 | []=>match a with
  | .ofN _=>(some 0,none)
  | _=>(none,none)
 | (.cmp .eql b (.lit m),true)::fs=>match He a b with
  | true=>(some m,some m)
  | false=>aR a fs
 | (.cmp .lss b (.lit m),v)::fs=>match He a b,v,aR a fs with
  | true,true,(lo,hi)=>(lo,minO hi (m - 1))
  | true,false,(lo,hi)=>(maxO lo m,hi)
  | _,_,r=>r
 | (.cmp .lss (.lit m) b,v)::fs=>match He a b,v,aR a fs with
  | true,true,(lo,hi)=>(maxO lo (m+1),hi)
  | true,false,(lo,hi)=>(lo,minO hi m)
  | _,_,r=>r
 | _::fs=>aR a fs
def decR (o:BinOp) (r:Option Int×Option Int) (s:Option Int×Option Int):Option Bool:=
 match o with
 | .lss=>match r,s with
  | (lo,hi),(lo',hi')=>match hi,lo' with
   | some a,some b=>match decide (a<b),lo,hi' with
    | true,_,_=>some true
    | false,some c,some d=>if d≤c then some false else none
    | false,_,_=>none
   | _,_=>match lo,hi' with
    | some c,some d=>if d≤c then some false else none
    | _,_=>none
 | .eql=>match r,s with
  | (lo,hi),(lo',hi')=>match (match hi,lo' with | some a,some b=>decide (a<b) | _,_=>false)||(match hi',lo with | some a,some b=>decide (a<b) | _,_=>false) with
   | true=>some false
   | false=>match lo,hi,lo',hi' with
    | some a,some b,some c,some d=>if a=b∧c=d∧a=c then some true else none
    | _,_,_,_=>none
 | _=>none
def Wj (fs:List (EB×Bool)):EI→Option Int×Option Int
 | .lit n=>(some n,some n)
 | a=>aR a fs
def decN (fs:List (EB×Bool)) (b:EB):Option Bool:=
 match look b fs with
 | some v=>some v
 | none=>match b with
  | .cmp .eql x y=>match He x y with
   | true=>some true
   | false=>decR .eql (Wj fs x) (Wj fs y)
  | .cmp .lss x y=>match He x y with
   | true=>some false
   | false=>decR .lss (Wj fs x) (Wj fs y)
  | .eqS x y=>match eqS x y with
   | true=>some true
   | false=>none
  | .leN x y=>match eqN x y with
   | true=>some true
   | false=>none
  | .eqN x y=>match eqN x y with
   | true=>some true
   | false=>none
  | _=>none
def dec (fs:Facts) (b:EB):Option Bool:=
 match nf b with
 | (b,s)=>match decN fs.l b with
  | some v=>some (v==s)
  | none=>none
def In (fs:Facts) (b:EB) (v:Bool):Facts:=
 match nf b with
 | (b,s)=>⟨fs.n,(b,v==s)::fs.l⟩
def fresh (fs:Facts):Facts:=⟨fs.n+1,fs.l⟩
def Bv (b:EB) (t:T):T:=
 match b with
 | .lit true=>t
 | .lit false=>.fail
 | .and a b=>Bv a (Bv b t)
 | b=>.chk b t
def Ad (fs:Facts) (b:EB) (x y:Facts→T):T:=
 match b with
 | .lit true=>x fs
 | .lit false=>y fs
 | .not b=>Ad fs b y x
 | .and a b=>Ad fs a (fun fs=>Ad fs b x y) y
 | .eqB a b=>Ad fs a (fun fs=>Ad fs b x y) (fun fs=>Ad fs b y x)
 | b=>match dec fs b with
  | some true=>.chk b (x fs)
  | some false=>.chk (.not b) (y fs)
  | none=>.tst b (x (In fs b true)) (y (In fs b false))
def aX (o:Option (EB×EV)) (k:EV→T):T:=match o with | some (c,v)=>Bv c (k v) | none=>.fail
def kK:Value→EV
 | .bool b=>.bool (.lit b)
 | .int k n=>.int k (.lit n)
 | .string s=>.str (.lit s.data.toList)
 | .pointer none=>.nilp
 | .slice none 0 0=>.nils
 | .nilFunc=>.nilf
 | _=>.undef
def vO:Value→EV
 | .agg cs=>.agg (.of (cs.toList.map kK))
 | v=>kK v
noncomputable def evD (F:DFr):Operand→EV
 | .tmp t=>Sf F t
 | .const v=>vO v
 | .global _=>.undef
 | .func f=>.func f []
def binIntD (op:BinOp) (k:IntKind) (x y:EI):Option (EB×EV):=
 match op with
 | .add=>some (.lit true,.int k (Dn .add k x y))
 | .sub=>some (.lit true,.int k (Dn .sub k x y))
 | .mul=>some (.lit true,.int k (Dn .mul k x y))
 | .quo=>some (Ep (H8 .eql y (.lit 0)),.int k (Dn .quo k x y))
 | .rem=>some (Ep (H8 .eql y (.lit 0)),.int k (Dn .rem k x y))
 | .and=>some (.lit true,.int k (Dn .and k x y))
 | .or=>some (.lit true,.int k (Dn .or k x y))
 | .xor=>some (.lit true,.int k (Dn .xor k x y))
 | .andNot=>some (.lit true,.int k (Dn .andNot k x y))
 | .eql=>some (.lit true,.bool (H8 .eql x y))
 | .neq=>some (.lit true,.bool (Ep (H8 .eql x y)))
 | .lss=>some (.lit true,.bool (H8 .lss x y))
 | .leq=>some (.lit true,.bool (H8 .leq x y))
 | .gtr=>some (.lit true,.bool (H8 .gtr x y))
 | .geq=>some (.lit true,.bool (H8 .geq x y))
 | _=>none
def Vt (op:BinOp) (k:IntKind) (x y:EI):Option (EB×EV):=
 match op with
 | .shl=>some (H8 .leq (.lit 0) y,.int k (Dn .shl k x y))
 | .shr=>some (H8 .leq (.lit 0) y,.int k (Dn .shr k x y))
 | _=>none
def Il:ES→EN
 | .lit s=>.lit s.length
 | s=>.slen s
def fZ (op:BinOp) (x y:ES):Option (EB×EV):=
 match op with
 | .add=>some (V0 (O7 (Il x) (Il y)) (.lit 9223372036854775807),.str (uW x y))
 | .eql=>some (.lit true,.bool (bE x y))
 | .neq=>some (.lit true,.bool (Ep (bE x y)))
 | _=>none
def Io (op:BinOp) (c:Bool) (b:EB):Option (EB×EV):=
 match op with
 | .eql=>some (.lit c,.bool b)
 | .neq=>some (.lit c,.bool (Ep b))
 | _=>none
def Eo (P:Program) (t:TypeId) (l:EL) (o:EN):Option (EB×EV):=
 match P.underlying t with
 | some (.int k)=>match rdI k l o with
  | some (c,e)=>some (c,.int k e)
  | none=>none
 | some .bool=>match rdB l o with
  | some (c,e)=>some (c,.bool e)
  | none=>none
 | some (.struct _)=>match G9 P t with
  | some z=>some (V0 (O7 o (.lit z)) (Bc l),.agg (Gl l o (.lit z)))
  | none=>none
 | some (.array _ _)=>match G9 P t with
  | some z=>some (V0 (O7 o (.lit z)) (Bc l),.agg (Gl l o (.lit z)))
  | none=>none
 | some _=>match Zc o with
  | some n=>Ay l n
  | none=>none
 | none=>none
def Xl (P:Program) (rec:TypeId→EV→EV→Option (EB×EB)) (xs ys:EL):List Field→Option (EB×EB)
 | []=>some (.lit true,.lit true)
 | f::fs=>
  if f.name ≠ "_" then
   match Eo P f.type xs (.lit f.offset),Eo P f.type ys (.lit f.offset) with
   | some (c1,a),some (c2,b)=>
    match rec f.type a b,Xl P rec xs ys fs with
    | some (c3,r),some (c4,s)=>some (E6 c1 (E6 c2 (E6 c3 c4)),E6 r s)
    | _,_=>none
   | _,_=>none
  else Xl P rec xs ys fs
def cD (P:Program) (rec:TypeId→EV→EV→Option (EB×EB)) (e:TypeId) (z:Nat) (xs ys:EL):List Nat→Option (EB×EB)
 | []=>some (.lit true,.lit true)
 | i::is=>
   match Eo P e xs (.lit (i*z)),Eo P e ys (.lit (i*z)) with
   | some (c1,a),some (c2,b)=>
    match rec e a b,cD P rec e z xs ys is with
    | some (c3,r),some (c4,s)=>some (E6 c1 (E6 c2 (E6 c3 c4)),E6 r s)
    | _,_=>none
   | _,_=>none
def fS (P:Program):Nat→TypeId→EV→EV→Option (EB×EB)
 | 0,_,_,_=>none
 | n+1,t,x,y=>
  match P.underlying t with
  | some (.int _)=>match x,y with
   | .int k a,.int k' b=>if k=k' then some (.lit true,H8 .eql a b) else none
   | _,_=>none
  | some .bool=>match x,y with
   | .bool a,.bool b=>some (.lit true,kF a b)
   | _,_=>none
  | some .string=>match x,y with
   | .str a,.str b=>some (.lit true,bE a b)
   | _,_=>none
  | some (.struct fs)=>match x,y with
   | .agg xs,.agg ys=>match P.stoodInHeld t with
    | true=>none
    | false=>Xl P (fS P n) xs ys fs.toList
   | _,_=>none
  | some (.array m e)=>match x,y with
   | .agg xs,.agg ys=>match G9 P e with
    | some z=>cD P (fS P n) e z xs ys (List.range m)
    | none=>none
   | _,_=>none
  | _=>none
def eqA1 (P:Program) (t:TypeId) (as:List AV):Bool:=match as with
 | [x,y]=>match Ti P 10 t x y with
  | some (c,_)=>c
  | none=>false
 | _=>false
def eqA2 (P:Program) (t:TypeId) (as:List AV):Bool:=match as with
 | [x,y]=>match Ti P 10 t x y with
  | some (_,b)=>b
  | none=>false
 | _=>false
def vA:EL→Bool
 | .of _=>true
 | _=>false
def eqAD (P:Program) (t:TypeId) (xs ys:EL):Option (EB×EB):=
 match vA xs||vA ys||(match G9 P t with | some z=>Nat.ble z 8 | none=>false) with
 | true=>fS P 10 t (.agg xs) (.agg ys)
 | false=>some (.uf (100000+t) (eqA1 P t) [.agg xs,.agg ys],.uf (200000+t) (eqA2 P t) [.agg xs,.agg ys])
def binD (P:Program) (op:BinOp) (t:TypeId) (x y:EV):Option (EB×EV):=
 match x,y with
 | .int k a,.int k' b=>
  match op with
  | .shl | .shr=>Vt op k a b
  | _=>if k=k' then binIntD op k a b else none
 | .str a,.str b=>fZ op a b
 | .bool a,.bool b=>Io op (Xd (P.underlying t)) (kF a b)
 | .ptr _ _,.nilp=>Io op (Jg (P.underlying t)) (.lit false)
 | .nilp,.ptr _ _=>Io op (Jg (P.underlying t)) (.lit false)
 | .nilp,.nilp=>Io op (Jg (P.underlying t)) (.lit true)
 | .slice false _ _ _,.nils=>Io op (Hx (P.underlying t)) (.lit false)
 | .nils,.nils=>Io op (Hx (P.underlying t)) (.lit true)
 | .func _ _,.nilf=>Io op (Lc (P.underlying t)) (.lit false)
 | .nilf,.nilf=>Io op (Lc (P.underlying t)) (.lit true)
 | .agg xs,.agg ys=>
  match P.eqGuardType P.depth t with
  | true=>none
  | false=>match eqAD P t xs ys with
   | some (c,b)=>match op with
    | .eql=>some (c,.bool b)
    | .neq=>some (c,.bool (Ep b))
    | _=>none
   | none=>none
 | _,_=>none
def unD (op:UnOp) (x:EV):Option (EB×EV):=
 match op,x with
 | .neg,.int k n=>some (.lit true,.int k (uU k n))
 | .xor,.int k n=>some (.lit true,.int k (uV k n))
 | .not,.bool b=>some (.lit true,.bool (Ep b))
 | _,_=>none
def vQ (P:Program) (src dst:TypeId) (x:EV):Option (EB×EV):=
 match P.underlying src,P.underlying dst,x with
 | some _,some (.int k),.int _ n=>some (.lit true,.int k (mX k n))
 | some _,some .string,.str s=>some (.lit true,.str s)
 | _,_,_=>none
def oI (P:Program) (s:TypeId) (x:EV) (f:Nat):Option (EB×EV):=
 match P.underlying s,x with
 | some (.struct fs),.ptr r off=>
  match fs[f]? with
  | some fd=>
   match G9 P fd.type with
   | some 0=>none
   | some _=>some (.lit true,.ptr r (O7 off (.lit fd.offset)))
   | none=>none
  | none=>none
 | _,_=>none
def nP (P:Program) (t:TypeId) (x i:EV):Option (EB×EV):=
 match i with
 | .int _ i=>
  match P.underlying t,x with
  | some (.array len e),.ptr r off=>
   match G9 P e with
   | some z=>some (E6 (H8 .leq (.lit 0) i) (H8 .lss i (.lit len)),.ptr r (O7 (T5 (Bb i) z) off))
   | none=>none
  | some (.slice e),.slice _ r off len=>
   match G9 P e with
   | some z=>some (E6 (H8 .leq (.lit 0) i) (H8 .lss i (Dm len)),.ptr r (O7 (T5 (Bb i) z) off))
   | none=>none
  | _,_=>none
 | _=>none
def Jl (x:Option EV) (d:EI):Option EI:=
 match x with
 | none=>some d
 | some (.int _ i)=>some i
 | some _=>none
def lO (P:Program) (t:TypeId) (x:EV) (lo hi:Option EV):Option (EB×EV):=
 match P.underlying t,x with
 | some (.slice e),.slice mb r off len=>
  match G9 P e,Jl lo (.lit 0),Jl hi (Dm len) with
  | some z,some l,some h=>some (E6 (H8 .leq (.lit 0) l) (E6 (H8 .leq l h) (H8 .leq h (Dm len))),.slice mb r (O7 (T5 (Bb l) z) off) (uT (Bb h) (Bb l)))
  | _,_,_=>none
 | some (.slice e),.nils=>
  match G9 P e,Jl lo (.lit 0),Jl hi (.lit 0) with
  | some _,some l,some h=>some (E6 (H8 .leq (.lit 0) l) (E6 (H8 .leq l h) (H8 .leq h (.lit 0))),.nils)
  | _,_,_=>none
 | some .string,.str s=>
  match Jl lo (.lit 0),Jl hi (Dm (Il s)) with
  | some l,some h=>some (E6 (H8 .leq (.lit 0) l) (E6 (H8 .leq l h) (H8 .leq h (Dm (Il s)))),.str (.sub s (Bb l) (Bb h)))
  | _,_=>none
 | _,_=>none
def Z5:EV→EL
 | .agg cs=>cs
 | v=>.of [v]
def bO:EV→Bool
 | .undef=>false
 | _=>true
def Xc:EV→Bool
 | .undef | .agg _ | .tup _=>false
 | _=>true
def My:EL→EB
 | .of cs=>.lit (cs.all Xc)
 | .sub l o n=>.cells (.sub l o n)
 | l=>.cells l
def Km (v:EV):EB:=
 match v with
 | .agg l=>My l
 | v=>.lit (Xc v)
def Pk (v:EV) (z:Nat):EB:=
 match v with
 | .agg l=>kE (Bc l) (.lit z)
 | _=>.lit (Nat.beq 1 z)
def Si (place:Nat→Option (Nat×Nat)) (cells:EL):List (Nat×EV)→Option (EB×EL)
 | []=>some (.lit true,cells)
 | (i,v)::rest=>
  match place i with
  | none=>none
  | some (off,size)=>
   match Si place (Rv cells (.lit off) v) rest with
   | none=>none
   | some (c,r)=>match bO v with
    | true=>some (E6 (Pk v size) (E6 (V0 (.lit (off+size)) (Bc cells)) c),r)
    | false=>none
def Jz (P:Program) (t:TypeId):Option EV:=
 match P.info? t with
 | some i=>match i.zero with
  | some z=>some (vO z)
  | none=>none
 | none=>none
def oX (P:Program) (t:TypeId) (parts:List (Nat×EV)):Option (EB×EV):=
 match P.underlying t,Jz P t with
 | some (.struct fs),some (.agg z)=>
  match Hr P fs.toList with
  | some ps=>
   match Si (fun i=>ps[i]?) z parts with
   | some (c,cs)=>some (c,.agg cs)
   | none=>none
  | none=>none
 | some (.array _ e),some (.agg z)=>
  match G9 P e with
  | some n=>
   match Si (fun i=>some (i*n,n)) z parts with
   | some (c,cs)=>some (c,.agg cs)
   | none=>none
  | none=>none
 | _,_=>none
def lenD (P:Program) (t:TypeId) (x:EV):Option (EB×EV):=
 match P.underlying t,x with
 | some .string,.str s=>some (.lit true,.int .i64 (Dm (Il s)))
 | some (.array n _),_=>some (.lit true,.int .i64 (.lit n))
 | some (.slice _),.slice _ _ _ n=>some (.lit true,.int .i64 (Dm n))
 | some (.slice _),.nils=>some (.lit true,.int .i64 (.lit 0))
 | _,_=>none
def capD (P:Program) (t:TypeId) (x:EV):Option (EB×EV):=
 match P.underlying t,x with
 | some (.slice _),.nils=>some (.lit true,.int .i64 (.lit 0))
 | _,_=>none
def maxD (x y:EV):Option (EB×EV):=
 match x,y with
 | .int k a,.int k' b=>if k=k' then some (.lit true,.int k (.mx a b)) else none
 | _,_=>none
def minD (x y:EV):Option (EB×EV):=
 match x,y with
 | .int k a,.int k' b=>if k=k' then some (.lit true,.int k (.mn a b)) else none
 | _,_=>none
def uR (c a b:EV):Option (EB×EV):=
 match c with
 | .bool (.lit true)=>some (.lit true,a)
 | .bool (.lit false)=>some (.lit true,b)
 | _=>none
def Uv (x:EV):Option (EB×EV):=
 match x with
 | .ptr r o=>some (.lit true,.ptr r o)
 | .func f c=>some (.lit true,.func f c)
 | .slice m r o n=>some (.lit true,.slice m r o n)
 | _=>none
noncomputable def kB (P:Program) (F:DFr) (op:Op):Option (EB×EV):=
 match op with
 | .move x=>some (.lit true,evD F x)
 | .assign x=>some (.lit true,evD F x)
 | .pick c a b=>uR (evD F c) (evD F a) (evD F b)
 | .nilCheck x=>Uv (evD F x)
 | .binOp op t x y _=>binD P op t (evD F x) (evD F y)
 | .unOp op _ x=>unD op (evD F x)
 | .convert s d x=>vQ P s d (evD F x)
 | .fieldAddr s x f=>oI P s (evD F x) f
 | .indexAddr t x i=>nP P t (evD F x) (evD F i)
 | .slice t x lo hi none=>lO P t (evD F x) (lo.map (evD F)) (hi.map (evD F))
 | .build t parts=>oX P t (parts.toList.map fun p=>(p.1,evD F p.2))
 | .extract x i=>match evD F x with
  | .tup vs=>match vs[i]? with
   | some v=>some (.lit true,v)
   | none=>none
  | _=>none
 | .makeFunc (.func f) first cap=>if first.size=0 then some (.lit true,.func f (cap.toList.map (evD F))) else none
 | .call { callee:=.builtin .len,args,argTypes }=>
  match args.toList,argTypes.toList with
  | [x],[t]=>lenD P t (evD F x)
  | _,_=>none
 | .call { callee:=.builtin .cap,args,argTypes }=>
  match args.toList,argTypes.toList with
  | [x],[t]=>capD P t (evD F x)
  | _,_=>none
 | .call { callee:=.builtin .max,args,.. }=>
  match args.toList with
  | [x,y]=>maxD (evD F x) (evD F y)
  | _=>none
 | .call { callee:=.builtin .min,args,.. }=>
  match args.toList with
  | [x,y]=>minD (evD F x) (evD F y)
  | _=>none
 | _=>none
def bP (b:Nd):Bool:=Nat.beq b.esz 4294967291
def Br (z:Nat):Nat→DHp→Nat→Option (List EV)
 | _,_,0=>some []
 | j,some ⟨z',.row l (.lit i)⟩::H,n+1=>match Nat.beq z z'&&Nat.beq i j with
  | true=>match Br z (j+1) H n with
   | some ls=>some (.agg l::ls)
   | none=>none
  | false=>none
 | _,_,_+1=>none
def Xk (H:DHp) (b c:Nat):Option (Nat×EL×List EV):=
 match H.drop b with
 | some ⟨z,.row l (.lit _)⟩::_=>match Nat.beq z 4294967291 with
  | true=>none
  | false=>match Br z 0 (H.drop b) c with
   | some ls=>some (z,l,ls)
   | none=>none
 | _=>none
def Xh (b c z:Nat) (l:EL):List DHop:=(List.range c).map fun j=>.set (b+j) ⟨z,.row l (.lit j)⟩
def Ic (H:DHp):ER→Option (EB×EL)
 | .rw i=>match H[i]? with
  | some (some b)=>match bP b with
   | true=>none
   | false=>some (.lit true,b.cells)
  | _=>none
 | .ro n=>some (.lit true,.ro n)
 | .fm b c k=>match Xk H b c with
  | some (_,l,ls)=>some (E6 (V0 (O7 k (.lit 1)) (.lit c)) (.rows l ls),.row l k)
  | none=>none
def uY (l:Lf) (cs:EL) (off:EN):EV:=
 match l with
 | .int k=>.int k (.get cs off)
 | .bool=>.bool (.get cs off)
 | .str=>.str (.get cs off)
 | .sl=>.slice true (.ro (.rk cs off)) (.ro cs off) (.rn cs off)
def Qg (cs:EL):EN→List Lf→List EV
 | _,[]=>[]
 | off,l::ls=>uY l cs off::Qg cs (O7 off (.lit 1)) ls
def mP (P:Program) (t:TypeId) (cs:EL) (off:EN):Option (EB×EV):=
 match P.underlying t with
 | some (.int k)=>some (.isI k cs off,.int k (.get cs off))
 | some .bool=>some (.isB cs off,.bool (.get cs off))
 | some .string=>some (.isT cs off,.str (.get cs off))
 | some (.slice _)=>some (.isR cs off,.slice true (.ro (.rk cs off)) (.ro cs off) (.rn cs off))
 | some (.struct _)=>match G9 P t,Xb P 10 t with
  | some z,some ls=>match Nat.beq ls.length z with
   | true=>some (.leaf cs off ls,.agg (.of (Qg cs off ls)))
   | false=>none
  | _,_=>none
 | some (.array _ _)=>match G9 P t,Xb P 10 t with
  | some z,some ls=>match Nat.beq ls.length z with
   | true=>some (.leaf cs off ls,.agg (.of (Qg cs off ls)))
   | false=>none
  | _,_=>none
 | _=>none
def yF (P:Program) (r:ER) (t:TypeId) (cs:EL) (off:EN):Option (EB×EV):=
 match r with
 | .rw _=>Eo P t cs off
 | .ro _=>mP P t cs off
 | .fm _ _ _=>Eo P t cs off
def kG (P:Program) (H:DHp) (t:TypeId) (r:ER) (off:EN):Option (EB×EV):=
 match Ic H r with
 | some (c0,cs)=>match yF P r t cs off with
  | some (c,v)=>some (E6 c0 c,v)
  | none=>none
 | none=>none
def fD (cs:List AV) (o:Nat):Bool:=match cs[o]? with | some (.slice true (.ro _) _ _)=>true | _=>false
def isRXU:List AV→Bool:=fun vs=>match vs with
 | [.agg cs,.int _ o]=>fD cs o.toNat
 | _=>false
inductive FL where
 | int (k:IntKind)
 | bool
 | sl (b c:Nat)
def famFs (rec:TypeId→Option (List FL)):Nat→List Field→Option (List FL)
 | _,[]=>some []
 | acc,f::fs=>
  match Nat.beq f.offset acc with
  | true=>match rec f.type with
   | some a=>match famFs rec (acc+a.length) fs with
    | some b=>some (a++b)
    | none=>none
   | none=>none
  | false=>none
def famLs (P:Program) (fam:TypeId→Option (Nat×Nat)):Nat→TypeId→Option (List FL)
 | 0,_=>none
 | n+1,t=>
  match P.underlying t with
  | some (.int k)=>some [.int k]
  | some .bool=>some [.bool]
  | some (.slice _)=>match fam t with
   | some (b,c)=>some [.sl b c]
   | none=>none
  | some (.struct fs)=>famFs (famLs P fam n) 0 fs.toList
  | _=>none
def Xj (l:EL) (o:EN):FL→EV
 | .int k=>.int k (.get l o)
 | .bool=>.bool (.get l o)
 | .sl b c=>match c with
  | 0=>.slice true (.ro (.rk l o)) (.ro l o) (.rn l o)
  | _=>.slice true (.fm b c (.fk b l o)) (.fo l o) (.fn l o)
def Xi (l:EL) (o:EN):FL→EB
 | .int k=>.isI k l o
 | .bool=>.isB l o
 | .sl b c=>match c with
  | 0=>.uf 1099 isRXU [.agg l,.int .i64 (.ofN o)]
  | _=>.isF b c l o
def cA (l:EL):EN→List FL→List EV
 | _,[]=>[]
 | o,f::fs=>Xj l o f::cA l (O7 o (.lit 1)) fs
def kJ (l:EL):EN→List FL→EB
 | _,[]=>.lit true
 | o,f::fs=>E6 (Xi l o f) (kJ l (O7 o (.lit 1)) fs)
inductive FamR where
 | val (c:EB) (v:EV)
 | ptr (n c:EB) (v:EV)
def oJ (fam:TypeId→Option (Nat×Nat)) (P:Program) (t:TypeId) (cs:EL) (off:EN):Option FamR:=
 match fam t with
 | none=>none
 | some (b,c)=>match P.underlying t with
  | some (.struct _)=>match vA cs with
   | true=>none
   | false=>match G9 P t,famLs P fam 10 t with
    | some z,some ls=>match Nat.beq ls.length z&&Nat.ble 1 z with
     | true=>some (.val (kJ cs off ls) (.agg (.of (cA cs off ls))))
     | false=>none
    | _,_=>none
  | some (.slice _)=>match Eo P t cs off with
   | some _=>none
   | none=>some (.val (Xi cs off (.sl b c)) (Xj cs off (.sl b c)))
  | some (.pointer _)=>match Eo P t cs off with
   | some _=>none
   | none=>some (.ptr (.isNil cs off) (.isP b c cs off) (.ptr (.fm b c (.fk b cs off)) (.fo cs off)))
  | _=>none
noncomputable def oL (fam:TypeId→Option (Nat×Nat)) (P:Program) (F:DFr) (H:DHp) (op:Op):Option (EB×FamR):=
 match op with
 | .load t a=>match evD F a with
  | .ptr r off=>match r with
   | .ro _=>none
   | r=>match Ic H r with
    | some (c0,cs)=>match oJ fam P t cs off with
     | some x=>some (c0,x)
     | none=>none
    | none=>none
  | _=>none
 | .field t x f=>
  match P.underlying t,evD F x with
  | some (.struct fs),.agg cs=>match fs[f]? with
   | some fd=>match oJ fam P fd.type cs (.lit fd.offset) with
    | some x=>some (.lit true,x)
    | none=>none
   | none=>none
  | _,_=>none
 | .index t x i=>
  match P.underlying t,evD F x,evD F i with
  | some (.array len e),.agg cs,.int _ i=>match G9 P e with
   | some z=>match oJ fam P e cs (T5 (Bb i) z) with
    | some x=>some (E6 (H8 .leq (.lit 0) i) (H8 .lss i (.lit len)),x)
    | none=>none
   | none=>none
  | _,_,_=>none
 | _=>none
def fO (fs:Facts) (o:EB×FamR) (k:Facts→EV→T):T:=
 match o with
 | (c0,.val c v)=>Bv c0 (Bv c (k fs v))
 | (c0,.ptr n c v)=>Bv c0 (Ad fs n (fun fs=>k fs .nilp) (fun fs=>Bv c (k fs v)))
def wY (cs:EL) (off n:EN):EB×EV:=
 (E6 (V0 (O7 off n) (Bc cs)) (.u8s (Gl cs off n)),.str (.ofL (Gl cs off n)))
noncomputable def jZ (P:Program) (F:DFr) (H:DHp) (op:Op):Option (EB×EV):=
 match op with
 | .load t a=>match evD F a with
  | .ptr r off=>kG P H t r off
  | _=>none
 | .field t x f=>
  match P.underlying t,evD F x with
  | some (.struct fs),.agg cs=>match fs[f]? with
   | some fd=>Eo P fd.type cs (.lit fd.offset)
   | none=>none
  | _,_=>none
 | .index t x i=>
  match P.underlying t,evD F x,evD F i with
  | some (.array len e),.agg cs,.int _ i=>match G9 P e with
   | some z=>match Eo P e cs (T5 (Bb i) z) with
    | some (c,v)=>some (E6 (H8 .leq (.lit 0) i) (E6 (H8 .lss i (.lit len)) c),v)
    | none=>none
   | none=>none
  | _,_,_=>none
 | .convert s d x=>
  match V9 P s&&Y6 P d,evD F x with
  | true,.nils=>some (.lit true,.str (.lit []))
  | true,.slice _ r off n=>match Ic H r with
   | some (c0,cs)=>match wY cs off n with
    | (c,v)=>some (E6 c0 c,v)
   | none=>none
  | _,_=>none
 | _=>none
noncomputable def Wf (F:DFr) (op:Op):Option ER:=
 match op with
 | .load _ a=>match evD F a with
  | .ptr r _=>some r
  | _=>none
 | .convert _ _ x=>match evD F x with
  | .slice _ r _ _=>some r
  | _=>none
 | _=>none
def T6 (H:DHp):ER:=.rw H.length
def srcD (H:DHp) (z:Nat) (x:EV):Option (EB×EN×EL):=
 match x with
 | .nils=>some (.lit true,.lit 0,.of [])
 | .slice _ r off m=>match Ic H r with
  | some (c0,cs)=>some (E6 c0 (E6 (V0 (O7 off (T5 m z)) (Bc cs)) (My (Gl cs off (T5 m z)))),m,Gl cs off (T5 m z))
  | none=>none
 | .str s=>match Nat.beq z 1 with
  | true=>some (.lit true,Il s,Wz s)
  | false=>none
 | _=>none
def Ry (z:Option EV) (n:Nat):Bool:=match z with
 | some v=>match Z5 v with
  | .of cs=>Nat.beq cs.length n
  | _=>false
 | none=>false
def Xt (P:Program) (H:DHp) (t:TypeId) (s x:EV):Option (EB×EV×DHop):=
 match P.underlying t with
 | some (.slice e)=>
  match P.info? e,Jz P e with
  | some i,some zv=>
   match Dz i.size&&(Nat.ble 1 i.bytes&&Ry (some zv) i.size) with
   | false=>none
   | true=>
   match srcD H i.size x with
   | some (c,m,xs)=>
    match s with
    | .nils=>some (E6 c (V0 (T5 m i.bytes) (.lit 140737488355328)),.slice true (T6 H) (.lit 0) m,.new ⟨i.size,xs⟩)
    | .slice mb (.rw j) (.lit 0) (.lit 0)=>
     match H[j]? with
     | some (some b)=>match Nat.beq b.esz i.size with
      | true=>some (E6 c (V0 (T5 m i.bytes) (.lit 140737488355328)),.slice mb (T6 H) (.lit 0) m,.app j ⟨i.size,xs⟩)
      | false=>none
     | _=>none
    | .slice mb (.rw j) (.lit 0) (.mul n 1)=>
     match H[j]? with
     | some (some b)=>match Nat.beq b.esz i.size with
      | true=>some (E6 c (E6 (V0 (T5 (O7 n m) i.bytes) (.lit 140737488355328)) (V0 (T5 n i.size) (Bc b.cells))),.slice mb (T6 H) (.lit 0) (O7 n m),.app j ⟨i.size,bG (Gl b.cells (.lit 0) (T5 n i.size)) xs⟩)
      | false=>none
     | _=>none
    | .slice mb (.rw j) (.lit 0) n=>
     match H[j]? with
     | some (some b)=>match Nat.beq b.esz i.size with
      | true=>some (E6 c (E6 (V0 (T5 (O7 n m) i.bytes) (.lit 140737488355328)) (kE (Bc b.cells) (T5 n i.size))),.slice mb (T6 H) (.lit 0) (O7 n m),.app j ⟨i.size,bG b.cells xs⟩)
      | false=>none
     | _=>none
    | _=>none
   | none=>none
  | _,_=>none
 | _=>none
def Wy (l:EL) (o:EN) (v:EV) (z:Nat):EL:=
 match v with
 | .agg d=>match vA d,l,o with
  | false,.of cs,.lit 0=>match Nat.beq cs.length z with
   | true=>d
   | false=>Rv l o v
  | _,_,_=>Rv l o v
 | v=>Rv l o v
def gA (z:Nat) (as:List AV):Int:=match as with
 | [.int _ n]=>n*z
 | _=>0
def Mx (P:Program) (H:DHp) (t:TypeId) (s x:EV):Option (EB×EV×DHop):=
 match P.underlying t,s,x with
 | some (.slice e),.nils,.int .i64 n=>
  match P.info? e,Jz P e with
  | some i,some zv=>match Dz i.size&&(Nat.ble 1 i.bytes&&(Ry (some zv) i.size&&Nat.ble 1 i.size)) with
   | true=>some (E6 (H8 .leq (.lit 0) n) (H8 .leq (mkBigD n i.bytes) (.lit 140737488355328)),.slice true (T6 H) (.lit 0) (Bb n),.new ⟨i.size,bD (Bb n) (Z5 zv)⟩)
   | false=>none
  | _,_=>none
 | _,_,_=>none
where
 mkBigD (c:EI) (z:Nat):EI:=match c with
  | .lit n=>.lit (n*z)
  | c=>.uf (300000+z) (gA z) [.int .i64 c]
def oU (P:Program) (H:DHp) (t:TypeId) (x:EV):Option (EB×EV×DHop):=
 match P.underlying t,x with
 | some (.slice e),.slice _ (.rw j) off n=>
  match G9 P e,Jz P e,H[j]? with
  | some z,some zv,some (some b)=>match bP b||!(Ry (some zv) z&&Nat.ble 1 z) with
   | true=>none
   | false=>some (E6 (V0 (.lit 1) n) (E6 (My (Z5 zv)) (V0 (O7 off (T5 n z)) (Bc b.cells))),.tup [],.set j ⟨b.esz,Rv b.cells off (.agg (bD n (Z5 zv)))⟩)
  | _,_,_=>none
 | _,_=>none
noncomputable def Pa (P:Program) (F:DFr) (H:DHp) (op:Op):Option (EB×EV×DHop):=
 match op with
 | .store t a x=>
  match evD F a,G9 P t with
  | .ptr (.rw i) off,some z=>match H[i]? with
   | some (some b)=>match bP b with
    | true=>none
    | false=>some (E6 (Km (evD F x)) (E6 (Pk (evD F x) z) (V0 (O7 off (.lit z)) (Bc b.cells))),.tup [],.set i ⟨b.esz,Wy b.cells off (evD F x) z⟩)
   | _=>none
  | _,_=>none
 | .alloc e=>match Jz P e with
  | some z=>some (.lit true,.ptr (T6 H) (.lit 0),.new ⟨1,Z5 z⟩)
  | none=>none
 | .box _ x=>match bO (evD F x) with
  | true=>some (.lit true,.ptr (T6 H) (.lit 0),.new ⟨1,Z5 (evD F x)⟩)
  | false=>none
 | .buildSlice t n parts=>
  match P.underlying t with
  | some (.slice e)=>match G9 P e,Jz P e with
   | some z,some zv=>
    match Z5 zv with
    | .of cs=>
     match Dz z&&(Nat.ble (n*z) 16777216&&Nat.beq cs.length z) with
     | true=>match Si (fun i=>some (i*z,z)) (.of ((List.replicate n cs).flatten)) (parts.toList.map fun p=>(p.1,evD F p.2)) with
      | some (c,cs)=>some (c,.slice false (T6 H) (.lit 0) (.lit n),.new ⟨z,cs⟩)
      | none=>none
     | false=>none
    | _=>none
   | _,_=>none
  | _=>none
 | .makeSlice t l c=>
  match P.underlying t,evD F l,evD F c with
  | some (.slice e),.int _ l,.int _ c=>match P.info? e,Jz P e with
   | some i,some zv=>match Dz i.size&&(Ry (some zv) i.size&&Nat.ble 1 i.size) with
    | true=>some (E6 (H8 .leq (.lit 0) l) (E6 (H8 .leq l c) (E6 (H8 .leq (mkBig c i.bytes) (.lit 140737488355328)) (H8 .leq c (.lit 140737488355328)))),.slice false (T6 H) (.lit 0) (Bb l),.new ⟨i.size,bD (Bb l) (Z5 zv)⟩)
    | false=>none
   | _,_=>none
  | _,_,_=>none
 | .convert s d x=>
  match Y6 P s&&V9 P d,evD F x with
  | true,.str s=>some (V0 (Il s) (.lit 140737488355328),.slice false (T6 H) (.lit 0) (Il s),.new ⟨1,Wz s⟩)
  | false,.slice mb (.rw i) off n=>match V9 P s&&Nat.beq s d with
   | true=>match H[i]? with
    | some (some b)=>match bP b with
     | true=>none
     | false=>some (V0 (.lit 1) n,.slice mb (.rw i) off n,.set i b)
    | _=>none
   | false=>none
  | _,_=>none
 | .call { callee:=.builtin .append,args,argTypes }=>
  match args.toList,argTypes.toList with
  | [s,x],[t,u]=>match P.underlying u with
   | some (.slice _)=>Xt P H t (evD F s) (evD F x)
   | some .string=>Xt P H t (evD F s) (evD F x)
   | some (.int _)=>Mx P H t (evD F s) (evD F x)
   | _=>none
  | _,_=>none
 | .call { callee:=.builtin .clear,args,argTypes }=>
  match args.toList,argTypes.toList with
  | [x],[t]=>oU P H t (evD F x)
  | _,_=>none
 | _=>none
where
 mkBig (c:EI) (z:Nat):EI:=match c with
  | .lit n=>.lit (n*z)
  | c=>.uf (300000+z) (gA z) [.int .i64 c]
noncomputable def dE (P:Program) (F:DFr) (H:DHp) (op:Op):Option (EB×List DHop):=
 match op with
 | .store t a x=>
  match evD F a,G9 P t with
  | .ptr (.fm b c k) off,some z=>match Xk H b c with
   | some (z0,l,ls)=>some (E6 (V0 (O7 k (.lit 1)) (.lit c)) (E6 (.rows l ls) (E6 (V0 (O7 k (.lit 1)) (.len l)) (E6 (Km (evD F x)) (E6 (Pk (evD F x) z) (V0 (O7 off (.lit z)) (Bc (.row l k))))))),Xh b c z0 (.put l k (Wy (.row l k) off (evD F x) z)))
   | none=>none
  | _,_=>none
 | _=>none
noncomputable def Sr (F:DFr) (op:Op):Option (FuncId×List EV):=
 match op with
 | .call { callee:=.value f,args,.. }=>match evD F f with
  | .func g cap=>some (g,args.toList.map (evD F)++cap)
  | _=>none
 | _=>none
noncomputable def dC (F:DFr) (op:Op):Option (Nat×List EV):=
 match op with
 | .call { callee:=.value f,args,.. }=>match evD F f with
  | .yld i=>some (i,args.toList.map (evD F))
  | _=>none
 | _=>none
noncomputable def dY (P:Program) (F:DFr) (H:DHp):ResultVar→Option (EB×EV)
 | .tmp t=>some (.lit true,Sf F t)
 | .cell a t=>match Sf F a with
  | .ptr r off=>kG P H t r off
  | _=>none
noncomputable def Ps (P:Program) (F:DFr) (H:DHp):List ResultVar→Option (EB×List EV)
 | []=>some (.lit true,[])
 | x::xs=>match dY P F H x with
  | some (c,v)=>match Ps P F H xs with
   | some (d,r)=>some (E6 c d,v::r)
   | none=>none
  | none=>none
noncomputable def resD (P:Program) (fn:Func) (F:DFr) (H:DHp):Option (EB×EV):=
 match Ps P F H fn.results.toList with
 | some (c,[v])=>some (c,v)
 | some (c,vs)=>some (c,.tup vs)
 | none=>none
inductive DTrK where
 | still
 | read (r:ER)
 | write
structure cX where
 kd:DTrK
 len:Nat
 hs:List DHop
def Pf (i:Nat) (len:Nat):List DHop→Bool
 | []=>false
 | .set j _::hs=>j==i||Pf i len hs
 | .new _::hs=>len==i||Pf i (len+1) hs
 | .app j _::hs=>j==i||(len==i||Pf i (len+1) hs)
def Pe (r:ER) (len:Nat) (hs:List DHop):Bool:=
 match r with
 | .rw i=>Pf i len hs
 | .ro _=>false
 | .fm _ _ _=>true
def gB (x y:cX):Bool:=
 match x.kd,y.kd with
 | .write,.write=>false
 | .write,.read r=>!Pe r x.len x.hs
 | .read r,.write=>!Pe r y.len y.hs
 | _,_=>true
def fU (all:List Oper) (trs:List cX):Bool:=
 let ms:=Er all []
 Qq 0 all&&(List.range all.length).all fun j=>(List.range j).all fun i=>
  (ms.getD j 0).testBit i ||
  (match all[i]?,all[j]?,trs[i]?,trs[j]? with
   | some x,some y,some a,some b=>Qu all x y&&gB a b
   | _,_,_,_=>false)
def Bl:Bool→Nat→DHp→Option (List DHop)
 | false,_,[]=>some []
 | true,_,[]=>none
 | false,i,some b::H'=>match Bl false (i+1) H' with
  | some hs=>some (.new b::hs)
  | none=>none
 | true,i,some b::H'=>match Bl false (i+1) H' with
  | some hs=>some (.app (i - 1) b::hs)
  | none=>none
 | false,i,none::H'=>match Bl true (i+1) H' with
  | some hs=>some (.new ⟨0,.of []⟩::hs)
  | none=>none
 | true,i,none::H'=>match Bl true (i+1) H' with
  | some hs=>some (.app (i - 1) ⟨0,.of []⟩::hs)
  | none=>none
def Ip:Nat→DHp→DHp→Option (List DHop)
 | i,[],H'=>Bl false i H'
 | i,_::H,some b::H'=>match Ip (i+1) H H' with
  | some hs=>some (.set i b::hs)
  | none=>none
 | i,none::H,none::H'=>Ip (i+1) H H'
 | _,_,_=>none
inductive jH where
 | code (c:Code)
 | ops (all l:List Oper)
 | dr (all l:List Oper) (trs:List cX)
structure DCfg where
 P:Program
 inl:FuncId→Bool
 sum:FuncId→List EV→DHp→Option Outs
 loop:Code→DFr→DHp→Option LOut
 M:Nat
 rng:Code→DFr→DHp→Option LOut:=fun _ _ _=>none
 ysum:Nat→List EV→DHp→Option Outs:=fun _ _ _=>none
 /-- which types' slices and pointers lie in which family (where it begins,how many rows it nU);which structs are to be read field by field -/
 fam:TypeId→Option (Nat×Nat):=fun _=>none
abbrev DK:=Ex→DFr→DHp→Facts→T
abbrev DRec:=Nat→jH→DFr→DHp→Facts→DK→T
def Bz (K:DCfg) (rec:Code→Bool) (o:Oper):Bool:=
 match kdOf K.P o.op with
 | .pure=>true
 | .read=>true
 | .write=>false
 | .call=>match o.op with
  | .call { callee:=.value (.func g),.. }=>K.inl g&&(match K.P.funcs[g]? with
   | some fn=>match fn.body with
    | some c=>rec c
    | none=>true
   | none=>true)
  | _=>false
def R3 (K:DCfg) (rec:Code→Bool):Code→Bool
 | .skip=>true
 | .region _ ops _=>ops.toList.all (Bz K rec)
 | .seq a b=>R3 K rec a&&R3 K rec b
 | .cond _ a b=>R3 K rec a&&R3 K rec b
 | .block _ c=>R3 K rec c
 | .loop _=>false
 | .exit _=>true
 | .scope c=>R3 K rec c
 | .label _=>true
 | .ret=>true
 | _=>false
def P2 (K:DCfg):Nat→Code→Bool
 | 0,_=>false
 | d+1,c=>R3 K (P2 K d) c
def Cx (fn:Func) (args:List EV):DFr:=args++List.replicate (fn.ntmps - args.length) (.tup [])
noncomputable def K4 (F:DFr) (d:Option Tmp) (v:EV):DFr:=
 match d with
 | some d=>tX F d v
 | none=>F
noncomputable def Mb (P:Program) (fn:Func) (Q:EV→DHp→Facts→T) (e:Ex) (F:DFr) (H:DHp) (fs:Facts):T:=
 match e with
 | .exit _=>.fail
 | _=>aX (resD P fn F H) fun v=>Q v H fs
def Ct (fs:Facts) (o:Outs) (k:Facts→EV→List DHop→T):T:=
 match o with
 | .one v hs=>k fs v hs
 | .chk b x=>Bv b (Ct fs x k)
 | .tst b x y=>Ad fs b (fun fs=>Ct fs x k) (fun fs=>Ct fs y k)
 | .namI e f=>.namI fs.n e fun x=>Ct (fresh fs) (f (.var fs.n x)) k
 | .namN e f=>.namN fs.n e fun x=>Ct (fresh fs) (f (.var fs.n x)) k
 | .namB e f=>.namB fs.n e fun x=>Ct (fresh fs) (f (.var fs.n x)) k
 | .namL e f=>.namL fs.n e fun x=>Ct (fresh fs) (f (.var fs.n x)) k
def Y5 (fs:Facts) (o:LOut) (k:Facts→Ex→DFr→DHp→T):T:=
 match o with
 | .one e F H=>k fs e F H
 | .chk b x=>Bv b (Y5 fs x k)
 | .tst b x y=>Ad fs b (fun fs=>Y5 fs x k) (fun fs=>Y5 fs y k)
 | .imp b x=>.imp b (Y5 (In fs b true) x k)
 | .allI f=>.allI fs.n fun x=>Y5 (fresh fs) (f (.var fs.n x)) k
 | .allN f=>.allN fs.n fun x=>Y5 (fresh fs) (f (.var fs.n x)) k
 | .allB f=>.allB fs.n fun x=>Y5 (fresh fs) (f (.var fs.n x)) k
 | .allL f=>.allL fs.n fun x=>Y5 (fresh fs) (f (.var fs.n x)) k
 | .namI e f=>.namI fs.n e fun x=>Y5 (fresh fs) (f (.var fs.n x)) k
 | .namN e f=>.namN fs.n e fun x=>Y5 (fresh fs) (f (.var fs.n x)) k
 | .namB e f=>.namB fs.n e fun x=>Y5 (fresh fs) (f (.var fs.n x)) k
 | .namL e f=>.namL fs.n e fun x=>Y5 (fresh fs) (f (.var fs.n x)) k
def I1 (ro:Bool) (H:DHp):T→Option Outs
 | .ret v H'=>match ro with
  | true=>some (.one v [])
  | false=>match Ip 0 H H' with
   | some hs=>some (.one v hs)
   | none=>none
 | .chk b t=>match I1 ro H t with
  | some o=>some (.chk b o)
  | none=>none
 | .tst b x y=>match I1 ro H x,I1 ro H y with
  | some o,some p=>some (.tst b o p)
  | _,_=>none
 | _=>none
noncomputable def Hj (K:DCfg) (rec:DRec) (m:Nat) (all l:List Oper) (dst:Option Tmp) (op:Op) (F:DFr) (H:DHp) (fs:Facts) (Q:DK):T:=
 match kdOf K.P op with
 | .pure=>aX (kB K.P F op) fun v=>rec m (.ops all l) (K4 F dst v) H fs Q
 | .read=>match oL K.fam K.P F H op with
  | some o=>fO fs o fun fs v=>rec m (.ops all l) (K4 F dst v) H fs Q
  | none=>aX (jZ K.P F H op) fun v=>rec m (.ops all l) (K4 F dst v) H fs Q
 | .write=>match Pa K.P F H op with
  | some (c,v,h)=>Bv c (rec m (.ops all l) (K4 F dst v) (h.act H) fs Q)
  | none=>match dE K.P F H op with
   | some (c,hs)=>Bv c (rec m (.ops all l) (K4 F dst (.tup [])) (Gu H hs) fs Q)
   | none=>.fail
 | .call=>match Sr F op with
  | some (f,args)=>match K.inl f with
   | true=>match K.P.funcs[f]? with
    | some fn=>match fn.body with
     | some c => match fn.name == "runtime.NumGoroutine" with
      | true=>.fail
      | false=>rec H.length (.code c) (Cx fn args) H fs (Mb K.P fn fun v H' fs=>rec m (.ops all l) (K4 F dst v) H' fs Q)
     | none=>.fail
    | none=>.fail
   | false=>match K.sum f args H with
    | some o=>Ct fs o fun fs v hs=>rec m (.ops all l) (K4 F dst v) (Gu H hs) fs Q
    | none=>.fail
  | none=>match dC F op with
   | some (i,args)=>match K.ysum i args H with
    | some o=>Ct fs o fun fs v hs=>rec m (.ops all l) (K4 F dst v) (Gu H hs) fs Q
    | none=>.fail
   | none=>.fail
noncomputable def Mp (fs:Facts) (all:List Oper) (guard:Option (Nat×Bool)) (F:DFr) (go skip:DFr→Facts→T):T:=
 match guard with
 | none=>go F fs
 | some (j,want)=>
  match (all[j]?).bind (·.dst) with
  | some t=>
   match Sf F t with
   | .bool b=>Ad fs b
     (fun fs=>match want with | true=>go (K4 F (some t) (.bool (.lit true))) fs | false=>skip (K4 F (some t) (.bool (.lit true))) fs)
     (fun fs=>match want with | true=>skip (K4 F (some t) (.bool (.lit false))) fs | false=>go (K4 F (some t) (.bool (.lit false))) fs)
   | .tup []=>skip F fs
   | _=>.fail
  | none=>.fail
noncomputable def Lr (K:DCfg) (rec:DRec) (m:Nat) (all l:List Oper) (F:DFr) (H:DHp) (fs:Facts) (Q:DK):T:=
 match l with
 | []=>Q .normal F H fs
 | ⟨dst,op,_,_,_,guard⟩::l=>
  Mp fs all guard F (fun F fs=>Hj K rec m all l dst op F H fs Q) (fun F fs=>rec m (.ops all l) (K4 F dst (.tup [])) H fs Q)
noncomputable def Tu (K:DCfg) (rec:DRec) (m:Nat) (all l:List Oper) (trs:List cX) (dst:Option Tmp) (op:Op) (F:DFr) (H:DHp) (fs:Facts) (Q:DK):T:=
  match kdOf K.P op with
  | .pure=>aX (kB K.P F op) fun v=>rec m (.dr all l (trs++[⟨.still,H.length,[]⟩])) (K4 F dst v) H fs Q
  | .read=>match oL K.fam K.P F H op with
    | some o=>fO fs o fun fs v=>rec m (.dr all l (trs++[⟨(match Wf F op with | some r=>.read r | none=>.still),H.length,[]⟩])) (K4 F dst v) H fs Q
    | none => aX  (jZ    K.P F H op) fun v => rec m (.dr all l (trs ++ [⟨(match Wf    F op with | some r => .read r | none => .still), H.length, []⟩])) (K4   F dst v) H fs Q
  | .write => match Pa     K.P F H op with
    | some (c,v,h)=>Bv c (rec m (.dr all l (trs++[⟨.write,H.length,[h]⟩])) (K4 F dst v) (h.act H) fs Q)
    | none => .fail
  | .call=>match Sr F op with
    | some (f,args)=>match K.inl f with
      | true=>match K.P.funcs[f]? with
        | some fn=>match fn.body with
          | some c => match fn.name == "runtime.NumGoroutine" with
            | true=>.fail
            | false=>match I1 (P2 K 20 c) H (rec H.length (.code c) (Cx fn args) H fs (Mb K.P fn fun v H' _=>.ret v H')) with
              | some o=>Ct fs o fun fs v hs=>rec m (.dr all l (trs++[⟨.write,H.length,hs⟩])) (K4 F dst v) (Gu H hs) fs Q
              | none=>.fail
          | none=>.fail
        | none=>.fail
      | false=>match K.sum f args H with
        | some o=>Ct fs o fun fs v hs=>rec m (.dr all l (trs++[⟨.write,H.length,hs⟩])) (K4 F dst v) (Gu H hs) fs Q
        | none=>.fail
    | none=>match dC F op with
      | some (i,args)=>match K.ysum i args H with
        | some o=>Ct fs o fun fs v hs=>rec m (.dr all l (trs++[⟨.write,H.length,hs⟩])) (K4 F dst v) (Gu H hs) fs Q
        | none=>.fail
      | none=>.fail
noncomputable def Hk (K:DCfg) (rec:DRec) (m:Nat) (all l:List Oper) (trs:List cX) (F:DFr) (H:DHp) (fs:Facts) (Q:DK):T:=
 match l with
 | []=>match fU all trs with
  | true=>Q .normal F H fs
  | false=>.fail
 | ⟨dst,op,_,_,_,guard⟩::l=>
  Mp fs all guard F (fun F fs=>Tu K rec m all l trs dst op F H fs Q) (fun F fs=>rec m (.dr all l (trs++[⟨.still,H.length,[]⟩])) (K4 F dst (.tup [])) H fs Q)
noncomputable def Iw (_K:DCfg) (rec:DRec) (m:Nat) (c:Operand) (x y:Code) (F:DFr) (H:DHp) (fs:Facts) (Q:DK):T:=
 match c with
 | .tmp t=>match Sf F t with
  | .bool b=>Ad fs b (fun fs=>rec m (.code x) (K4 F (some t) (.bool (.lit true))) H fs Q) (fun fs=>rec m (.code y) (K4 F (some t) (.bool (.lit false))) H fs Q)
  | _=>.fail
 | .const (.bool b)=>match b with
  | true=>rec m (.code x) F H fs Q
  | false=>rec m (.code y) F H fs Q
 | _=>.fail
def aF (rec:DRec) (m:Nat) (b:Code) (Q:DK):DK:=fun e F H fs=>match e with
 | .normal=>rec m (.code b) F H fs Q
 | e=>Q e F H fs
def Mu (id:Nat) (Q:DK):DK:=fun e F H fs=>match e with
 | .exit i=>match i==id with
  | true=>Q .normal F H fs
  | false=>Q (.exit i) F H fs
 | e=>Q e F H fs
noncomputable def Cm (K:DCfg) (rec:DRec) (m:Nat) (c:Code) (F:DFr) (H:DHp) (fs:Facts) (Q:DK):T:=
 match c with
 | .skip=>Q .normal F H fs
 | .region _ ops draw=>match draw with
  | true=>rec m (.dr ops.toList ops.toList []) F H fs Q
  | false=>rec m (.ops ops.toList ops.toList) F H fs Q
 | .seq a b=>rec m (.code a) F H fs (aF rec m b Q)
 | .cond c x y=>Iw K rec m c x y F H fs Q
 | .block id c=>rec m (.code c) F H fs (Mu id Q)
 | .loop c=>match Nat.ble m K.M with
  | true=>match K.loop c F H with
   | some o=>Y5 fs o fun fs e F H=>Q e F H fs
   | none=>.fail
  | false=>.fail
 | .rangeFunc g ps as bd=>match Nat.ble m K.M with
  | true=>match K.rng (.rangeFunc g ps as bd) F H with
   | some o=>Y5 fs o fun fs e F H=>Q e F H fs
   | none=>.fail
  | false=>.fail
 | .exit id=>Q (.exit id) F H fs
 | .scope c=>rec m (.code c) F H fs Q
 | .label _=>Q .normal F H fs
 | .ret=>Q .ret F H fs
 | _=>.fail
noncomputable def aT8 (K:DCfg) (rec:DRec) (m:Nat) (w:jH) (F:DFr) (H:DHp) (fs:Facts) (Q:DK):T:=
 match w with
 | .ops all l=>Lr K rec m all l F H fs Q
 | .dr all l trs=>Hk K rec m all l trs F H fs Q
 | .code c=>Cm K rec m c F H fs Q
noncomputable def dx (K:DCfg):Nat→DRec
 | 0=>fun _ _ _ _ _ _=>.fail
 | n+1=>aT8 K (dx K n)
section
variable {G:Nat→List AV}
theorem Q5 (l:List EV):vVs G l=l.map (vV G):=by
 induction l with
 | nil=>rfl
 | cons x l ih=>simp only [vVs,ih,List.map_cons]
theorem P6 (l:List EV):(vVs G l).length=l.length:=by rw [Q5,List.length_map]
theorem dG (l:List EV) (n:Nat):(vVs G l)[n]?=(l[n]?).map (vV G):=by rw [Q5,sH]
theorem Qz (l m:List EV):vVs G (l++m)=vVs G l++vVs G m:=by simp only [Q5,List.map_append]
theorem Z2 (F:List EV) (t:Nat):(vVs G F).getD t .undef=vV G (F.getD t .undef):=by
 simp only [List.getD,dG];cases F[t]?<;>simp [vV]
theorem qH (F:List EV) (t:Nat) (v:EV):vVs G (F.set t v)=(vVs G F).set t (vV G v):=by simp only [Q5,List.map_set]
theorem Yn (a b:EB):vB G (E6 a b)=(vB G a&&vB G b):=by
 unfold E6;split
 ·simp [vB]
 ·simp [vB]
 ·split
  ·simp [vB]
  ·simp [vB]
  ·simp [vB]
theorem Cj (a:EB):vB G (Ep a)=!(vB G a):=by
 unfold Ep;split<;>simp [vB]
theorem kZ (a b:EB):vB G (kF a b)=(vB G a==vB G b):=by
 unfold kF;split<;>simp [vB,Cj]
theorem W1 (o:BinOp) (a b:EI):vB G (H8 o a b)=Sp o (vI G a) (vI G b):=by
 unfold H8;split<;>simp [vB,vI]
theorem Ra (o:BinOp) (k:IntKind) (a b:EI):vI G (Dn o k a b)=Zy o k (vI G a) (vI G b):=by
 unfold Dn;split<;>simp [vI]
theorem wT (k:IntKind) (a:EI):vI G (mX k a)=k.wrap (vI G a):=by
 unfold mX;split<;>simp [vI]
theorem aD2 (k:IntKind) (a:EI):vI G (uU k a)=k.wrap (0 - vI G a):=by
 unfold uU;split<;>simp [vI]
theorem aD3 (k:IntKind) (a:EI):vI G (uV k a)=Ze k (vI G a):=by
 unfold uV;split<;>simp [vI]
theorem At (n:EN):vI G (Dm n)=(vN G n:Int):=by
 unfold Dm;split<;>simp [vI,vN]
theorem Ch (n:EI):vN G (Bb n)=(vI G n).toNat:=by
 unfold Bb;split<;>simp [vI,vN]
theorem L3 (a b:EN):vN G (O7 a b)=vN G a+vN G b:=by
 unfold O7;split<;>simp [vN];omega
theorem P8 (a:EN) (z:Nat):vN G (T5 a z)=vN G a*z:=by
 unfold T5;split
 ·simp
 ·split<;>simp [vN]
theorem It (a:EN) (z:Nat):vN G (T5 a z)=Uy (vN G a) z:=by
 rw [P8];unfold Uy;split<;>simp
theorem aD1 (a b:EN):vN G (uT a b)=vN G a - vN G b:=by
 unfold uT;split<;>simp [vN]
theorem B2 {x y:Nat}:leB x y=true↔x≤y:=by unfold leB;exact decide_eq_true_iff
theorem O4 (a b:EN):vB G (V0 a b)=leB (vN G a) (vN G b):=by
 unfold V0;split
 ·simp only [vB,vN];rename_i x y;cases hb:x.ble y with
  | true=>exact (B2.2 (rR hb)).symm
  | false=>
   cases hl:leB x y with
   | false=>rfl
   | true=>rw [Nat.ble_eq_true_of_le (B2.1 hl)] at hb;simp at hb
 ·simp only [vB,vN];exact (B2.2 (zA2 _)).symm
 ·simp only [vB]
theorem kY (a b:EN):vB G (kE a b)=Nat.beq (vN G a) (vN G b):=by
 unfold kE;split<;>simp [vB,vN]
theorem kX (a b:ES):vB G (bE a b)=(vS G a==vS G b):=by
 unfold bE;split<;>simp [vB,vS]
theorem aD0 (a b:ES):vS G (uW a b)=vS G a++vS G b:=by
 unfold uW;split<;>simp [vS]
theorem Cg (s:ES):vN G (Il s)=(vS G s).length:=by
 unfold Il;split<;>simp [vS,vN]
theorem W0 (l:EL):vN G (Bc l)=(vL G l).length:=by
 unfold Bc;split<;>simp [vN,vL,P6,B3]
theorem Tw {cs:List AV} {o:Nat} {v:AV} (h:∀ l,v≠.agg l):E2 cs o v=cs.set o v:=by
 unfold E2;split
 ·rename_i l;exact absurd rfl (h l)
 ·rfl
theorem wS {v:EV} {l:List AV} (h:vV G v=.agg l):∃ d,v=.agg d∧vL G d=l:=by
 cases v<;>simp [vV] at h;exact ⟨_,rfl,h⟩
theorem Ln (l:EL) (o:EN) (v:EV):vL G (Rv l o v)=E2 (vL G l) (vN G o) (vV G v):=by
 unfold Rv;split
 ·split
  ·simp only [vL,vN,vV,E2,gS,Q5,List.map_append,List.map_take,List.map_drop,List.length_map]
  ·simp only [vL,vN,vV]
  ·rename_i cs n v h1 h2;rw [Tw]
   ·simp only [vL,qH,vN]
   ·intro l he;obtain ⟨d,rfl,_⟩:=wS he;exact h2 d rfl
 ·simp only [vL]
theorem Ci (l:EL) (o n:EN):vL G (Gl l o n)=((vL G l).drop (vN G o)).take (vN G n):=by
 unfold Gl;split<;>simp [vL,vN,A9,Q5,List.map_take,List.map_drop]
theorem gK (a b:EL):vL G (bG a b)=vL G a++vL G b:=by
 unfold bG;split<;>simp [vL,Qz,vVs]
theorem aC (s:ES):vL G (Wz s)=(vS G s).map fun b=>.int .u8 b.toNat:=by
 unfold Wz;split
 ·simp only [vL,Q5,List.map_map,vS];congr 1
 ·simp only [vL,B3]
theorem Ym (n:EN) (l:EL):vL G (bD n l)=(List.replicate (vN G n) (vL G l)).flatten:=by
 unfold bD;split
 ·simp only [vL,Q5,vN,List.map_flatten,List.map_replicate]
 ·simp only [vL,repL]
theorem notAgg {v:EV} (h:nN v=false):∀ l,vV G v≠.agg l:=by
 intro l he;obtain ⟨d,rfl,_⟩:=wS he;simp [nN] at h
theorem Nu {o:EN} {n:Nat} (h:Zc o=some n):o=.lit n:=by
 unfold Zc at h;split at h
 ·simp at h;rw [h]
 ·simp at h
theorem Ro:∀ (l:EL) (n:Nat) (c:EB) (v:EV),Ay l n=some (c,v)→vB G c=true→(vL G l)[n]?=some (vV G v)
 | .of cs,n,c,v,h,_=>by
  simp only [Ay] at h;split at h
  ·rename_i w hn;simp only [zK,yN] at h;obtain ⟨_,rfl⟩:=h;simp only [vL,dG,hn,Option.map_some]
  ·simp at h
 | .set l o w,n,c,v,h,hc=>by
  simp only [Ay] at h;split at h
  ·rename_i m ho ha
   have:=Nu ho;subst this
   have hs:vL G (.set l (.lit m) w)=(vL G l).set m (vV G w):=by
    simp only [vL,vN];exact Tw (notAgg ha)
   rw [hs];split at h
   ·rename_i hm;have hm:=yV hm;subst hm;simp only [zK,yN] at h;obtain ⟨rfl,rfl⟩:=h;rw [O4,W0] at hc;have hc:m+1≤(vL G l).length:=B2.1 hc;rw [List.getElem?_set_self (by omega)]
   ·rename_i hm;have hne:m≠n:=fun he=>by rw [he] at hm;simp at hm
    rw [List.getElem?_set_ne hne];exact Ro l n c v h hc
  ·simp at h
 | .var ..,_,_,_,h,_=>by simp [Ay] at h
 | .ro ..,_,_,_,h,_=>by simp [Ay] at h
 | .app ..,_,_,_,h,_=>by simp [Ay] at h
 | .sub ..,_,_,_,h,_=>by simp [Ay] at h
 | .bytes ..,_,_,_,h,_=>by simp [Ay] at h
 | .rep ..,_,_,_,h,_=>by simp [Ay] at h
 | .uf ..,_,_,_,h,_=>by simp [Ay] at h
theorem rdI_ok {k:IntKind} {l:EL} {o:EN} {c:EB} {e:EI} (h:rdI k l o=some (c,e)) (hc:vB G c=true):isI k (vL G l) (vN G o)=true∧A1 (vL G l) (vN G o)=vI G e:=by
 have gen:some (EB.isI k l o,EI.get l o)=some (c,e)→isI k (vL G l) (vN G o)=true∧A1 (vL G l) (vN G o)=vI G e:=fun h=>by
  simp only [zK,yN] at h;obtain ⟨rfl,rfl⟩:=h;exact ⟨by simpa only [vB] using hc,by simp only [vI]⟩
 unfold rdI at h;split at h
 ·rename_i n ho
  have:=Nu ho;subst this
  split at h
  ·rename_i c' k' e' hr;split at h
   ·rename_i hk;subst hk;simp only [zK,yN] at h;obtain ⟨rfl,rfl⟩:=h
    have:=Ro l n _ _ hr hc
    simp only [vV] at this;simp [isI,A1,vN,this]
   ·simp at h
  ·simp at h
  ·exact gen h
 ·exact gen h
theorem rdB_ok {l:EL} {o:EN} {c:EB} {e:EB} (h:rdB l o=some (c,e)) (hc:vB G c=true):isB (vL G l) (vN G o)=true∧E1 (vL G l) (vN G o)=vB G e:=by
 have gen:some (EB.isB l o,EB.get l o)=some (c,e)→isB (vL G l) (vN G o)=true∧E1 (vL G l) (vN G o)=vB G e:=fun h=>by
  simp only [zK,yN] at h;obtain ⟨rfl,rfl⟩:=h;exact ⟨by simpa only [vB] using hc,by simp only [vB]⟩
 unfold rdB at h;split at h
 ·rename_i n ho
  have:=Nu ho;subst this
  split at h
  ·rename_i c' e' hr;simp only [zK,yN] at h;obtain ⟨rfl,rfl⟩:=h
   have:=Ro l n _ _ hr hc
   simp only [vV] at this;simp [isB,E1,vN,this]
  ·simp at h
  ·exact gen h
 ·exact gen h
theorem vV_dCell (v:Value):vV G (kK v)=Y4 v:=by
 unfold kK Y4
 split<;>simp [vV,vB,vI,vS]
theorem qI (v:Value):vV G (vO v)=D5 v:=by
 unfold vO D5;split
 ·simp only [vV,vL,Q5,List.map_map];congr 2;funext x;exact vV_dCell x
 ·rename_i h;cases v<;>first | exact vV_dCell _ | exact absurd rfl (h _)
theorem vV_evD (F:DFr) (x:Operand):vV G (evD F x)=ev (vVs G F) x:=by
 cases x with
 | tmp t=>simp only [evD,Ff,ev,Z2]
 | const v=>simp only [evD,ev,qI]
 | global g=>simp only [evD,ev,vV]
 | func f=>simp only [evD,ev,vV,vVs]
def Wo (G:Nat→List AV) (o:Option (EB×EV)) (p:Option (Bool×AV)):Prop:=∀ c v,o=some (c,v)→vB G c=true→p=some (true,vV G v)
theorem Wo.none {p:Option (Bool×AV)}:Wo G none p:=fun c v h=>by simp at h
theorem Wo.some {c:EB} {v:EV} {p:Option (Bool×AV)} (h:vB G c=true→p=some (true,vV G v)):Wo G (some (c,v)) p:=fun c' v' he hc=>by
 simp only [zK,yN] at he;obtain ⟨rfl,rfl⟩:=he;exact h hc
theorem aB2 {op:BinOp} {k:IntKind} {x y:EI}:Wo G (binIntD op k x y) (Vu op k (vI G x) (vI G y)):=by
 have nz:vB G (Ep (H8 .eql y (.lit 0)))=true→(!(vI G y==0))=true:=fun h=>by
  simpa only [Cj,W1,Sp,vI] using h
 cases op<;>simp only [binIntD,Vu]<;>first
  | exact Wo.none
  | (refine Wo.some fun hc=>?_;rw [nz hc];simp only [vV,Ra,Zy];done)
  | (refine Wo.some fun hc=>?_;simp only [vV,Ra,Zy,Cj,W1,Sp];done)
  | (refine Wo.some fun hc=>?_;simp only [vV,Ra,Zy,Cj,W1,Sp];rfl)
theorem Yh {op:BinOp} {k:IntKind} {x y:EI}:Wo G (Vt op k x y) (Mw op k (vI G x) (vI G y)):=by
 have nz:vB G (H8 .leq (.lit 0) y)=true→decide (0≤vI G y)=true:=fun h=>by
  rw [W1] at h;exact yM (yL h)
 cases op<;>simp only [Vt,Mw]<;>first
  | exact Wo.none
  | (refine Wo.some fun hc=>?_;rw [nz hc];simp only [vV,Ra,Zy];done)
theorem aB1 {op:BinOp} {x y:ES}:Wo G (fZ op x y) (Vs op (vS G x) (vS G y)):=by
  cases op<;>simp only [fZ,Vs]<;>first
    | exact Wo.none
    | (refine Wo.some fun hc => ?_
       rw [O4,L3,Cg,Cg] at hc;simp only [vV,aD0,zK,yN,and_true]
       exact hc)
    | (refine Wo.some fun hc=>?_;simp only [vV,kX,Cj];done)
theorem Fz {op:BinOp} {c:Bool} {b:EB}:Wo G (Io op c b) (Fg op c (vB G b)):=by
 cases op<;>simp only [Io,Fg]<;>first
  | exact Wo.none
  | (refine Wo.some fun hc=>?_;simp only [vB] at hc;subst hc;simp only [vV,Cj];done)
def We (G:Nat→List AV) (o:Option (EB×EB)) (p:Option (Bool×Bool)):Prop:=∀ c b,o=some (c,b)→vB G c=true→p=some (true,vB G b)
theorem Fu {P:Program} {t:TypeId} {l:EL} {o:EN}:Wo G (Eo P t l o) (U9 P t (vL G l) (vN G o)):=by
 have agg:∀ z,vB G (V0 (O7 o (.lit z)) (Bc l))=true→decide (vN G o+z≤(vL G l).length)=true:=fun z h=>by
  rw [O4,L3,W0] at h;exact h
 have any:∀ n,Zc o=some n→∀ c v,Ay l n=some (c,v)→vB G c=true→(match (vL G l)[vN G o]? with | some v=>some (true,v) | none=>none)=some (true,vV G v):=fun n ho c v h hc=>by
  have:=Nu ho;subst this
  have:=Ro l n c v h hc
  simp only [vN,this]
 intro c v h hc;unfold Eo at h;unfold U9;split at h
 ·rename_i k hu;simp only [hu];split at h
  ·rename_i c' e hr;simp only [zK,yN] at h;obtain ⟨rfl,rfl⟩:=h;obtain ⟨h1,h2⟩:=rdI_ok hr hc;simp only [h1,h2,vV]
  ·simp at h
 ·rename_i hu;simp only [hu];split at h
  ·rename_i c' e hr;simp only [zK,yN] at h;obtain ⟨rfl,rfl⟩:=h;obtain ⟨h1,h2⟩:=rdB_ok hr hc;simp only [h1,h2,vV]
  ·simp at h
 ·rename_i fs hu;simp only [hu];split at h
  ·rename_i z hz;simp only [zK,yN] at h;obtain ⟨rfl,rfl⟩:=h;simp only [hz,agg z hc,vV,Ci,vN]
  ·simp at h
 ·rename_i n e hu;simp only [hu];split at h
  ·rename_i z hz;simp only [zK,yN] at h;obtain ⟨rfl,rfl⟩:=h;simp only [hz,agg z hc,vV,Ci,vN]
  ·simp at h
 ·rename_i d h1 h2 h3 h4 hu;simp only [hu];split at h
  ·rename_i n ho
   have:=any n ho c v h hc
   cases d<;>first
    | exact this
    | exact absurd hu (h1 _)
    | exact absurd hu h2
    | exact absurd hu (h3 _)
    | exact absurd hu (h4 _ _)
  ·simp at h
 ·simp at h
end
section
variable {G:Nat→List AV}
theorem P3 {a b:Bool} (h:(a&&b)=true):a=true∧b=true:=by simpa using h
theorem C3 {a b:EB} (h:vB G (E6 a b)=true):vB G a=true∧vB G b=true:=by
 rw [Yn] at h;exact P3 h
theorem fT {P:Program} {recD:TypeId→EV→EV→Option (EB×EB)} {rec:TypeId→AV→AV→Option (Bool×Bool)} (hr:∀ t x y,We G (recD t x y) (rec t (vV G x) (vV G y))) {xs ys:EL} :
    ∀ fs,We G (Xl P recD xs ys fs) (Sl P rec (vL G xs) (vL G ys) fs)
  | [] => fun c b h _ => by
    simp only [Xl,zK,yN] at h;obtain ⟨rfl,rfl⟩:=h;simp only [Sl,vB]
  | f::fs=>fun c b h hc=>by
    unfold Xl at h;unfold Sl;split at h
    · rename_i hn;rw [if_pos hn];split at h
      · rename_i c1 a c2 b' h1 h2;split at h
        · rename_i c3 r c4 s h3 h4;simp only [zK,yN] at h;obtain ⟨rfl,rfl⟩:=h;obtain ⟨g1,hc⟩:=C3 hc;obtain ⟨g2,hc⟩:=C3 hc;obtain ⟨g3,g4⟩:=C3 hc;have e1:=Fu _ _ h1 g1;have e2:=Fu _ _ h2 g2;have e3:=hr _ _ _ _ _ h3 g3;have e4:=fT hr fs _ _ h4 g4;simp only [vN] at e1 e2;simp only [e1,e2,e3,e4,Yn,Bool.and_self]
        · simp at h
      · simp at h
    · rename_i hn;rw [if_neg hn];exact fT hr fs _ _ h hc
theorem sS {P:Program} {recD:TypeId→EV→EV→Option (EB×EB)} {rec:TypeId→AV→AV→Option (Bool×Bool)} (hr:∀ t x y,We G (recD t x y) (rec t (vV G x) (vV G y))) {e:TypeId} {z:Nat} {xs ys:EL} :
  ∀ is,We G (cD P recD e z xs ys is) (Vl P rec e z (vL G xs) (vL G ys) is)
 | []=>fun c b h _=>by
  simp only [cD,zK,yN] at h;obtain ⟨rfl,rfl⟩:=h;simp only [Vl,vB]
 | i::is=>fun c b h hc=>by
  unfold cD at h;unfold Vl;split at h
  ·rename_i c1 a c2 b' h1 h2;split at h
   ·rename_i c3 r c4 s h3 h4;simp only [zK,yN] at h;obtain ⟨rfl,rfl⟩:=h;obtain ⟨g1,hc⟩:=C3 hc;obtain ⟨g2,hc⟩:=C3 hc;obtain ⟨g3,g4⟩:=C3 hc;have e1:=Fu _ _ h1 g1;have e2:=Fu _ _ h2 g2;have e3:=hr _ _ _ _ _ h3 g3;have e4:=sS hr is _ _ h4 g4;simp only [vN] at e1 e2;simp only [e1,e2,e3,e4,Yn,Bool.and_self]
   ·simp at h
  ·simp at h
theorem oM {P:Program}:∀ n t x y,We G (fS P n t x y) (Ti P n t (vV G x) (vV G y))
 | 0,t,x,y=>fun c b h=>by simp [fS] at h
 | n+1,t,x,y=>fun c b h hc=>by
  unfold fS at h;unfold Ti;split at h
  ·rename_i k hu;simp only [hu];split at h
   ·split at h
    ·rename_i hk;subst hk;simp only [zK,yN] at h;obtain ⟨rfl,rfl⟩:=h;simp only [vV,W1,Sp,decide_true]
    ·simp at h
   ·simp at h
  ·rename_i hu;simp only [hu];split at h
   ·simp only [zK,yN] at h;obtain ⟨rfl,rfl⟩:=h;simp only [vV,kZ]
   ·simp at h
  ·rename_i hu;simp only [hu];split at h
   ·simp only [zK,yN] at h;obtain ⟨rfl,rfl⟩:=h;simp only [vV,kX]
   ·simp at h
  ·rename_i fs hu;simp only [hu];split at h
   ·split at h
    ·simp at h
    ·rename_i hs;simp only [vV,hs];exact fT (fun t x y=>oM n t x y) _ _ _ h hc
   ·simp at h
  ·rename_i m e hu;simp only [hu];split at h
   ·split at h
    ·rename_i z hz;simp only [vV,hz];exact sS (fun t x y=>oM n t x y) _ _ _ h hc
    ·simp at h
   ·simp at h
  ·simp at h
theorem zY {P:Program} {t:TypeId} {xs ys:EL}:We G (eqAD P t xs ys) (Ti P 10 t (.agg (vL G xs)) (.agg (vL G ys))):=by
 intro c b h hc;unfold eqAD at h;split at h
 ·have:=oM 10 t (.agg xs) (.agg ys) c b h hc
  simpa only [vV] using this
 ·simp only [zK,yN] at h;obtain ⟨rfl,rfl⟩:=h;simp only [vB,vVs,vV,eqA1] at hc;simp only [vB,vVs,vV,eqA2];split at hc
  ·rename_i c' b' he;simp only [he,hc]
  ·simp at hc
theorem bin_wo {P:Program} {op:BinOp} {t:TypeId} {x y:EV}:Wo G (binD P op t x y) (T8 P op t (vV G x) (vV G y)):=by
 intro c v h hc;unfold binD at h;split at h
 ·rename_i k a k' b;split at h
  ·simp only [vV,T8];exact Yh _ _ h hc
  ·simp only [vV,T8];exact Yh _ _ h hc
  ·rename_i h1 h2;split at h
   ·rename_i hk;subst hk
    have:=aB2 _ _ h hc
    simp only [vV,T8]
    cases op<;>first
     | exact absurd rfl h1
     | exact absurd rfl h2
     | (rw [if_pos trivial];exact this)
     | (rw [if_pos rfl];exact this)
   ·simp at h
 ·simp only [vV,T8];exact aB1 _ _ h hc
 ·have:=Fz _ _ h hc
  simp only [vV,T8];rw [kZ] at this;exact this
 ·simp only [vV,T8];exact Fz _ _ h hc
 ·simp only [vV,T8];exact Fz _ _ h hc
 ·simp only [vV,T8];exact Fz _ _ h hc
 ·simp only [vV,T8];exact Fz _ _ h hc
 ·simp only [vV,T8];exact Fz _ _ h hc
 ·simp only [vV,T8];exact Fz _ _ h hc
 ·simp only [vV,T8];exact Fz _ _ h hc
 ·rename_i xs ys;simp only [vV,T8];split at h
  ·simp at h
  ·rename_i hg;simp only [hg];split at h
   ·rename_i c' b he;split at h
    ·simp only [zK,yN] at h;obtain ⟨rfl,rfl⟩:=h;simp only [zY _ _ he hc,Fg,vV]
    ·simp only [zK,yN] at h;obtain ⟨rfl,rfl⟩:=h;simp only [zY _ _ he hc,Fg,vV,Cj]
    ·simp at h
   ·simp at h
 ·simp at h
theorem un_wo {op:UnOp} {x:EV}:Wo G (unD op x) (lA op (vV G x)):=by
 intro c v h hc;unfold unD at h
 split at h<;>first
  | (simp only [zK,yN] at h;obtain ⟨rfl,rfl⟩:=h;simp only [vV,lA,aD2,aD3,Cj];done)
  | (simp at h;done)
theorem bA2 {P:Program} {s d:TypeId} {x:EV}:Wo G (vQ P s d x) (Qr P s d (vV G x)):=by
 intro c v h hc;unfold vQ at h;split at h
 ·rename_i h1 h2;simp only [zK,yN] at h;obtain ⟨rfl,rfl⟩:=h;simp only [vV,Qr,h1,h2,wT]
 ·rename_i h1 h2;simp only [zK,yN] at h;obtain ⟨rfl,rfl⟩:=h;simp only [vV,Qr,h1,h2]
 ·simp at h
theorem aL3 {P:Program} {s:TypeId} {x:EV} {f:Nat}:Wo G (oI P s x f) (Qo P s (vV G x) f):=by
 intro c v h hc;unfold oI at h;split at h
 ·rename_i fs r off hu;simp only [vV,Qo,hu];split at h
  ·rename_i fd hf;simp only [hf];split at h
   ·simp at h
   ·rename_i z h0 hz;simp only [zK,yN] at h;obtain ⟨rfl,rfl⟩:=h;simp only [hz];cases z with
    | zero=>exact absurd rfl h0
    | succ z=>simp only [vV,L3,vN]
   ·simp at h
  ·simp at h
 ·simp at h
theorem bL {P:Bool} {i l:EI} {z:Int} (hz:vI G l=z) (h:vB G (E6 (H8 .leq (.lit 0) i) (H8 .lss i l))=true):(decide (0≤vI G i)&&decide (vI G i<z))=true:=by
 obtain ⟨h1,h2⟩:=C3 h;rw [W1] at h1 h2;rw [hz] at h2;simp only [vI] at h1;rw [zN];exact ⟨yM (yL h1),yM (yL h2)⟩
theorem aK7 {P:Program} {t:TypeId} {x i:EV}:Wo G (nP P t x i) (Ld P t (vV G x) (vV G i)):=by
 intro c v h hc;unfold nP at h;split at h
 ·split at h
  ·rename_i len e r off hu;simp only [vV,Ld,hu];split at h
   ·rename_i z hz;simp only [zK,yN] at h;obtain ⟨rfl,rfl⟩:=h;simp only [hz,bL (P:=true) (z:=len) (by simp only [vI]) hc,vV,L3,It,Ch]
   ·simp at h
  ·rename_i e mb r off len hu;simp only [vV,Ld,hu];split at h
   ·rename_i z hz;simp only [zK,yN] at h;obtain ⟨rfl,rfl⟩:=h;simp only [hz,bL (P:=true) (z:=(vN G len:Int)) (At _) hc,vV,L3,It,Ch]
   ·simp at h
  ·simp at h
 ·simp at h
theorem Id {x:Option EV} {d:EI} {e:EI} (h:Jl x d=some e):X8 (x.map (vV G)) (vI G d)=some (vI G e):=by
 unfold Jl at h;split at h
 ·simp at h;subst h;rfl
 ·simp at h;subst h;simp only [Option.map_some,vV,X8]
 ·simp at h
theorem Zd {a b c:EI} {z:Int} (hz:vI G c=z) (h:vB G (E6 (H8 .leq (.lit 0) a) (E6 (H8 .leq a b) (H8 .leq b c)))=true):(decide (0≤vI G a)&&(decide (vI G a≤vI G b)&&decide (vI G b≤z)))=true:=by
 obtain ⟨h1,h⟩:=C3 h;obtain ⟨h2,h3⟩:=C3 h;rw [W1] at h1 h2 h3;rw [hz] at h3;simp only [vI] at h1;rw [zN,zN];exact ⟨yM (yL h1),yM (yL h2),yM (yL h3)⟩
theorem aF2 {P:Program} {t:TypeId} {x:EV} {lo hi:Option EV}:Wo G (lO P t x lo hi) (Hl P t (vV G x) (lo.map (vV G)) (hi.map (vV G))):=by
 intro c v h hc;unfold lO at h;split at h
 ·rename_i e mb r off len hu;simp only [vV,Hl,hu];split at h
  ·rename_i z l hh hz hl hh';simp only [zK,yN] at h;obtain ⟨rfl,rfl⟩:=h;have e1:=Id (G:=G) hl;have e2:=Id (G:=G) hh';rw [At] at e2;simp only [vI] at e1;simp only [hz,e1,e2,Zd (z:=(vN G len:Int)) (At _) hc,vV,L3,It,Ch,aD1]
  ·simp at h
 ·rename_i e hu;simp only [vV,Hl,hu];split at h
  ·rename_i z l hh hz hl hh';simp only [zK,yN] at h;obtain ⟨rfl,rfl⟩:=h;have e1:=Id (G:=G) hl;have e2:=Id (G:=G) hh';simp only [vI] at e1 e2;simp only [hz,e1,e2,Zd (z:=0) (by simp only [vI]) hc,vV]
  ·simp at h
 ·rename_i s hu;simp only [vV,Hl,hu];split at h
  ·rename_i l hh hl hh';simp only [zK,yN] at h;obtain ⟨rfl,rfl⟩:=h;have e1:=Id (G:=G) hl;have e2:=Id (G:=G) hh';rw [At,Cg] at e2;simp only [vI] at e1;simp only [e1,e2,Zd (z:=((vS G s).length:Int)) (by rw [At,Cg]) hc,vV,vS,Ch]
  ·simp at h
 ·simp at h
theorem Y1 (v:EV):vL G (Z5 v)=B8 (vV G v):=by
 unfold Z5 B8;cases v<;>simp [vL,vVs,vV]
theorem nI {v:EV} (h:bO v=true):Gn (vV G v)=true:=by
 cases v<;>simp [bO] at h<;>simp [vV,Gn]
theorem isCell_ok (v:EV):isCell (vV G v)=Xc v:=by
 cases v<;>simp [vV,isCell,Xc]
theorem Sw (l:EL):vB G (My l)=(vL G l).all isCell:=by
 unfold My;split
 ·simp only [vB,vL,Q5,List.all_map];congr 1;funext x;simp [isCell_ok]
 ·simp only [vB,cellsB]
 ·simp only [vB,cellsB]
theorem Vf (v:EV):vB G (Km v)=true→(B8 (vV G v)).all isCell=true:=by
 intro h;unfold Km at h;split at h
 ·rw [Sw] at h;simpa only [vV,B8] using h
 ·rename_i hn;simp only [vB] at h
  have:B8 (vV G v)=[vV G v]:=by
   cases v<;>simp [vV,B8];exact absurd rfl (hn _)
  rw [this];simp [isCell_ok,h]
theorem Iy {v:EV} {z:Nat} (h:vB G (Pk v z)=true):O9 (vV G v)=z:=by
 unfold Pk at h;split at h
 ·rw [kY,W0] at h;simp only [vN] at h;simp only [vV,O9];exact yV h
 ·rename_i hn;simp only [vB] at h
  have:=yV h
  subst this;cases v<;>simp [vV,O9];exact absurd rfl (hn _)
theorem Xg {place:Nat→Option (Nat×Nat)}:∀ (parts:List (Nat×EV)) (cells:EL) (c:EB) (r:EL),Si place cells parts=some (c,r)→vB G c=true→
  Cy place (vL G cells) (parts.map fun p=>(p.1,vV G p.2))=some (true,vL G r)
 | [],cells,c,r,h,_=>by
  simp only [Si,zK,yN] at h;obtain ⟨rfl,rfl⟩:=h;simp only [List.map_nil,Cy]
 | (i,v)::rest,cells,c,r,h,hc=>by
  unfold Si at h;simp only [List.map_cons,Cy];split at h
  ·simp at h
  ·rename_i off size hp;simp only [hp];split at h
   ·simp at h
   ·rename_i c' r' hf;split at h
    ·rename_i hk;simp only [zK,yN] at h;obtain ⟨rfl,rfl⟩:=h;obtain ⟨g1,hc⟩:=C3 hc;obtain ⟨g2,g3⟩:=C3 hc
     have:=Xg rest _ _ _ hf g3
     rw [Ln] at this;simp only [vN] at this;rw [O4,W0] at g2;simp only [vN] at g2;have e1:=Iy g1;have e2:decide (off+size≤(vL G cells).length)=true:=g2;simp only [this,nI hk,e1,e2,beq_self_eq_true,Bool.and_self]
    ·simp at h
theorem Fm {P:Program} {t:TypeId} {z:EV} (h:Jz P t=some z):Y0 P t=some (vV G z):=by
 unfold Jz at h;unfold Y0;split at h
 ·rename_i i hi;simp only [hi];split at h
  ·rename_i z' hz;simp at h;subst h;simp only [hz,qI]
  ·simp at h
 ·simp at h
theorem aN2 {P:Program} {t:TypeId} {parts:List (Nat×EV)}:Wo G (oX P t parts) (Lk P t (parts.map fun p=>(p.1,vV G p.2))):=by
 intro c v h hc;unfold oX at h;split at h
 ·rename_i fs z hu hz;have hz:=Fm (G:=G) hz;simp only [vV] at hz;simp only [Lk,hu,hz];split at h
  ·rename_i ps hps;simp only [hps];split at h
   ·rename_i c' cs hf;simp only [zK,yN] at h;obtain ⟨rfl,rfl⟩:=h;simp only [Xg _ _ _ _ hf hc,vV]
   ·simp at h
  ·simp at h
 ·rename_i n e z hu hz;have hz:=Fm (G:=G) hz;simp only [vV] at hz;simp only [Lk,hu,hz];split at h
  ·rename_i n hn;simp only [hn];split at h
   ·rename_i c' cs hf;simp only [zK,yN] at h;obtain ⟨rfl,rfl⟩:=h;simp only [Xg _ _ _ _ hf hc,vV]
   ·simp at h
  ·simp at h
 ·simp at h
theorem len_wo {P:Program} {t:TypeId} {x:EV}:Wo G (lenD P t x) (Nv P t (vV G x)):=by
 intro c v h hc;unfold lenD at h;split at h
 ·rename_i s hu;simp only [zK,yN] at h;obtain ⟨rfl,rfl⟩:=h;simp only [vV,Nv,hu,At,Cg]
 ·rename_i n e hu;simp only [zK,yN] at h;obtain ⟨rfl,rfl⟩:=h;simp only [Nv,hu,vV,vI]
 ·rename_i e mb r o n hu;simp only [zK,yN] at h;obtain ⟨rfl,rfl⟩:=h;simp only [vV,Nv,hu,At]
 ·rename_i e hu;simp only [zK,yN] at h;obtain ⟨rfl,rfl⟩:=h;simp only [vV,Nv,hu,vI]
 ·simp at h
theorem cap_wo {P:Program} {t:TypeId} {x:EV}:Wo G (capD P t x) (cL P t (vV G x)):=by
 intro c v h hc;unfold capD at h;split at h
 ·rename_i e hu;simp only [zK,yN] at h;obtain ⟨rfl,rfl⟩:=h;simp only [vV,cL,hu,vI]
 ·simp at h
theorem max_wo {x y:EV}:Wo G (maxD x y) (bI (vV G x) (vV G y)):=by
 intro c v h hc;unfold maxD at h;split at h
 ·split at h
  ·rename_i hk;subst hk;simp only [zK,yN] at h;obtain ⟨rfl,rfl⟩:=h;simp only [vV,bI,if_pos,vI]
  ·simp at h
 ·simp at h
theorem min_wo {x y:EV}:Wo G (minD x y) (bH (vV G x) (vV G y)):=by
 intro c v h hc;unfold minD at h;split at h
 ·split at h
  ·rename_i hk;subst hk;simp only [zK,yN] at h;obtain ⟨rfl,rfl⟩:=h;simp only [vV,bH,if_pos,vI]
  ·simp at h
 ·simp at h
theorem aW4 {c a b:EV}:Wo G (uR c a b) (Uk (vV G c) (vV G a) (vV G b)):=by
 intro c' v h hc;unfold uR at h
 split at h<;>first
  | (simp only [zK,yN] at h;obtain ⟨rfl,rfl⟩:=h;simp only [vV,vB,Uk];done)
  | (simp at h;done)
theorem pV {x:EV}:Wo G (Uv x) (Kj (vV G x)):=by
 intro c' v h hc;unfold Uv at h
 split at h<;>first
  | (simp only [zK,yN] at h;obtain ⟨rfl,rfl⟩:=h;simp only [vV,Kj];done)
  | (simp at h;done)
theorem yJ {v:EV} {w:AV} (h:vV G v=w):Wo G (some (.lit true,v)) (some (true,w)):=Wo.some fun _=>by rw [h]
theorem nA {F:DFr} (l:List Operand):(l.map (ev (vVs G F)))=vVs G (l.map (evD F)):=by
 rw [Q5 (List.map (evD F) l),List.map_map];congr 1;funext x;simp [vV_evD]
theorem omap_ev {F:DFr} (x:Option Operand):x.map (ev (vVs G F))=(x.map (evD F)).map (vV G):=by
 cases x<;>simp [vV_evD]
theorem eK {P:Program} {F:DFr} {op:Op}:Wo G (kB P F op) (F8 P (vVs G F) op):=by
 intro c v h hc;unfold kB at h;split at h
 ·exact yJ (vV_evD F _) _ _ h hc
 ·exact yJ (vV_evD F _) _ _ h hc
 ·simp only [F8,←vV_evD];exact aW4 _ _ h hc
 ·simp only [F8,←vV_evD];exact pV _ _ h hc
 ·simp only [F8,←vV_evD];exact bin_wo _ _ h hc
 ·simp only [F8,←vV_evD];exact un_wo _ _ h hc
 ·simp only [F8,←vV_evD];exact bA2 _ _ h hc
 ·simp only [F8,←vV_evD];exact aL3 _ _ h hc
 ·simp only [F8,←vV_evD];exact aK7 _ _ h hc
 ·simp only [F8,←vV_evD,omap_ev];exact aF2 _ _ h hc
 ·rename_i t parts;simp only [F8]
  have:=aN2 _ _ h hc
  rw [List.map_map] at this;rw [←this];congr 1;refine List.map_congr_left fun p _=>?_;simp [vV_evD]
 ·simp only [F8,←vV_evD];split at h
  ·rename_i vs he;split at h
   ·rename_i v' hv;simp only [zK,yN] at h;obtain ⟨rfl,rfl⟩:=h;simp only [he,vV,dG,hv,Option.map_some]
   ·simp at h
  ·simp at h
 ·rename_i f first cap;simp only [F8];split at h
  ·rename_i h0;simp only [zK,yN] at h;obtain ⟨rfl,rfl⟩:=h;rw [if_pos h0,nA];simp only [vV]
  ·simp at h
 ·simp only [F8];split at h
  ·rename_i x t h1 h2;simp only [h1,h2,←vV_evD];exact len_wo _ _ h hc
  ·simp at h
 ·simp only [F8];split at h
  ·rename_i x t h1 h2;simp only [h1,h2,←vV_evD];exact cap_wo _ _ h hc
  ·simp at h
 ·simp only [F8];split at h
  ·rename_i x y h1;simp only [h1,←vV_evD];exact max_wo _ _ h hc
  ·simp at h
 ·simp only [F8];split at h
  ·rename_i x y h1;simp only [h1,←vV_evD];exact min_wo _ _ h hc
  ·simp at h
 ·simp at h
end
section
variable {G:Nat→List AV}
noncomputable def D8 (G:Nat→List AV) (b:Nd):Blk:=⟨b.esz,vL G b.cells⟩
noncomputable def B7 (G:Nat→List AV) (H:DHp):Hp:=H.map (Option.map (D8 G))
noncomputable def J6 (G:Nat→List AV):DHop→Hop
 | .set i b=>.set i (D8 G b)
 | .new b=>.new (D8 G b)
 | .app j b=>.app j (D8 G b)
theorem E3 (H:DHp):(B7 G H).length=H.length:=by simp [B7]
theorem aS5 (H:DHp) (i:Nat):(B7 G H)[i]?=(H[i]?).map (Option.map (D8 G)):=by simp [B7]
theorem I3 {H:DHp} {i:Nat} {b:Nd} (h:H[i]?=some (some b)):(B7 G H)[i]?=some (some (D8 G b)):=by rw [aS5,h];rfl
theorem Rb (H:DHp) (h:DHop):B7 G (h.act H)=(J6 G h).act (B7 G H):=by
 cases h<;>simp [DHop.act,Hop.act,J6,B7,List.map_set]
theorem V5:∀ (hs:List DHop) (H:DHp),B7 G (Gu H hs)=acts (B7 G H) (hs.map (J6 G))
 | [],H=>rfl
 | h::hs,H=>by simp only [Gu,List.map_cons,acts,V5 hs,Rb]
open Classical in
theorem hJ {l ls:List AV}:Nj l ls=true↔∀ v∈ls,v=.agg l:=by unfold Nj;exact decide_eq_true_iff
theorem bZ (z:Nat):∀ (c j:Nat) (H:DHp) (ls:List EV),Br z j H c=some ls→ls.length=c∧∀ i,i<c→∃ l,H[i]?=some (some ⟨z,.row l (.lit (j+i))⟩)∧ls[i]?=some (.agg l)
 | 0,j,H,ls,h=>by
  have:Br z j H 0=some []:=by unfold Br;rfl
  rw [this] at h;simp only [zK] at h;subst h;exact ⟨rfl,fun i hi=>by omega⟩
 | c+1,j,[],ls,h=>by simp [Br] at h
 | c+1,j,none::H,ls,h=>by simp [Br] at h
 | c+1,j,some ⟨z',l0⟩::H,ls,h=>by
  cases l0 with
  | row l k=>cases k with
   | lit i0=>
    simp only [Br] at h;split at h
    ·rename_i hb;split at h
     ·rename_i ls' h1;simp only [zK] at h;subst h;rw [zN] at hb;have e1:=yV hb.1;have e2:=yV hb.2;subst e1;subst e2;obtain ⟨g1,g2⟩:=bZ z c (i0+1) H ls' h1;refine ⟨by simp [g1],fun i hi=>?_⟩;cases i with
      | zero=>exact ⟨l,by simp,by simp⟩
      | succ i=>
       obtain ⟨l2,q1,q2⟩:=g2 i (by omega);exact ⟨l2,by rw [show i0+(i+1)=i0+1+i by omega];simpa using q1,by simpa using q2⟩
     ·simp at h
    ·simp at h
   | _=>simp [Br] at h
  | _=>simp [Br] at h
theorem Zr {H:DHp} {b c z:Nat} {l:EL} {ls:List EV} (h:Xk H b c=some (z,l,ls)):Nat.beq z 4294967291=false∧ls.length=c∧∀ i,i<c→∃ l',H[b+i]?=some (some ⟨z,.row l' (.lit i)⟩)∧ls[i]?=some (.agg l'):=by
 unfold Xk at h;split at h
 ·split at h
  ·simp at h
  ·rename_i hz;split at h
   ·rename_i ls' h1;simp only [zK,yN] at h;obtain ⟨rfl,rfl,rfl⟩:=h;obtain ⟨g1,g2⟩:=bZ _ _ _ _ _ h1;refine ⟨hz,g1,fun i hi=>?_⟩;obtain ⟨l',q1,q2⟩:=g2 i hi;rw [List.getElem?_drop] at q1;exact ⟨l',by simpa using q1,q2⟩
   ·simp at h
 ·simp at h
theorem vVs_get? {ls:List EV} {i:Nat} {x:EV} (h:ls[i]?=some x):(vVs G ls)[i]?=some (vV G x):=by rw [Q5,sH,h];rfl
theorem bY {H:DHp} {b c z:Nat} {l:EL} {ls:List EV} (h:Xk H b c=some (z,l,ls)) (hr:Nj (vL G l) (vVs G ls)=true) {i:Nat} (hi:i<c):(B7 G H)[b+i]?=some (some ⟨z,A4 (vL G l) i⟩):=by
 obtain ⟨_,g1,g2⟩:=Zr h;obtain ⟨l',q1,q2⟩:=g2 i hi;have e:=hJ.1 hr _ (rM (vVs_get? (G:=G) q2));simp only [vV,AV.agg.injEq] at e;rw [I3 q1];simp only [D8,vL,vN,e]
theorem Kt {C:A0} (hG:C.G=G) {H:DHp} {r:ER} {c0:EB} {l:EL} (h:Ic H r=some (c0,l)) (hc:vB G c0=true):H4 C (B7 G H) (vR G r)=some (vL G l):=by
 unfold Ic at h;split at h
 ·split at h
  ·rename_i b hb;split at h
   ·simp at h
   rename_i hr;simp only [zK,yN] at h;obtain ⟨rfl,rfl⟩:=h;have hr:isRec (D8 G b)=false:=hr;simp only [vR,H4,I3 hb,hr];simp only [D8]
  ·simp at h
 ·simp only [zK,yN] at h;obtain ⟨rfl,rfl⟩:=h;simp only [vR,H4,vL,hG]
 ·rename_i b c k;split at h
  ·rename_i z l' ls hf;simp only [zK,yN] at h;obtain ⟨rfl,rfl⟩:=h;obtain ⟨g1,g2⟩:=C3 hc;rw [O4,L3] at g1;simp only [vN] at g1;have g1:=B2.1 g1;simp only [vB] at g2;have hr:isRec ⟨z,A4 (vL G l') (vN G k)⟩=false:=(Zr hf).1;simp only [vR,H4,bY hf g2 (show vN G k<c by omega),hr,vL]
  ·simp at h
theorem aL7 (l:Lf) (cs:EL) (off:EN):vV G (uY l cs off)=Nw l (vL G cs) (vN G off):=by
 cases l<;>simp only [uY,Nw,vV,vI,vB,vS,vR,vN]
theorem Vn (cs:EL):∀ (ls:List Lf) (off:EN),vVs G (Qg cs off ls)=Aj (vL G cs) (vN G off) ls
 | [],off=>by simp only [Qg,Aj,vVs]
 | l::ls,off=>by
  simp only [Qg,Aj,vVs,aL7,Vn cs ls,L3,vN]
theorem aI2 {P:Program} {t:TypeId} {cs:EL} {off:EN}:Wo G (mP P t cs off) (kC P t (vL G cs) (vN G off)):=by
 intro c v h hc;unfold mP at h;unfold kC;split at h
 ·rename_i k hu;simp only [hu];simp only [zK,yN] at h;obtain ⟨rfl,rfl⟩:=h;simp only [vB] at hc;simp only [hc,vV,vI]
 ·rename_i hu;simp only [hu];simp only [zK,yN] at h;obtain ⟨rfl,rfl⟩:=h;simp only [vB] at hc;simp only [hc,vV,vB]
 ·rename_i hu;simp only [hu];simp only [zK,yN] at h;obtain ⟨rfl,rfl⟩:=h;simp only [vB] at hc;simp only [hc,vV,vS]
 ·rename_i e hu;simp only [hu];simp only [zK,yN] at h;obtain ⟨rfl,rfl⟩:=h;simp only [vB] at hc;simp only [hc,vV,vR,vN]
 ·rename_i fs hu;simp only [hu];split at h
  ·rename_i z ls hz hl;simp only [hz,hl];split at h
   ·rename_i hb;simp only [zK,yN] at h;obtain ⟨rfl,rfl⟩:=h;simp only [vB] at hc;simp only [hb,hc,vV,vL,Vn,Bool.and_self]
   ·simp at h
  ·simp at h
 ·rename_i n e hu;simp only [hu];split at h
  ·rename_i z ls hz hl;simp only [hz,hl];split at h
   ·rename_i hb;simp only [zK,yN] at h;obtain ⟨rfl,rfl⟩:=h;simp only [vB] at hc;simp only [hb,hc,vV,vL,Vn,Bool.and_self]
   ·simp at h
  ·simp at h
 ·simp at h
theorem sD {C:A0} (hG:C.G=G) {H:DHp} {t:TypeId} {r:ER} {off:EN}:Wo G (kG C.P H t r off) (Kk C (B7 G H) t (vR G r) (vN G off)):=by
 intro c v h hc;unfold kG at h;unfold Kk;split at h
 ·rename_i c0 cs hcs;split at h
  ·rename_i c1 v1 hp;simp only [zK,yN] at h;obtain ⟨rfl,rfl⟩:=h;obtain ⟨g1,g2⟩:=C3 hc;rw [Kt hG hcs g1];unfold yF at hp;split at hp
   ·simp only [vR,Nr];exact Fu _ _ hp g2
   ·simp only [vR,Nr];exact aI2 _ _ hp g2
   ·simp only [vR,Nr];exact Fu _ _ hp g2
  ·simp at h
 ·simp at h
theorem zG {b c o:Nat} {cs:List AV} (h:Zg b c cs o=true):cs[o]?=some (.slice true (.rw (b+Tg b cs o)) (Ye cs o) (Tf cs o))∧Tg b cs o<c:=by
 unfold Zg at h;split at h
 ·rename_i i f n he;rw [zN] at h;have h1:=rR h.1;have h2:i<b+c:=Nat.blt_eq ▸ h.2;have e1:Tg b cs o=i - b:=by unfold Tg;rw [he]
  have e2:Ye cs o=f:=by unfold Ye;rw [he]
  have e3:Tf cs o=n:=by unfold Tf;rw [he]
  rw [e1,e2,e3,he,show b+(i - b)=i by omega];exact ⟨rfl,by omega⟩
 ·simp at h
theorem zE {b c o:Nat} {cs:List AV} (h:isPA b c cs o=true):cs[o]?=some (.ptr (.rw (b+Tg b cs o)) (Ye cs o))∧Tg b cs o<c:=by
 unfold isPA at h;split at h
 ·rename_i i f he;rw [zN] at h;have h1:=rR h.1;have h2:i<b+c:=Nat.blt_eq ▸ h.2;have e1:Tg b cs o=i - b:=by unfold Tg;rw [he]
  have e2:Ye cs o=f:=by unfold Ye;rw [he]
  rw [e1,e2,he,show b+(i - b)=i by omega];exact ⟨rfl,by omega⟩
 ·simp at h
theorem zD {cs:List AV} {o:Nat} (h:fD cs o=true):cs[o]?=some (.slice true (.ro (C8 cs o)) (E9 cs o) (C7 cs o)):=by
 unfold fD at h;split at h
 ·rename_i k f n he;unfold C8 E9 C7;rw [he]
 ·simp at h
theorem pZ {o:Nat} {cs:List AV} (h:nK cs o=true):cs[o]?=some .nilp:=by
 unfold nK at h;split at h
 ·assumption
 ·simp at h
theorem oK {l:EL} {o:EN} {f:FL} (h:vB G (Xi l o f)=true):(vL G l)[vN G o]?=some (vV G (Xj l o f)):=by
 cases f with
 | int k=>
  simp only [Xi,vB] at h;simp only [Xj,vV,vI];exact Cw h
 | bool=>
  simp only [Xi,vB] at h;simp only [Xj,vV,vB];unfold isB at h;unfold E1;split at h
  ·rename_i b he;rw [he]
  ·simp at h
 | sl b c=>
  cases c with
  | zero=>
   have h:fD (vL G l) ((vN G o:Nat):Int).toNat=true:=h;rw [Int.toNat_natCast] at h;exact zD h
  | succ c=>
   simp only [Xi,vB] at h;simp only [Xj,vV,vR,vN];exact (zG h).1
theorem sQ:∀ (fs:List FL) {l:EL} {o:EN},vB G (kJ l o fs)=true→vVs G (cA l o fs)=((vL G l).drop (vN G o)).take fs.length∧vN G o+fs.length≤max (vN G o) (vL G l).length
 | [],l,o,_=>by simp [cA,vVs];omega
 | f::fs,l,o,h=>by
  simp only [kJ] at h;obtain ⟨h1,h2⟩:=C3 h;have e1:=oK h1;obtain ⟨e2,e3⟩:=sQ fs h2;rw [L3] at e2 e3;simp only [vN] at e2 e3;have hlt:vN G o<(vL G l).length:=(zQ.1 e1).1;refine ⟨?_,by simp only [List.length_cons];omega⟩;simp only [cA,vVs,e2];rw [List.drop_eq_getElem_cons hlt,List.length_cons,List.take_succ_cons];rw [yO hlt] at e1;simp only [zK] at e1;rw [e1]
def WoF (G:Nat→List AV) (x:FamR) (p:Option (Bool×AV)):Prop:=
 match x with
 | .val c v=>vB G c=true→p=some (true,vV G v)
 | .ptr n c v=>(vB G n=true→p=some (true,.nilp))∧(vB G c=true→p=some (true,vV G v))
theorem fP {fam:TypeId→Option (Nat×Nat)} {P:Program} {t:TypeId} {cs:EL} {off:EN} {x:FamR} (h:oJ fam P t cs off=some x):WoF G x (U9 P t (vL G cs) (vN G off)):=by
 unfold oJ at h;split at h
 ·simp at h
 ·rename_i b c hf;split at h
  ·rename_i fs hu;split at h
   ·simp at h
   ·split at h
    ·rename_i z ls hz hl;split at h
     ·rename_i hb;rw [zN] at hb;have hz1:=rR hb.2;have hb:=yV hb.1;simp only [zK] at h;subst h;intro hc;obtain ⟨e1,e2⟩:=sQ ls hc;have hle:vN G off+z≤(vL G cs).length:=by omega
      unfold U9;simp only [hu,hz,vV,vL,e1,hb];rw [yM hle]
     ·simp at h
    ·simp at h
  ·rename_i e hu;split at h
   ·simp at h
   ·simp only [zK] at h;subst h;intro hc
    have:=oK hc
    unfold U9;simp only [hu,this]
  ·rename_i e hu;split at h
   ·simp at h
   ·simp only [zK] at h;subst h;refine ⟨fun hc=>?_,fun hc=>?_⟩
    ·simp only [vB] at hc;unfold U9;simp only [hu,pZ hc]
    ·simp only [vB] at hc;unfold U9;simp only [hu,(zE hc).1,vV,vR,vN]
  ·simp at h
theorem eD {C:A0} (hG:C.G=G) {F:DFr} {H:DHp} {op:Op}:Wo G (jZ C.P F H op) (M5 C (vVs G F) (B7 G H) op):=by
 intro c v h hc;unfold jZ at h;split at h
 ·simp only [M5,←vV_evD];split at h
  ·rename_i r off he;simp only [he,vV];exact sD hG _ _ h hc
  ·simp at h
 ·simp only [M5,←vV_evD];split at h
  ·rename_i fs cs hu he;simp only [hu,he,vV];split at h
   ·rename_i fd hf;simp only [hf]
    have:=Fu _ _ h hc
    simpa only [vN] using this
   ·simp at h
  ·simp at h
 ·simp only [M5,←vV_evD];split at h
  ·rename_i len e cs k i hu he hi;simp only [hu,he,hi,vV];split at h
   ·rename_i z hz;simp only [hz];split at h
    ·rename_i c' v' hp;simp only [zK,yN] at h;obtain ⟨rfl,rfl⟩:=h;obtain ⟨g1,hc⟩:=C3 hc;obtain ⟨g2,g3⟩:=C3 hc
     have:=Fu _ _ hp g3
     rw [It,Ch] at this;rw [W1] at g1 g2;have g1:decide (0≤vI G i)=true:=yM (by have:=yL g1;simpa only [vI] using this);have g2:decide (vI G i<len)=true:=yM (by have:=yL g2;simpa only [vI] using this);simp only [this,g1,g2,Bool.and_self]
    ·simp at h
   ·simp at h
  ·simp at h
 ·simp only [M5,←vV_evD];split at h
  ·rename_i h1 he;simp only [zK,yN] at h;obtain ⟨rfl,rfl⟩:=h;simp only [h1,he,vV,vS]
  ·rename_i mb r off n h1 he;simp only [h1,he,vV];split at h
   ·rename_i c0 cs hcs;simp only [wY,zK,yN] at h;obtain ⟨rfl,rfl⟩:=h;obtain ⟨g0,hc⟩:=C3 hc;rw [Kt hG hcs g0];obtain ⟨g1,g2⟩:=C3 hc;rw [O4,L3,W0] at g1;simp only [vB,Ci,u8s] at g2;have g1:decide (vN G off+vN G n≤(vL G cs).length)=true:=g1;simp only [tT,g1,g2,Bool.and_self,vV,vS,Ci,O8]
   ·simp at h
  ·simp at h
 ·simp at h
theorem Xn {C:A0} (hG:C.G=G) {H:DHp} {z:Nat} {x:EV} {c:EB} {m:EN} {xs:EL} (h:srcD H z x=some (c,m,xs)) (hc:vB G c=true) :
  Yr C (B7 G H) z (vV G x)=some (true,vN G m,vL G xs):=by
 unfold srcD at h;split at h
 ·simp only [zK,yN] at h;obtain ⟨rfl,rfl,rfl⟩:=h;simp only [vV,Yr,vN,vL,vVs]
 ·rename_i mb r off m';split at h
  ·rename_i c0 cs hcs;simp only [zK,yN] at h;obtain ⟨rfl,rfl,rfl⟩:=h;obtain ⟨g0,hc⟩:=C3 hc;obtain ⟨g1,g2⟩:=C3 hc;rw [O4,L3,P8,W0] at g1;rw [Sw,Ci,P8] at g2;simp only [vV,Yr,Kt hG hcs g0];have g1:decide (vN G off+vN G m'*z≤(vL G cs).length)=true:=g1;simp only [g1,g2,Bool.and_self,Ci,P8]
  ·simp at h
 ·rename_i s;split at h
  ·rename_i hz;have hz:=yV hz;subst hz;simp only [zK,yN] at h;obtain ⟨rfl,rfl,rfl⟩:=h;simp only [vV,Yr,Cg,aC,decide_true]
  ·simp at h
 ·simp at h
theorem Rx {v:EV} {n:Nat} (h:Ry (some v) n=true):(B8 (vV G v)).length=n:=by
 unfold Ry at h;simp only at h;rw [←Y1];split at h
 ·rename_i cs he;rw [he];simp only [vL,P6];exact yV h
 ·simp at h
def Ww (G:Nat→List AV) (o:Option (EB×EV×DHop)) (p:Option (Bool×AV×Hop)):Prop:=∀ c v h,o=some (c,v,h)→vB G c=true→p=some (true,vV G v,J6 G h)
theorem jD {C:A0} (hG:C.G=G) {H:DHp} {t:TypeId} {s x:EV}:Ww G (Xt C.P H t s x) (If C (B7 G H) t (vV G s) (vV G x)):=by
 intro c v hp h hc;unfold Xt at h;unfold If;split at h
 rotate_left
 ·simp at h
 rename_i e hu;simp only [hu];split at h
 rotate_left
 ·simp at h
 rename_i i zv hi hz;have hz:=Fm (G:=G) hz;simp only [hi,hz];split at h
 ·simp at h
 rename_i hb;obtain ⟨hok,hb⟩:=P3 hb;obtain ⟨hb1,hb2⟩:=P3 hb;have hlen:((B8 (vV G zv)).length==i.size)=true:=by rw [Rx hb2];simp
 have hby:decide (1≤i.bytes)=true:=yM (rR hb1);split at h
 rotate_left
 ·simp at h
 rename_i c' m xs hs;split at h
 ·simp only [zK,yN] at h;obtain ⟨rfl,rfl,rfl⟩:=h;obtain ⟨g1,g2⟩:=C3 hc;have e1:=Xn hG hs g1;rw [O4,P8] at g2;simp only [vN] at g2;have g2:decide (vN G m*i.bytes≤140737488355328)=true:=g2;simp only [e1,vV,g2,hby,hlen,hok,Bool.and_self,T6,vR,vN,here,E3,J6,D8]
 ·rename_i mb j;split at h
  ·rename_i b hj;split at h
   ·rename_i hez;have hez:=yV hez;simp only [zK,yN] at h;obtain ⟨rfl,rfl,rfl⟩:=h;obtain ⟨g1,g2⟩:=C3 hc;have e1:=Xn hG hs g1;rw [O4,P8] at g2;simp only [vN] at g2;have g2:decide (vN G m*i.bytes≤140737488355328)=true:=g2;have hr:∀ l,isRec ⟨i.size,l⟩=false:=fun l=>Ht hok;have g4:decide (0*i.size≤(vL G b.cells).length)=true:=yM (by omega)
    simp only [hr,Bool.not_false,e1,vV,vR,vN,I3 hj,D8,g2,hby,hlen,hez,beq_self_eq_true,Bool.and_self,T6,here,E3,J6,Nat.zero_add,Nat.zero_mul,List.take_zero,List.nil_append,zA2,decide_true]
   ·simp at h
  ·simp at h
 ·rename_i mb j n;split at h
  ·rename_i b hj;split at h
   ·rename_i hez;have hez:=yV hez;simp only [zK,yN] at h;obtain ⟨rfl,rfl,rfl⟩:=h;obtain ⟨g1,hc⟩:=C3 hc;obtain ⟨g2,g3⟩:=C3 hc;have e1:=Xn hG hs g1;rw [O4,P8,L3] at g2;simp only [vN] at g2;rw [O4,W0,P8] at g3;have g2:decide ((vN G n+vN G m)*i.bytes≤140737488355328)=true:=g2;have hr:∀ l,isRec ⟨i.size,l⟩=false:=fun l=>Ht hok;have g4:decide (vN G n*i.size≤(vL G b.cells).length)=true:=g3
    simp only [hr,Bool.not_false,e1,vV,vR,vN,Nat.mul_one,I3 hj,D8,g2,hby,hlen,hez,g4,beq_self_eq_true,Bool.and_self,T6,here,E3,J6,gK,Ci,L3,P8,A9,List.drop_zero]
   ·simp at h
  ·simp at h
 ·rename_i mb j n _ _;split at h
  ·rename_i b hj;split at h
   ·rename_i hez;have hez:=yV hez;simp only [zK,yN] at h;obtain ⟨rfl,rfl,rfl⟩:=h;obtain ⟨g1,hc⟩:=C3 hc;obtain ⟨g2,g3⟩:=C3 hc;have e1:=Xn hG hs g1;rw [O4,P8,L3] at g2;simp only [vN] at g2;rw [kY,W0,P8] at g3;have g3:=yV g3;have g2:decide ((vN G n+vN G m)*i.bytes≤140737488355328)=true:=g2;have hr:∀ l,isRec ⟨i.size,l⟩=false:=fun l=>Ht hok;have g4:decide (vN G n*i.size≤(vL G b.cells).length)=true:=yM (by omega)
    have g5:(vL G b.cells).take (vN G n*i.size)=vL G b.cells:=List.take_of_length_le (by omega);simp only [hr,Bool.not_false,e1,vV,vR,vN,I3 hj,D8,g2,hby,hlen,hez,g4,g5,beq_self_eq_true,Bool.and_self,T6,here,E3,J6,gK,L3]
   ·simp at h
  ·simp at h
 ·simp at h
theorem aB {l:EL} {o:EN} {v:EV} {z:Nat} (hz:O9 (vV G v)=z):vL G (Wy l o v z)=E2 (vL G l) (vN G o) (vV G v):=by
 unfold Wy;split
 ·rename_i d;split
  ·rename_i cs _;split
   ·rename_i hb;have hb:=yV hb;simp only [vV,O9] at hz;simp only [vV,E2,gS,vL,vN,List.take_zero,List.nil_append,Nat.zero_add];rw [List.drop_of_length_le (by rw [P6];omega),List.append_nil]
   ·exact Ln _ _ _
  ·exact Ln _ _ _
 ·exact Ln _ _ _
theorem wB {C:A0} {H:DHp} {t:TypeId} {s x:EV}:Ww G (Mx C.P H t s x) (Qt C (B7 G H) t (vV G s) (vV G x)):=by
 intro c v hp h hc;unfold Mx at h;unfold Qt;split at h
 rotate_left
 ·simp at h
 rename_i e n hu;simp only [hu,vV];split at h
 rotate_left
 ·simp at h
 rename_i i zv hi hz;simp only [hi,Fm (G:=G) hz];split at h
 rotate_left
 ·simp at h
 rename_i hb;obtain ⟨hok,hb⟩:=P3 hb;obtain ⟨hb0,hb⟩:=P3 hb;obtain ⟨hb1,hb2⟩:=P3 hb;simp only [zK,yN] at h;obtain ⟨rfl,rfl,rfl⟩:=h;obtain ⟨g1,g3⟩:=C3 hc;rw [W1] at g1 g3
 have ebig:vI G (Mx.mkBigD n i.bytes)=vI G n*i.bytes:=by
  unfold Mx.mkBigD
  split<;>simp [vI,vVs,vV,gA]
 rw [ebig] at g3;simp only [vI] at g1 g3;have g1:decide (0≤vI G n)=true:=yM (yL g1);have g3:decide (vI G n*i.bytes≤140737488355328)=true:=yM (yL g3);have g0:decide (1≤i.bytes)=true:=yM (rR hb0);have g5:decide ((B8 (vV G zv)).length=i.size)=true:=yM (Rx hb1);have g6:decide (1≤i.size)=true:=yM (rR hb2);simp only [hok,g0,g1,g3,g5,g6,Bool.and_self,vV,T6,vR,vN,here,E3,J6,D8,Ym,Y1,Ch]
theorem aM5 {C:A0} {H:DHp} {t:TypeId} {x:EV}:Ww G (oU C.P H t x) (Vq C (B7 G H) t (vV G x)):=by
 intro c v hp h hc;unfold oU at h;unfold Vq;split at h
 rotate_left
 ·simp at h
 rename_i e mb j off n hu;simp only [hu,vV,vR];split at h
 rotate_left
 ·simp at h
 rename_i z zv b hz hzv hj;split at h
 ·simp at h
 rename_i hr;rw [Bool.or_eq_false_iff] at hr;obtain ⟨hr,hb⟩:=hr;have hr:isRec (D8 G b)=false:=hr;have hb:(Ry (some zv) z&&Nat.ble 1 z)=true:=by simpa using hb
 obtain ⟨hb1,hb2⟩:=P3 hb;simp only [hz,Fm (G:=G) hzv,I3 hj,hr,Bool.not_false,Bool.true_and];simp only [zK,yN] at h;obtain ⟨rfl,rfl,rfl⟩:=h;obtain ⟨g1,hc⟩:=C3 hc;obtain ⟨g2,g3⟩:=C3 hc;rw [O4] at g1 g3;rw [Sw,Y1] at g2;rw [L3,P8,W0] at g3;simp only [vN] at g1;have g1:decide (1≤vN G n)=true:=g1;have g3:decide (vN G off+vN G n*z≤(vL G b.cells).length)=true:=g3;have g5:decide ((B8 (vV G zv)).length=z)=true:=yM (Rx hb1)
 have g6:decide (1≤z)=true:=yM (rR hb2);simp only [g1,g2,g5,g6,D8,vV,vVs,J6,Ln,E2,Ym,Y1];have g7:=yL g3;simp only [g7,decide_true,Bool.and_self]
theorem Yk {C:A0} (hG:C.G=G) {F:DFr} {H:DHp} {op:Op}:Ww G (Pa C.P F H op) (G7 C (vVs G F) (B7 G H) op):=by
 intro c v hp h hc;unfold Pa at h;split at h
 ·-- store
  simp only [G7,←vV_evD];split at h
  ·rename_i i off z he hz;simp only [he,hz,vV,vR];split at h
   ·rename_i b hb;split at h
    ·simp at h
    rename_i hr;have hr:∀ l,isRec ⟨b.esz,l⟩=false:=fun _=>hr;simp only [zK,yN] at h;obtain ⟨rfl,rfl,rfl⟩:=h;obtain ⟨g1,hc⟩:=C3 hc;obtain ⟨g2,g3⟩:=C3 hc;rw [O4,L3,W0] at g3;simp only [vN] at g3;have g3:decide (vN G off+z≤(vL G b.cells).length)=true:=g3;simp only [hr,Bool.not_false,I3 hb,D8,Vf _ g1,Iy g2,g3,beq_self_eq_true,Bool.and_self,vV,vVs,J6,aB (Iy g2)]
   ·simp at h
  ·simp at h
 ·-- alloc
  simp only [G7];split at h
  ·rename_i z hz;simp only [Fm (G:=G) hz];simp only [zK,yN] at h;obtain ⟨rfl,rfl,rfl⟩:=h;simp only [vV,T6,vR,vN,here,E3,J6,D8,Y1]
  ·simp at h
 ·-- box
  simp only [G7,←vV_evD];split at h
  ·rename_i hk;simp only [zK,yN] at h;obtain ⟨rfl,rfl,rfl⟩:=h;simp only [nI hk,vV,T6,vR,vN,here,E3,J6,D8,Y1]
  ·simp at h
 ·-- buildSlice
  rename_i t n parts;simp only [G7];split at h
  rotate_left
  ·simp at h
  rename_i e hu;simp only [hu];split at h
  rotate_left
  ·simp at h
  rename_i z zv hz hzv;simp only [hz,Fm (G:=G) hzv];split at h
  rotate_left
  ·simp at h
  rename_i cs hcs;split at h
  rotate_left
  ·simp at h
  rename_i hb;obtain ⟨hok,hb⟩:=P3 hb;obtain ⟨hb1,hb2⟩:=P3 hb;have e0:B8 (vV G zv)=vVs G cs:=by rw [←Y1,hcs];simp only [vL]
  have e1:(vVs G cs).length=z:=by rw [P6];exact yV hb2
  split at h
  ·rename_i c' cs' hf;simp only [zK,yN] at h;obtain ⟨rfl,rfl,rfl⟩:=h
   have:=Xg _ _ _ _ hf hc
   have e2:vL G (.of (List.replicate n cs).flatten)=(List.replicate n (B8 (vV G zv))).flatten:=by
    simp only [vL,e0,Q5,List.map_flatten,List.map_replicate]
   rw [e2,List.map_map] at this
   have e3:(List.map ((fun p:Nat×EV=>(p.1,vV G p.2)) ∘ fun p:Nat×Operand=>(p.1,evD F p.2)) parts.toList)=List.map (fun p=>(p.1,ev (vVs G F) p.2)) parts.toList:=by
    refine List.map_congr_left fun p _=>?_;simp [vV_evD]
   rw [e3] at this;have hb1:decide (n*z≤16777216)=true:=yM (rR hb1);rw [e0] at this;simp only [hok,e0,this,e1,hb1,decide_true,Bool.and_self,vV,T6,vR,vN,here,E3,J6,D8]
  ·simp at h
 ·-- makeSlice
  simp only [G7,←vV_evD];split at h
  rotate_left
  ·simp at h
  rename_i e k l k' c' hu hl hc';simp only [hu,hl,hc',vV];split at h
  rotate_left
  ·simp at h
  rename_i i zv hi hz;simp only [hi,Fm (G:=G) hz];split at h
  rotate_left
  ·simp at h
  rename_i hb;obtain ⟨hok,hb⟩:=P3 hb;obtain ⟨hb1,hb2⟩:=P3 hb;simp only [zK,yN] at h;obtain ⟨rfl,rfl,rfl⟩:=h;obtain ⟨g1,hc⟩:=C3 hc;obtain ⟨g2,hc⟩:=C3 hc;obtain ⟨g3,g4⟩:=C3 hc;rw [W1] at g1 g2 g3 g4
  have ebig:vI G (Pa.mkBig c' i.bytes)=vI G c'*i.bytes:=by
   unfold Pa.mkBig
   split<;>simp [vI,vVs,vV,gA]
  rw [ebig] at g3;simp only [vI] at g1 g3 g4;have g1:decide (0≤vI G l)=true:=yM (yL g1);have g2:decide (vI G l≤vI G c')=true:=yM (yL g2);have g3:decide (vI G c'*i.bytes≤140737488355328)=true:=yM (yL g3);have g4:decide (vI G c'≤140737488355328)=true:=yM (yL g4);have g5:decide ((B8 (vV G zv)).length=i.size)=true:=yM (Rx hb1);have g6:decide (1≤i.size)=true:=yM (rR hb2)
  simp only [hok,g1,g2,g3,g4,g5,g6,Bool.and_self,vV,T6,vR,vN,here,E3,J6,D8,Ym,Y1,Ch]
 ·-- convert
  simp only [G7,←vV_evD];split at h
  ·rename_i s h1 he;simp only [h1,he,vV];simp only [zK,yN] at h;obtain ⟨rfl,rfl,rfl⟩:=h;rw [O4,Cg] at hc;simp only [vN] at hc;have hc:decide ((vS G s).length≤140737488355328)=true:=hc;simp only [hc,vV,T6,vR,vN,here,E3,J6,D8,Cg,aC]
  ·rename_i mb i off n h1 he;simp only [h1,he,vV,vR];split at h
   ·rename_i h2;simp only [h2];split at h
    ·rename_i b hb;split at h
     ·simp at h
     rename_i hr;have hr:isRec (D8 G b)=false:=hr;simp only [I3 hb,hr,Bool.not_false,Bool.true_and];simp only [zK,yN] at h;obtain ⟨rfl,rfl,rfl⟩:=h;rw [O4] at hc;simp only [vN] at hc;have hc:Nat.ble 1 (vN G n)=true:=Nat.ble_eq_true_of_le (B2.1 hc);simp only [hc,vV,vR,J6]
    ·simp at h
   ·simp at h
  ·simp at h
 ·-- append
  simp only [G7];split at h
  rotate_left
  ·simp at h
  rename_i s x t u h1 h2;simp only [h1,h2,←vV_evD];split at h
  ·rename_i e hu;simp only [hu];exact jD hG _ _ _ h hc
  ·rename_i hu;simp only [hu];exact jD hG _ _ _ h hc
  ·rename_i k hu;simp only [hu];exact wB _ _ _ h hc
  ·simp at h
 ·-- clear
  simp only [G7];split at h
  rotate_left
  ·simp at h
  rename_i x t h1 h2;simp only [h1,h2,←vV_evD];exact aM5 _ _ _ h hc
 ·simp at h
theorem zW {C:A0} (hG:C.G=G) {fam:TypeId→Option (Nat×Nat)} {F:DFr} {H:DHp} {op:Op} {c0:EB} {x:FamR} (h:oL fam C.P F H op=some (c0,x)) (h0:vB G c0=true):WoF G x (M5 C (vVs G F) (B7 G H) op):=by
 unfold oL at h;split at h
 ·rename_i t a;simp only [M5,←vV_evD];split at h
  ·rename_i r off he;simp only [he,vV];split at h
   ·simp at h
   ·rename_i hr;split at h
    ·rename_i c1 cs hcs;split at h
     ·rename_i y hp;simp only [zK,yN] at h;obtain ⟨rfl,rfl⟩:=h
      have hl:Kk C (B7 G H) t (vR G r) (vN G off)=U9 C.P t (vL G cs) (vN G off):=by
       unfold Kk;rw [Kt hG hcs h0];cases r with
       | rw i=>simp only [vR,Nr]
       | ro n=>exact absurd rfl (hr n)
       | fm b c k=>simp only [vR,Nr]
      rw [hl];exact fP hp
     ·simp at h
    ·simp at h
  ·simp at h
 ·simp only [M5,←vV_evD];split at h
  ·rename_i fs cs hu he;simp only [hu,he,vV];split at h
   ·rename_i fd hf;simp only [hf];split at h
    ·rename_i y hp;simp only [zK,yN] at h;obtain ⟨rfl,rfl⟩:=h
     have:=fP (G:=G) hp
     simpa only [vN] using this
    ·simp at h
   ·simp at h
  ·simp at h
 ·simp only [M5,←vV_evD];split at h
  ·rename_i len e cs k i hu he hi;simp only [hu,he,hi,vV];split at h
   ·rename_i z hz;simp only [hz];split at h
    ·rename_i y hp;simp only [zK,yN] at h;obtain ⟨rfl,rfl⟩:=h;obtain ⟨g1,g2⟩:=C3 h0
     have:=fP (G:=G) hp
     rw [It,Ch] at this;rw [W1] at g1 g2;have g1:decide (0≤vI G i)=true:=yM (by have:=yL g1;simpa only [vI] using this);have g2:decide (vI G i<len)=true:=yM (by have:=yL g2;simpa only [vI] using this);cases y with
     | val c v=>exact fun hc=>by simp only [this hc,g1,g2,Bool.and_self]
     | ptr n c v=>exact ⟨fun hc=>by simp only [this.1 hc,g1,g2,Bool.and_self],fun hc=>by simp only [this.2 hc,g1,g2,Bool.and_self]⟩
    ·simp at h
   ·simp at h
  ·simp at h
 ·simp at h
theorem jE (b:Nat) (f:Nat→Blk):∀ (c:Nat) (H:Hp),(acts H ((List.range c).map fun j=>Hop.set (b+j) (f j))).length=H.length∧∀ i,(acts H ((List.range c).map fun j=>Hop.set (b+j) (f j)))[i]?=if b≤i∧i<b+c∧i<H.length then some (some (f (i - b))) else H[i]?
 | 0,H=>⟨by simp [acts],fun i=>by rw [if_neg (by omega)];simp [acts]⟩
 | c+1,H=>by
  have app:∀ (hs ks:List Hop) (H:Hp),acts H (hs++ks)=acts (acts H hs) ks:=by
   intro hs
   induction hs with
   | nil=>intro ks H;rfl
   | cons h hs ih=>intro ks H;exact ih ks _
  obtain ⟨h1,h2⟩:=jE b f c H;rw [List.range_succ,List.map_append,app];simp only [List.map_cons,List.map_nil,acts,Hop.act];refine ⟨by rw [List.length_set,h1],fun i=>?_⟩;rw [qX,h1];by_cases e:b+c=i
  ·subst e;rw [if_pos rfl];by_cases hl:b+c<H.length
   ·rw [if_pos hl,if_pos (by omega),show b+c - b=c by omega]
   ·rw [if_neg hl,if_neg (by omega),qK (by omega)]
  ·rw [if_neg e,h2];by_cases hi:b≤i∧i<b+c∧i<H.length
   ·rw [if_pos hi,if_pos (by omega)]
   ·rw [if_neg hi,if_neg (by omega)]
theorem vE {H:DHp} {b c z:Nat} {l l2:EL} {ls:List EV} {k:Nat} {N:List AV} (hf:Xk H b c=some (z,l,ls)) (hr:Nj (vL G l) (vVs G ls)=true) (hk:k<c) (hkl:k<(vL G l).length) (h2:vL G l2=Dx (vL G l) k N) :
  acts (B7 G H) ((Xh b c z l2).map (J6 G))=(B7 G H).set (b+k) (some ⟨z,N⟩):=by
 have e0:(Xh b c z l2).map (J6 G)=(List.range c).map fun j=>Hop.set (b+j) ⟨z,A4 (Dx (vL G l) k N) j⟩:=by
  unfold Xh;rw [List.map_map];refine List.map_congr_left fun j _=>?_;simp only [Function.comp,J6,D8,vL,vN,h2]
 rw [e0];obtain ⟨h1,h3⟩:=jE b (fun j=>⟨z,A4 (Dx (vL G l) k N) j⟩) c (B7 G H);refine List.ext_getElem? fun i=>?_;rw [h3,qX]
 have hput:∀ j,A4 (Dx (vL G l) k N) j=if k=j then N else A4 (vL G l) j:=fun j=>by
  unfold A4 Dx;rw [qX];by_cases e:k=j
  ·subst e;rw [if_pos rfl,if_pos rfl,if_pos hkl]
  ·rw [if_neg e,if_neg e]
 by_cases hi:b≤i∧i<b+c∧i<(B7 G H).length
 ·rw [if_pos hi,hput];by_cases e:b+k=i
  ·subst e;rw [if_pos rfl,if_pos (by omega),if_pos hi.2.2]
  ·rw [if_neg e,if_neg (by omega)]
   have:=bY hf hr (i:=i - b) (by omega)
   rw [show b+(i - b)=i by omega] at this;rw [this]
 ·rw [if_neg hi];by_cases e:b+k=i
  ·subst e
   have:=bY hf hr hk
   have:=(zQ.1 this).1
   omega
  ·rw [if_neg e]
theorem gH {C:A0} (hG:C.G=G) {F:DFr} {H:DHp} {op:Op} {c:EB} {hs:List DHop} (h:dE C.P F H op=some (c,hs)) (hc:vB G c=true) :
  ∃ hp,G7 C (vVs G F) (B7 G H) op=some (true,.tup [],hp)∧hp.act (B7 G H)=acts (B7 G H) (hs.map (J6 G)):=by
 unfold dE at h;split at h
 ·rename_i t a x;simp only [G7,←vV_evD];split at h
  ·rename_i b cc k off z he hz;simp only [he,hz,vV,vR];split at h
   ·rename_i z0 l ls hf;simp only [zK,yN] at h;obtain ⟨rfl,rfl⟩:=h;obtain ⟨g1,hc⟩:=C3 hc;obtain ⟨g2,hc⟩:=C3 hc;obtain ⟨g3,hc⟩:=C3 hc;obtain ⟨g4,hc⟩:=C3 hc;obtain ⟨g5,g6⟩:=C3 hc;rw [O4,L3] at g1 g3;simp only [vN] at g1 g3;have g1:=B2.1 g1;have g3:=B2.1 g3;simp only [vB] at g2;rw [O4,L3,W0] at g6;simp only [vN,vL] at g6;have g6:decide (vN G off+z≤(A4 (vL G l) (vN G k)).length)=true:=g6;have hr:∀ l',isRec ⟨z0,l'⟩=false:=fun _=>(Zr hf).1
    refine ⟨.set (b+vN G k) ⟨z0,E2 (A4 (vL G l) (vN G k)) (vN G off) (vV G (evD F x))⟩,?_,?_⟩
    ·simp only [bY hf g2 (show vN G k<cc by omega),hr,Bool.not_false,Vf _ g4,Iy g5,g6,beq_self_eq_true,Bool.and_self]
    ·rw [vE (k:=vN G k) (N:=E2 (A4 (vL G l) (vN G k)) (vN G off) (vV G (evD F x))) hf g2 (by omega) (by omega) (by simp only [vL,aB (Iy g5)])];rfl
   ·simp at h
  ·simp at h
 ·simp at h
theorem Xs {F:DFr} {op:Op} {f:FuncId} {args:List EV} (h:Sr F op=some (f,args)):callOp (vVs G F) op=some (f,vVs G args):=by
 unfold Sr at h;split at h
 ·simp only [callOp,←vV_evD];split at h
  ·rename_i g cap he;simp only [zK,yN] at h;obtain ⟨rfl,rfl⟩:=h;simp only [he,vV,Qz,nA]
  ·simp at h
 ·simp at h
theorem kT {F:DFr} {op:Op} {i:Nat} {args:List EV} (h:dC F op=some (i,args)):yldOp (vVs G F) op=some (i,vVs G args):=by
 unfold dC at h;split at h
 ·simp only [yldOp,←vV_evD];split at h
  ·rename_i g he;simp only [zK,yN] at h;obtain ⟨rfl,rfl⟩:=h;simp only [he,vV,nA]
  ·simp at h
 ·simp at h
theorem xW {C:A0} (hG:C.G=G) {F:DFr} {H:DHp} (x:ResultVar):Wo G (dY C.P F H x) (Ud C (vVs G F) (B7 G H) x):=by
 intro c v h hc;unfold dY at h;unfold Ud;split at h
 ·simp only [zK,yN] at h;obtain ⟨rfl,rfl⟩:=h;simp only [Ff,Z2]
 ·simp only [Z2];simp only [Ff] at h;split at h
  ·rename_i r off he;simp only [he,vV];exact sD hG _ _ h hc
  ·simp at h
theorem Uf {C:A0} (hG:C.G=G) {F:DFr} {H:DHp}:∀ (xs:List ResultVar) (c:EB) (vs:List EV),Ps C.P F H xs=some (c,vs)→vB G c=true→Gh C (vVs G F) (B7 G H) xs=some (true,vVs G vs)
 | [],c,vs,h,_=>by
  simp only [Ps,zK,yN] at h;obtain ⟨rfl,rfl⟩:=h;simp only [Gh,vVs]
 | x::xs,c,vs,h,hc=>by
  unfold Ps at h;split at h
  ·rename_i c1 v h1;split at h
   ·rename_i d r h2;simp only [zK,yN] at h;obtain ⟨rfl,rfl⟩:=h;obtain ⟨g1,g2⟩:=C3 hc;simp only [Gh,xW hG x _ _ h1 g1,Uf hG xs _ _ h2 g2,Bool.and_self,vVs]
   ·simp at h
  ·simp at h
theorem aQ {C:A0} (hG:C.G=G) {fn:Func} {F:DFr} {H:DHp}:Wo G (resD C.P fn F H) (On C fn (vVs G F) (B7 G H)):=by
 intro c v h hc;unfold resD at h;unfold On;split at h
 ·rename_i c' v' hr;simp only [zK,yN] at h;obtain ⟨rfl,rfl⟩:=h;simp only [Uf hG _ _ _ hr hc,vVs]
 ·rename_i c' vs hn hr;simp only [zK,yN] at h;obtain ⟨rfl,rfl⟩:=h;rw [Uf hG _ _ _ hr hc];cases vs with
  | nil=>simp only [vVs,vV]
  | cons x l=>cases l with
   | nil=>exact absurd rfl (hn _)
   | cons y l=>simp only [vVs,vV]
 ·simp at h
end
section
variable {G:Nat→List AV}
def vT (G:Nat→List AV) (Q:Ex→List AV→Hp→Prop) (R:AV→Hp→Prop):T→Prop
 | .fail=>False
 | .chk b t=>vB G b=true∧vT G Q R t
 | .tst b x y=>(vB G b=true→vT G Q R x)∧(vB G b=false→vT G Q R y)
 | .imp b t=>vB G b=true→vT G Q R t
 | .allI _ k=>∀ x,vT G Q R (k x)
 | .allN _ k=>∀ x,vT G Q R (k x)
 | .allB _ k=>∀ x,vT G Q R (k x)
 | .allL _ k=>∀ x,vT G Q R (k x)
 | .namI _ e k=>∀ x,x=vI G e→vT G Q R (k x)
 | .namN _ e k=>∀ x,x=vN G e→vT G Q R (k x)
 | .namB _ e k=>∀ x,x=vB G e→vT G Q R (k x)
 | .namL _ e k=>∀ x,x=vL G e→vT G Q R (k x)
 | .leaf e F H=>Q e (vVs G F) (B7 G H)
 | .ret v H=>R (vV G v) (B7 G H)
section
variable {Q:Ex→List AV→Hp→Prop} {R:AV→Hp→Prop}
theorem Q6:∀ (b:EB) {t:T},vT G Q R (Bv b t)→vB G b=true∧vT G Q R t
 | .lit true,t,h=>⟨rfl,h⟩
 | .lit false,t,h=>h.elim
 | .and a b,t,h=>by
  simp only [Bv] at h;obtain ⟨h1,h⟩:=Q6 a h;obtain ⟨h2,h⟩:=Q6 b h;exact ⟨by simp [vB,h1,h2],h⟩
 | .var ..,t,h=>h
 | .cmp ..,t,h=>h
 | .not ..,t,h=>h
 | .eqB ..,t,h=>h
 | .eqS ..,t,h=>h
 | .isI ..,t,h=>h
 | .isB ..,t,h=>h
 | .isT ..,t,h=>h
 | .isR ..,t,h=>h
 | .get ..,t,h=>h
 | .leN ..,t,h=>h
 | .eqN ..,t,h=>h
 | .leaf ..,t,h=>h
 | .u8s ..,t,h=>h
 | .cells ..,t,h=>h
 | .isF ..,t,h=>h
 | .isP ..,t,h=>h
 | .isNil ..,t,h=>h
 | .rows ..,t,h=>h
 | .uf ..,t,h=>h
def Bran (G:Nat→List AV) (Q:Ex→List AV→Hp→Prop) (R:AV→Hp→Prop) (n:Nat) (b:EB) (x y:Facts→T):Prop:=
 (vB G b=true∧∃ fs':Facts,fs'.n=n∧vT G Q R (x fs'))∨(vB G b=false∧∃ fs':Facts,fs'.n=n∧vT G Q R (y fs'))
theorem R5 {fs:Facts} {b:EB} {x y:Facts→T} (h:vT G Q R (match dec fs b with | some true=>.chk b (x fs) | some false=>.chk (.not b) (y fs) | none=>.tst b (x (In fs b true)) (y (In fs b false)))):Bran G Q R fs.n b x y:=by
 have hl:∀ v,(In fs b v).n=fs.n:=fun v=>by unfold In;rfl
 split at h
 ·exact .inl ⟨h.1,fs,rfl,h.2⟩
 ·refine .inr ⟨?_,fs,rfl,h.2⟩
  have:=h.1
  simpa [vB] using this
 ·cases hb:vB G b with
  | true=>exact .inl ⟨hb,_,hl _,h.1 hb⟩
  | false=>exact .inr ⟨hb,_,hl _,h.2 hb⟩
theorem V6:∀ (b:EB) (fs:Facts) (x y:Facts→T),vT G Q R (Ad fs b x y)→Bran G Q R fs.n b x y
 | .lit true,fs,x,y,h=>.inl ⟨rfl,fs,rfl,h⟩
 | .lit false,fs,x,y,h=>.inr ⟨rfl,fs,rfl,h⟩
 | .not b,fs,x,y,h=>by
  simp only [Ad] at h;rcases V6 b fs y x h with ⟨h1,h2⟩ | ⟨h1,h2⟩
  ·exact .inr ⟨by simp [vB,h1],h2⟩
  ·exact .inl ⟨by simp [vB,h1],h2⟩
 | .and a b,fs,x,y,h=>by
  simp only [Ad] at h;rcases V6 a fs _ _ h with ⟨h1,fs1,e1,h2⟩ | ⟨h1,h2⟩
  ·rcases V6 b fs1 _ _ h2 with ⟨h3,h4⟩ | ⟨h3,h4⟩
   ·rw [e1] at h4;exact .inl ⟨by simp [vB,h1,h3],h4⟩
   ·rw [e1] at h4;exact .inr ⟨by simp [vB,h1,h3],h4⟩
  ·exact .inr ⟨by simp [vB,h1],h2⟩
 | .eqB a b,fs,x,y,h=>by
  simp only [Ad] at h;rcases V6 a fs _ _ h with ⟨h1,fs1,e1,h2⟩ | ⟨h1,fs1,e1,h2⟩
  ·rcases V6 b fs1 _ _ h2 with ⟨h3,h4⟩ | ⟨h3,h4⟩
   ·rw [e1] at h4;exact .inl ⟨by simp [vB,h1,h3],h4⟩
   ·rw [e1] at h4;exact .inr ⟨by simp [vB,h1,h3],h4⟩
  ·rcases V6 b fs1 _ _ h2 with ⟨h3,h4⟩ | ⟨h3,h4⟩
   ·rw [e1] at h4;exact .inr ⟨by simp [vB,h1,h3],h4⟩
   ·rw [e1] at h4;exact .inl ⟨by simp [vB,h1,h3],h4⟩
 | .var ..,fs,x,y,h=>R5 h
 | .cmp ..,fs,x,y,h=>R5 h
 | .eqS ..,fs,x,y,h=>R5 h
 | .isI ..,fs,x,y,h=>R5 h
 | .isB ..,fs,x,y,h=>R5 h
 | .isT ..,fs,x,y,h=>R5 h
 | .isR ..,fs,x,y,h=>R5 h
 | .get ..,fs,x,y,h=>R5 h
 | .leN ..,fs,x,y,h=>R5 h
 | .eqN ..,fs,x,y,h=>R5 h
 | .leaf ..,fs,x,y,h=>R5 h
 | .u8s ..,fs,x,y,h=>R5 h
 | .cells ..,fs,x,y,h=>R5 h
 | .isF ..,fs,x,y,h=>R5 h
 | .isP ..,fs,x,y,h=>R5 h
 | .isNil ..,fs,x,y,h=>R5 h
 | .rows ..,fs,x,y,h=>R5 h
 | .uf ..,fs,x,y,h=>R5 h
theorem Cf {o:Option (EB×EV)} {k:EV→T} (h:vT G Q R (aX o k)):∃ c v,o=some (c,v)∧vB G c=true∧vT G Q R (k v):=by
 unfold aX at h;split at h
 ·rename_i c v;obtain ⟨h1,h2⟩:=Q6 c h;exact ⟨c,v,rfl,h1,h2⟩
 ·exact h.elim
end
def Ea (G:Nat→List AV) (P:EV→List DHop→Prop):Outs→Prop
 | .one v hs=>P v hs
 | .chk b x=>vB G b=true→Ea G P x
 | .tst b x y=>(vB G b=true→Ea G P x)∧(vB G b=false→Ea G P y)
 | .namI e f=>∀ j,Ea G P (f (.var j (vI G e)))
 | .namN e f=>∀ j,Ea G P (f (.var j (vN G e)))
 | .namB e f=>∀ j,Ea G P (f (.var j (vB G e)))
 | .namL e f=>∀ j,Ea G P (f (.var j (vL G e)))
theorem V7 {Q:Ex→List AV→Hp→Prop} {R:AV→Hp→Prop} {P:EV→List DHop→Prop} {k:Facts→EV→List DHop→T}:∀ (o:Outs) (fs:Facts),vT G Q R (Ct fs o k)→Ea G P o→∃ fs' v hs,P v hs∧vT G Q R (k fs' v hs)
 | .one v hs,fs,h,ho=>⟨fs,v,hs,ho,h⟩
 | .chk b x,fs,h,ho=>by
  simp only [Ct] at h;obtain ⟨h1,h2⟩:=Q6 b h;exact V7 x fs h2 (ho h1)
 | .tst b x y,fs,h,ho=>by
  simp only [Ct] at h;rcases V6 b fs _ _ h with ⟨h1,fs1,_,h2⟩ | ⟨h1,fs1,_,h2⟩
  ·exact V7 x fs1 h2 (ho.1 h1)
  ·exact V7 y fs1 h2 (ho.2 h1)
 | .namI e f,fs,h,ho=>V7 (f (.var fs.n (vI G e))) (fresh fs) (h _ rfl) (ho _)
 | .namN e f,fs,h,ho=>V7 (f (.var fs.n (vN G e))) (fresh fs) (h _ rfl) (ho _)
 | .namB e f,fs,h,ho=>V7 (f (.var fs.n (vB G e))) (fresh fs) (h _ rfl) (ho _)
 | .namL e f,fs,h,ho=>V7 (f (.var fs.n (vL G e))) (fresh fs) (h _ rfl) (ho _)
def K2 (G:Nat→List AV) (Q:Ex→DFr→DHp→Prop):Nat→LOut→Prop
 | _,.one e F H=>Q e F H
 | n,.chk b x=>vB G b=true∧K2 G Q n x
 | n,.tst b x y=>(vB G b=true→K2 G Q n x)∧(vB G b=false→K2 G Q n y)
 | n,.imp b x=>vB G b=true→K2 G Q n x
 | n,.allI f=>∀ x,K2 G Q (n+1) (f (.var n x))
 | n,.allN f=>∀ x,K2 G Q (n+1) (f (.var n x))
 | n,.allB f=>∀ x,K2 G Q (n+1) (f (.var n x))
 | n,.allL f=>∀ x,K2 G Q (n+1) (f (.var n x))
 | n,.namI e f=>K2 G Q (n+1) (f (.var n (vI G e)))
 | n,.namN e f=>K2 G Q (n+1) (f (.var n (vN G e)))
 | n,.namB e f=>K2 G Q (n+1) (f (.var n (vB G e)))
 | n,.namL e f=>K2 G Q (n+1) (f (.var n (vL G e)))
theorem P7 {Q:Ex→List AV→Hp→Prop} {R:AV→Hp→Prop} {k:Facts→Ex→DFr→DHp→T}:∀ (o:LOut) (fs:Facts),vT G Q R (Y5 fs o k)→K2 G (fun e F H=>∃ fs',vT G Q R (k fs' e F H)) fs.n o
 | .one e F H,fs,h=>⟨fs,h⟩
 | .chk b x,fs,h=>by
  simp only [Y5] at h;obtain ⟨h1,h2⟩:=Q6 b h;exact ⟨h1,P7 x fs h2⟩
 | .tst b x y,fs,h=>by
  simp only [Y5] at h;rcases V6 b fs _ _ h with ⟨h1,fs1,e1,h2⟩ | ⟨h1,fs1,e1,h2⟩
  ·have:=P7 x fs1 h2
   rw [e1] at this;exact ⟨fun _=>this,fun hb=>by rw [h1] at hb;simp at hb⟩
  ·have:=P7 y fs1 h2
   rw [e1] at this;exact ⟨fun hb=>by rw [h1] at hb;simp at hb,fun _=>this⟩
 | .imp b x,fs,h=>fun hb=>P7 x (In fs b true) (h hb)
 | .allI f,fs,h=>fun x=>P7 (f (.var fs.n x)) (fresh fs) (h x)
 | .allN f,fs,h=>fun x=>P7 (f (.var fs.n x)) (fresh fs) (h x)
 | .allB f,fs,h=>fun x=>P7 (f (.var fs.n x)) (fresh fs) (h x)
 | .allL f,fs,h=>fun x=>P7 (f (.var fs.n x)) (fresh fs) (h x)
 | .namI e f,fs,h=>P7 (f (.var fs.n _)) (fresh fs) (h _ rfl)
 | .namN e f,fs,h=>P7 (f (.var fs.n _)) (fresh fs) (h _ rfl)
 | .namB e f,fs,h=>P7 (f (.var fs.n _)) (fresh fs) (h _ rfl)
 | .namL e f,fs,h=>P7 (f (.var fs.n _)) (fresh fs) (h _ rfl)
def E0 (C:A0) (f:FuncId) (args:List EV) (H:DHp) (v:EV) (hs:List DHop):Prop:=
 ACalls C f (vVs C.G args) (B7 C.G H) fun v' H'=>v'=vV C.G v∧H'=acts (B7 C.G H) (hs.map (J6 C.G))
def DYld (C:A0) (i:Nat) (args:List EV) (H:DHp) (v:EV) (hs:List DHop):Prop:=
 AYld C i (vVs C.G args) (B7 C.G H) fun v' H'=>v'=vV C.G v∧H'=acts (B7 C.G H) (hs.map (J6 C.G))
structure L6 (C:A0) (K:DCfg) (lps:List Code):Prop where
 hP:K.P=C.P
 mix:C.P.follows .mixedOrders=true
 calls:∀ f args H o,K.sum f args H=some o→Ea C.G (E0 C f args H) o
 loops:∀ m c F H o,m≤K.M→c∈lps→K.loop c F H=some o→∀ n (Q:Post),K2 C.G (fun e F' H'=>Q e (vVs C.G F') (B7 C.G H')) n o→AWp C m (.loop c) (vVs C.G F) (B7 C.G H) Q
 inl:∀ f fn c,K.inl f=true→C.P.funcs[f]?=some fn→fn.body=some c→∀ b∈B5 c,b∈lps
 rngs:∀ m c F H o,m≤K.M→c∈lps→K.rng c F H=some o→∀ n (Q:Post),K2 C.G (fun e F' H'=>Q e (vVs C.G F') (B7 C.G H')) n o→AWp C m c (vVs C.G F) (B7 C.G H) Q
 ylds:∀ i args H o,K.ysum i args H=some o→Ea C.G (DYld C i args H) o
def K0 (C:A0):Cfg:={ C:=C,inl:=fun _=>false,strict:=.lazy,unr:=false,sum:=fun _ _ _=>none,loop:=fun _ _ _=>none,M:=0 }
theorem Lg {C:A0} (h:C.P.follows .mixedOrders=true) (lps:List Code):Fl (K0 C) lps:=⟨h,fun f args H v hs h=>by simp [K0] at h,fun m c F H e F' H' _ _ h=>by simp [K0] at h⟩
noncomputable def vTrK (G:Nat→List AV):DTrK→TrK
 | .still=>.still
 | .read r=>.read (vR G r)
 | .write=>.write
noncomputable def gJ (G:Nat→List AV) (t:cX):Tr:=⟨vTrK G t.kd,t.len,t.hs.map (J6 G)⟩
noncomputable def vWk (G:Nat→List AV):jH→Wk
 | .code c=>.code c
 | .ops all l=>.ops all l
 | .dr all l trs=>.dr all l (trs.map (gJ G))
theorem lH (i:Nat):∀ (hs:List DHop) (len:Nat),Ij i len (hs.map (J6 G))=Pf i len hs
 | [],_=>rfl
 | h::hs,len=>by cases h<;>simp only [List.map_cons,J6,Ij,Pf,lH i hs]
theorem gO (r:ER) (hs:List DHop) (len:Nat) (h:Pe r len hs=false):Lo (vR G r) len (hs.map (J6 G))=false:=by
 cases r with
 | rw i=>simp only [Pe] at h;simp only [vR,Lo,lH,h]
 | ro n=>simp only [vR,Lo]
 | fm b c k=>simp [Pe] at h
theorem aB7 (x y:cX) (h:gB x y=true):Bn (gJ G x) (gJ G y)=true:=by
 obtain ⟨kx,lx,hx⟩:=x;obtain ⟨ky,ly,hy⟩:=y;cases kx<;>cases ky<;>simp only [gJ,vTrK,Bn,gB] at h ⊢
 ·rw [gO _ _ _ (by simpa using h)];rfl
 ·rw [gO _ _ _ (by simpa using h)];rfl
 ·cases h
theorem aA0 (all:List Oper) (trs:List cX) (h:fU all trs=true):X1 all (trs.map (gJ G))=true:=by
 unfold fU at h;unfold X1;simp only [zN,xM,Bool.or_eq_true] at h ⊢;refine ⟨h.1,fun j hj i hi=>?_⟩;rcases h.2 j hj i hi with h1 | h1
 ·exact .inl h1
 ·refine .inr ?_;simp only [sH]
  revert h1
  cases all[i]?<;>cases all[j]?<;>cases trs[i]?<;>cases trs[j]?<;>simp;intro g1 g2;exact ⟨g1,aB7 _ _ g2⟩
theorem Mr:∀ (H':DHp) (p:Bool) (i:Nat) (hs:List DHop),Bl p i H'=some hs→X5 p i (B7 G H')=some (hs.map (J6 G))
 | [],false,i,hs,h=>by simp [Bl] at h;subst h;rfl
 | [],true,i,hs,h=>by simp [Bl] at h
 | some b::H',false,i,hs,h=>by
  simp only [Bl] at h;split at h
  ·rename_i hs' h1;simp at h;subst h
   have:=Mr H' false (i+1) hs' h1
   simp only [B7] at this;simp only [B7,List.map_cons,Option.map_some,X5,this,J6]
  ·simp at h
 | some b::H',true,i,hs,h=>by
  simp only [Bl] at h;split at h
  ·rename_i hs' h1;simp at h;subst h
   have:=Mr H' false (i+1) hs' h1
   simp only [B7] at this;simp only [B7,List.map_cons,Option.map_some,X5,this,J6]
  ·simp at h
 | none::H',false,i,hs,h=>by
  simp only [Bl] at h;split at h
  ·rename_i hs' h1;simp at h;subst h
   have:=Mr H' true (i+1) hs' h1
   simp only [B7] at this;simp only [B7,List.map_cons,Option.map_none,X5,this,J6,D8,vL,vVs]
  ·simp at h
 | none::H',true,i,hs,h=>by
  simp only [Bl] at h;split at h
  ·rename_i hs' h1;simp at h;subst h
   have:=Mr H' true (i+1) hs' h1
   simp only [B7] at this;simp only [B7,List.map_cons,Option.map_none,X5,this,J6,D8,vL,vVs]
  ·simp at h
theorem fV:∀ (H H':DHp) (i:Nat) (hs:List DHop),Ip i H H'=some hs→Ac false i (B7 G H) (B7 G H')=some (hs.map (J6 G))
 | [],H',i,hs,h=>by
  simp only [Ip] at h
  have:=Mr (G:=G) H' false i hs h
  simp only [B7,List.map_nil,Ac] at this ⊢;exact this
 | x::H,some b::H',i,hs,h=>by
  cases x<;>simp only [Ip] at h
  all_goals
   split at h
   ·rename_i hs' h1;simp at h;subst h
    have:=fV H H' (i+1) hs' h1
    simp only [B7] at this;simp only [B7,List.map_cons,Option.map_some,Option.map_none,Ac,Bool.false_and,this,J6]
   ·simp at h
 | none::H,none::H',i,hs,h=>by
  simp only [Ip] at h
  have:=fV H H' (i+1) hs h
  simp only [B7] at this;simp only [B7,List.map_cons,Option.map_none,Ac,this]
 | some _::H,none::H',i,hs,h=>by simp [Ip] at h
 | some _::H,[],i,hs,h=>by simp [Ip] at h
 | none::H,[],i,hs,h=>by simp [Ip] at h
theorem Mq (fn:Func) (args:List EV):vVs G (Cx fn args)=N3 fn (vVs G args):=by
 unfold Cx N3;rw [Qz,P6];congr 1;rw [Q5,List.map_replicate];simp only [vV,vVs]
theorem N1 (F:DFr) (d:Option Tmp) (v:EV):vVs G (K4 F d v)=put (vVs G F) d (vV G v):=by
 cases d<;>simp only [K4,Rg,put,qH]
theorem hU {K:DCfg} {r1 r2:Code→Bool} (h:∀ c,r1 c=true→r2 c=true):∀ c,R3 K r1 c=true→R3 K r2 c=true:=by
 have op:∀ o,Bz K r1 o=true→Bz K r2 o=true:=fun o ho=>by
  unfold Bz at ho ⊢
  split at ho<;>first
   | rfl
   | (simp at ho;done)
   | skip
  split at ho
  ·rename_i g _ _;obtain ⟨h1,h2⟩:=P3 ho;rw [h1];simp only [Bool.true_and];split at h2
   ·split at h2
    ·exact h _ h2
    ·rfl
   ·rfl
  ·simp at ho
 intro c
 induction c with
 | region id ops d=>simp only [R3,xM];exact fun h o ho=>op o (h o ho)
 | seq a b iha ihb=>simp only [R3,zN];exact fun h=>⟨iha h.1,ihb h.2⟩
 | cond x a b iha ihb=>simp only [R3,zN];exact fun h=>⟨iha h.1,ihb h.2⟩
 | block id c ih=>exact ih
 | scope c ih=>exact ih
 | _=>intro h;simp_all [R3]
theorem Yb {K:DCfg}:∀ d c,P2 K d c=true→P2 K (d+1) c=true
 | 0,c,h=>by simp [P2] at h
 | d+1,c,h=>hU (Yb d) c h
def H6 (H:DHp):T→Prop
 | .fail=>True
 | .chk _ t=>H6 H t
 | .tst _ x y=>H6 H x∧H6 H y
 | .imp _ t=>H6 H t
 | .allI _ k=>∀ x,H6 H (k x)
 | .allN _ k=>∀ x,H6 H (k x)
 | .allB _ k=>∀ x,H6 H (k x)
 | .allL _ k=>∀ x,H6 H (k x)
 | .namI _ _ k=>∀ x,H6 H (k x)
 | .namN _ _ k=>∀ x,H6 H (k x)
 | .namB _ _ k=>∀ x,H6 H (k x)
 | .namL _ _ k=>∀ x,H6 H (k x)
 | .leaf ..=>True
 | .ret _ H'=>H'=H
theorem Fx {H:DHp}:∀ (b:EB) {t:T},H6 H t→H6 H (Bv b t)
 | .lit true,t,h=>h
 | .lit false,t,h=>trivial
 | .and a b,t,h=>by simp only [Bv];exact Fx a (Fx b h)
 | .var ..,t,h=>h
 | .cmp ..,t,h=>h
 | .not ..,t,h=>h
 | .eqB ..,t,h=>h
 | .eqS ..,t,h=>h
 | .isI ..,t,h=>h
 | .isB ..,t,h=>h
 | .isT ..,t,h=>h
 | .isR ..,t,h=>h
 | .get ..,t,h=>h
 | .leN ..,t,h=>h
 | .eqN ..,t,h=>h
 | .leaf ..,t,h=>h
 | .u8s ..,t,h=>h
 | .cells ..,t,h=>h
 | .isF ..,t,h=>h
 | .isP ..,t,h=>h
 | .isNil ..,t,h=>h
 | .rows ..,t,h=>h
 | .uf ..,t,h=>h
theorem R7 {H:DHp} {fs:Facts} {b:EB} {x y:Facts→T} (hx:∀ fs,H6 H (x fs)) (hy:∀ fs,H6 H (y fs)) :
  H6 H (match dec fs b with | some true=>.chk b (x fs) | some false=>.chk (.not b) (y fs) | none=>.tst b (x (In fs b true)) (y (In fs b false))):=by
 split
 ·exact hx _
 ·exact hy _
 ·exact ⟨hx _,hy _⟩
theorem Bq {H:DHp}:∀ (b:EB) (fs:Facts) (x y:Facts→T),(∀ fs,H6 H (x fs))→(∀ fs,H6 H (y fs))→H6 H (Ad fs b x y)
 | .lit true,fs,x,y,hx,hy=>hx _
 | .lit false,fs,x,y,hx,hy=>hy _
 | .not b,fs,x,y,hx,hy=>by simp only [Ad];exact Bq b fs y x hy hx
 | .and a b,fs,x,y,hx,hy=>by simp only [Ad];exact Bq a fs _ _ (fun fs=>Bq b fs x y hx hy) hy
 | .eqB a b,fs,x,y,hx,hy=>by simp only [Ad];exact Bq a fs _ _ (fun fs=>Bq b fs x y hx hy) (fun fs=>Bq b fs y x hy hx)
 | .var ..,fs,x,y,hx,hy=>R7 hx hy
 | .cmp ..,fs,x,y,hx,hy=>R7 hx hy
 | .eqS ..,fs,x,y,hx,hy=>R7 hx hy
 | .isI ..,fs,x,y,hx,hy=>R7 hx hy
 | .isB ..,fs,x,y,hx,hy=>R7 hx hy
 | .isT ..,fs,x,y,hx,hy=>R7 hx hy
 | .isR ..,fs,x,y,hx,hy=>R7 hx hy
 | .get ..,fs,x,y,hx,hy=>R7 hx hy
 | .leN ..,fs,x,y,hx,hy=>R7 hx hy
 | .eqN ..,fs,x,y,hx,hy=>R7 hx hy
 | .leaf ..,fs,x,y,hx,hy=>R7 hx hy
 | .u8s ..,fs,x,y,hx,hy=>R7 hx hy
 | .cells ..,fs,x,y,hx,hy=>R7 hx hy
 | .isF ..,fs,x,y,hx,hy=>R7 hx hy
 | .isP ..,fs,x,y,hx,hy=>R7 hx hy
 | .isNil ..,fs,x,y,hx,hy=>R7 hx hy
 | .rows ..,fs,x,y,hx,hy=>R7 hx hy
 | .uf ..,fs,x,y,hx,hy=>R7 hx hy
theorem sJ {H:DHp} {fs:Facts} {o:EB×FamR} {k:Facts→EV→T} (h:∀ fs v,H6 H (k fs v)):H6 H (fO fs o k):=by
 obtain ⟨c0,x⟩:=o;cases x with
 | val c v=>exact Fx c0 (Fx c (h _ _))
 | ptr n c v=>exact Fx c0 (Bq n fs _ _ (fun fs=>h _ _) (fun fs=>Fx c (h _ _)))
theorem Qn {H:DHp} {o:Option (EB×EV)} {k:EV→T} (h:∀ v,H6 H (k v)):H6 H (aX o k):=by
 unfold aX;split
 ·exact Fx _ (h _)
 ·trivial
def aY:Outs→Prop
 | .one _ hs=>hs=[]
 | .chk _ x=>aY x
 | .tst _ x y=>aY x∧aY y
 | .namI _ f=>∀ x,aY (f x)
 | .namN _ f=>∀ x,aY (f x)
 | .namB _ f=>∀ x,aY (f x)
 | .namL _ f=>∀ x,aY (f x)
theorem Fw {H:DHp} {k:Facts→EV→List DHop→T} (hk:∀ fs v,H6 H (k fs v [])):∀ (o:Outs) (fs:Facts),aY o→H6 H (Ct fs o k)
 | .one v hs,fs,ho=>by have:hs=[]:=ho;subst this;exact hk _ _
 | .chk b x,fs,ho=>Fx b (Fw hk x fs ho)
 | .tst b x y,fs,ho=>Bq b fs _ _ (fun fs=>Fw hk x fs ho.1) (fun fs=>Fw hk y fs ho.2)
 | .namI e f,fs,ho=>fun x=>Fw hk _ _ (ho _)
 | .namN e f,fs,ho=>fun x=>Fw hk _ _ (ho _)
 | .namB e f,fs,ho=>fun x=>Fw hk _ _ (ho _)
 | .namL e f,fs,ho=>fun x=>Fw hk _ _ (ho _)
theorem Wn {H:DHp}:∀ (t:T) (o:Outs),I1 true H t=some o→aY o
 | .ret v H',o,h=>by simp [I1] at h;subst h;rfl
 | .chk b t,o,h=>by
  simp only [I1] at h;split at h
  ·rename_i o' h1;simp at h;subst h;exact Wn t o' h1
  ·simp at h
 | .tst b x y,o,h=>by
  simp only [I1] at h;split at h
  ·rename_i o1 o2 h1 h2;simp at h;subst h;exact ⟨Wn x o1 h1,Wn y o2 h2⟩
  ·simp at h
 | .fail,o,h=>by simp [I1] at h
 | .allI ..,o,h=>by simp [I1] at h
 | .allN ..,o,h=>by simp [I1] at h
 | .allB ..,o,h=>by simp [I1] at h
 | .allL ..,o,h=>by simp [I1] at h
 | .leaf ..,o,h=>by simp [I1] at h
 | .imp ..,o,h=>by simp [I1] at h
 | .namI ..,o,h=>by simp [I1] at h
 | .namN ..,o,h=>by simp [I1] at h
 | .namB ..,o,h=>by simp [I1] at h
 | .namL ..,o,h=>by simp [I1] at h
def jY (K:DCfg):jH→Bool
 | .code c=>P2 K 20 c
 | .ops _ l=>l.all (Bz K (P2 K 20))
 | .dr _ l _=>l.all (Bz K (P2 K 20))
theorem hO {K:DCfg} {o:Oper} {F:DFr} {f:FuncId} {args:List EV} (hk:kdOf K.P o.op=.call) (hr:Bz K (P2 K 20) o=true) (hc:Sr F o.op=some (f,args)) :
  K.inl f=true∧∀ fn c,K.P.funcs[f]?=some fn→fn.body=some c→P2 K 20 c=true:=by
 unfold Bz at hr;rw [hk] at hr;simp only at hr;split at hr
 ·rename_i g args' ts hop;rw [hop] at hc;simp only [Sr,evD,zK,yN] at hc;obtain ⟨rfl,_⟩:=hc;obtain ⟨h1,h2⟩:=P3 hr;refine ⟨h1,fun fn c hf hb=>?_⟩;rw [hf] at h2;simp only [hb] at h2;exact h2
 ·simp at hr
theorem lZ {K:DCfg} {o:Oper} {F:DFr} {i:Nat} {args:List EV} (hk:kdOf K.P o.op=.call) (hr:Bz K (P2 K 20) o=true) (hc:dC F o.op=some (i,args)):False:=by
 unfold Bz at hr;rw [hk] at hr;simp only at hr;split at hr
 ·rename_i g args' ts hop;rw [hop] at hc;simp [dC,evD] at hc
 ·simp at hr
theorem dx_ro {K:DCfg}:∀ n m wk F H fs q,jY K wk=true→(∀ e F fs,H6 H (q e F H fs))→H6 H (dx K n m wk F H fs q):=by
  intro n
  induction n with
  | zero => intro m wk F H fs q _ _; trivial
  | succ n ih=>
    intro m wk F H fs q hr hq
    have guard:∀ {all:List Oper} {g:Option (Nat×Bool)} {go skip:DFr→Facts→T},(∀ F fs,H6 H (go F fs))→(∀ F fs,H6 H (skip F fs))→H6 H (Mp fs all g F go skip):=by
      intro all g go skip h1 h2;unfold Mp;split
      · exact h1 _ _
      · split
        · split
          · refine Bq _ _ _ _ (fun fs=>?_) (fun fs=>?_)<;>split<;>first | exact h1 _ _ | exact h2 _ _
          · exact h2 _ _
          · trivial
        · trivial
    cases wk with
    | ops all l=>
      show H6 H (Lr K (dx K n) m all l F H fs q);cases l with
      | nil=>exact hq _ _ _
      | cons o l=>
        obtain ⟨dst,op,ty,pos,after,g⟩:=o;simp only [jY,List.all_cons,zN] at hr;obtain ⟨ho,hl⟩:=hr;simp only [Lr];refine guard (fun F fs=>?_) (fun F fs=>ih _ _ _ _ _ _ hl hq);unfold Hj;split
        · exact Qn fun v=>ih _ (.ops all l) _ _ _ _ hl hq
        · split
          · exact sJ fun fs v=>ih _ (.ops all l) _ _ _ _ hl hq
          · exact Qn fun v=>ih _ (.ops all l) _ _ _ _ hl hq
        · rename_i hk;simp [Bz,hk] at ho
        · rename_i hk;split
          · rename_i f args hc;obtain ⟨hi,hb⟩:=hO hk ho hc;rw [hi];simp only;split
            · rename_i fn hf;split
              · rename_i c hbody;split
                · trivial
                · refine ih _ (.code c) _ _ _ _ (hb fn c hf hbody) fun e F fs=>?_;unfold Mb;split
                  · trivial
                  · exact Qn fun v=>ih _ _ _ _ _ _ hl hq
              · trivial
            · trivial
          · split
            · rename_i i args hy;exact (lZ hk ho hy).elim
            · trivial
    | dr all l trs=>
      show H6 H (Hk K (dx K n) m all l trs F H fs q);cases l with
      | nil=>
        simp only [Hk];split
        · exact hq _ _ _
        · trivial
      | cons o l=>
        obtain ⟨dst,op,ty,pos,after,g⟩:=o;simp only [jY,List.all_cons,zN] at hr;obtain ⟨ho,hl⟩:=hr;simp only [Hk];refine guard (fun F fs=>?_) (fun F fs=>ih _ (.dr all l _) _ _ _ _ hl hq);unfold Tu;split
        · exact Qn fun v=>ih _ (.dr all l _) _ _ _ _ hl hq
        · split
          · exact sJ fun fs v=>ih _ (.dr all l _) _ _ _ _ hl hq
          · exact Qn fun v=>ih _ (.dr all l _) _ _ _ _ hl hq
        · rename_i hk;simp [Bz,hk] at ho
        · rename_i hk;split
          · rename_i f args hc;obtain ⟨hi,hb⟩:=hO hk ho hc;rw [hi];simp only;split
            · rename_i fn hf;split
              · rename_i c hbody;split
                · trivial
                · split
                  · rename_i o' ho';rw [hb fn c hf hbody] at ho';exact Fw (fun fs v=>ih _ (.dr all l _) _ _ _ _ hl hq) o' fs (Wn _ _ ho')
                  · trivial
              · trivial
            · trivial
          · split
            · rename_i i args hy;exact (lZ hk ho hy).elim
            · trivial
    | code c=>
      have sub:∀ {c':Code},R3 K (P2 K 19) c'=true→jY K (.code c')=true:=fun h=>h;show H6 H (Cm K (dx K n) m c F H fs q);have hr:R3 K (P2 K 19) c=true:=hr
      have opsOk:∀ {l:List Oper},l.all (Bz K (P2 K 19))=true→l.all (Bz K (P2 K 20))=true:=fun {l} h=>by
        have:=hU (K:=K) (r1:=P2 K 19) (r2:=P2 K 20) (fun c=>Yb 19 c) (.region 0 l.toArray false) (by simpa [R3] using h)
        simpa [R3] using this
      cases c with
      | skip=>exact hq _ _ _
      | region id ops draw=>
        simp only [R3] at hr;cases draw with
        | true=>exact ih _ (.dr _ _ _) _ _ _ _ (opsOk hr) hq
        | false=>exact ih _ (.ops _ _) _ _ _ _ (opsOk hr) hq
      | seq a b=>
        simp only [R3,zN] at hr;refine ih _ (.code a) _ _ _ _ (sub hr.1) fun e F fs=>?_;unfold aF;split
        · exact ih _ (.code b) _ _ _ _ (sub hr.2) hq
        · exact hq _ _ _
      | cond x a b=>
        simp only [R3,zN] at hr;obtain ⟨ra,rb⟩:=hr;simp only [Cm,Iw];split
        · split
          · exact Bq _ _ _ _ (fun fs=>ih _ (.code a) _ _ _ _ (sub ra) hq) (fun fs=>ih _ (.code b) _ _ _ _ (sub rb) hq)
          · trivial
        · split
          · exact ih _ (.code a) _ _ _ _ (sub ra) hq
          · exact ih _ (.code b) _ _ _ _ (sub rb) hq
        · trivial
      | block id c=>
        refine ih _ (.code c) _ _ _ _ (sub hr) fun e F fs=>?_;unfold Mu;split
        · split
          · exact hq _ _ _
          · exact hq _ _ _
        · exact hq _ _ _
      | loop c=>simp [R3] at hr
      | exit i=>exact hq _ _ _
      | scope c=>exact ih _ (.code c) _ _ _ _ (sub hr) hq
      | label i=>exact hq _ _ _
      | ret=>exact hq _ _ _
      | _=>simp [R3] at hr
theorem Wp {C:A0} {f:FuncId} {args:List EV} {H:DHp} {ro:Bool}:∀ (t:T) (o:Outs),I1 ro H t=some o→(ro=true→H6 H t)→
  (∀ R:AV→Hp→Prop,vT C.G (fun _ _ _=>False) R t→ACalls C f (vVs C.G args) (B7 C.G H) R)→Ea C.G (E0 C f args H) o
 | .ret v H',o,h,hro,hc=>by
  simp only [I1] at h;split at h
  ·simp at h;subst h
   have:=hro rfl
   simp only [H6] at this;subst this;exact hc _ ⟨rfl,rfl⟩
  ·split at h
   ·rename_i hs hd;simp at h;subst h;have e:=Jm 0 [] _ _ _ rfl (fV (G:=C.G) _ _ _ _ hd);simp only [List.nil_append] at e;exact hc _ ⟨rfl,e.symm⟩
   ·simp at h
 | .chk b t,o,h,hro,hc=>by
  simp only [I1] at h;split at h
  ·rename_i o' h1;simp at h;subst h;exact fun hb=>Wp t o' h1 hro fun R hR=>hc R ⟨hb,hR⟩
  ·simp at h
 | .tst b x y,o,h,hro,hc=>by
  simp only [I1] at h;split at h
  ·rename_i o1 o2 h1 h2;simp at h;subst h
   exact ⟨fun hb=>Wp x o1 h1 (fun hr=>(hro hr).1) fun R hR=>hc R ⟨fun _=>hR,fun hb'=>by rw [hb] at hb';simp at hb'⟩,
    fun hb=>Wp y o2 h2 (fun hr=>(hro hr).2) fun R hR=>hc R ⟨fun hb'=>by rw [hb] at hb';simp at hb',fun _=>hR⟩⟩
  ·simp at h
 | .fail,o,h,_,_=>by simp [I1] at h
 | .allI ..,o,h,_,_=>by simp [I1] at h
 | .allN ..,o,h,_,_=>by simp [I1] at h
 | .allB ..,o,h,_,_=>by simp [I1] at h
 | .allL ..,o,h,_,_=>by simp [I1] at h
 | .leaf ..,o,h,_,_=>by simp [I1] at h
 | .imp ..,o,h,_,_=>by simp [I1] at h
 | .namI ..,o,h,_,_=>by simp [I1] at h
 | .namN ..,o,h,_,_=>by simp [I1] at h
 | .namB ..,o,h,_,_=>by simp [I1] at h
 | .namL ..,o,h,_,_=>by simp [I1] at h
theorem fM {C:A0} {K:DCfg} {Q:Ex→List AV→Hp→Prop} {R:AV→Hp→Prop} (hG:C.G=C.G) {F:DFr} {H:DHp} {op:Op} {o:EB×FamR} {fs:Facts} {k:Facts→EV→T} (ho:oL K.fam C.P F H op=some o) (h:vT C.G Q R (fO fs o k)) :
  ∃ fs2 v,M5 C (vVs C.G F) (B7 C.G H) op=some (true,vV C.G v)∧vT C.G Q R (k fs2 v):=by
 obtain ⟨c0,x⟩:=o;cases x with
 | val c v=>
  simp only [fO] at h;obtain ⟨h0,h⟩:=Q6 c0 h;obtain ⟨h1,h⟩:=Q6 c h;exact ⟨fs,v,zW hG ho h0 h1,h⟩
 | ptr n c v=>
  simp only [fO] at h;obtain ⟨h0,h⟩:=Q6 c0 h;have hw:=zW hG ho h0;rcases V6 n fs _ _ h with ⟨h1,fs1,_,h2⟩ | ⟨h1,fs1,_,h2⟩
  ·exact ⟨fs1,.nilp,by rw [hw.1 h1];simp only [vV],h2⟩
  ·obtain ⟨h3,h4⟩:=Q6 c h2;exact ⟨fs1,v,hw.2 h3,h4⟩
theorem aU1 {F:DFr} {op:Op}:Lu (vVs G F) op=(Wf F op).map (vR G):=by
 unfold Lu Wf;cases op<;>simp only [Option.map_none]
 ·simp only [←vV_evD];generalize evD F _=x;cases x<;>simp only [vV,Option.map_some,Option.map_none]
 ·simp only [←vV_evD];generalize evD F _=x;cases x<;>simp only [vV,Option.map_some,Option.map_none]
theorem K1 {P P':Ex→DFr→DHp→Prop} (hp:∀ e F H,P e F H→P' e F H):∀ (o:LOut) (n:Nat),K2 G P n o→K2 G P' n o
 | .one e F H,n,h=>hp _ _ _ h
 | .chk b x,n,h=>⟨h.1,K1 hp x n h.2⟩
 | .tst b x y,n,h=>⟨fun hb=>K1 hp x n (h.1 hb),fun hb=>K1 hp y n (h.2 hb)⟩
 | .imp b x,n,h=>fun hb=>K1 hp x n (h hb)
 | .allI f,n,h=>fun x=>K1 hp (f (.var n x)) (n+1) (h x)
 | .allN f,n,h=>fun x=>K1 hp (f (.var n x)) (n+1) (h x)
 | .allB f,n,h=>fun x=>K1 hp (f (.var n x)) (n+1) (h x)
 | .allL f,n,h=>fun x=>K1 hp (f (.var n x)) (n+1) (h x)
 | .namI e f,n,h=>K1 hp (f (.var n _)) (n+1) h
 | .namN e f,n,h=>K1 hp (f (.var n _)) (n+1) h
 | .namB e f,n,h=>K1 hp (f (.var n _)) (n+1) h
 | .namL e f,n,h=>K1 hp (f (.var n _)) (n+1) h
def LpD (K:DCfg) (lps:List Code) (wk:jH):Prop:=
 match wk with
 | .code c=>∀ b∈B5 c,b∈lps
 | _=>True
theorem Zn {Q:Ex→List AV→Hp→Prop} {R:AV→Hp→Prop} {fs:Facts} {all:List Oper} {g:Option (Nat×Bool)} {F:DFr} {go skip:DFr→Facts→T} (h:vT G Q R (Mp fs all g F go skip)) :
  ∃ F' fs',vVs G F'=vVs G F∧F'.length=F.length∧((wantA all g (vVs G F)=some true∧vT G Q R (go F' fs'))∨(wantA all g (vVs G F)=some false∧vT G Q R (skip F' fs'))):=by
 unfold Mp at h;unfold wantA;split at h
 ·exact ⟨F,fs,rfl,rfl,.inl ⟨rfl,h⟩⟩
 ·rename_i j want;simp only;split at h
  ·rename_i t ht;simp only [ht,Z2];rw [Ff] at h;split at h
   ·rename_i b hb
    have hv:∀ x:Bool,vB G b=x→vVs G (K4 F (some t) (.bool (.lit x)))=vVs G F:=fun x hx=>by
     rw [N1];simp only [put,vV,vB];refine W2 ?_ (by simp);rw [Z2,hb];simp only [vV,hx]
    rw [hb];simp only [vV];rcases V6 b fs _ _ h with ⟨h1,fs1,_,h2⟩ | ⟨h1,fs1,_,h2⟩
    ·refine ⟨K4 F (some t) (.bool (.lit true)),fs1,hv _ h1,by simp [K4,Rg],?_⟩;rw [h1];cases want
     ·exact .inr ⟨rfl,h2⟩
     ·exact .inl ⟨rfl,h2⟩
    ·refine ⟨K4 F (some t) (.bool (.lit false)),fs1,hv _ h1,by simp [K4,Rg],?_⟩;rw [h1];cases want
     ·exact .inl ⟨rfl,h2⟩
     ·exact .inr ⟨rfl,h2⟩
   ·rename_i hb;rw [hb];simp only [vV,vVs];exact ⟨F,fs,rfl,rfl,.inr ⟨trivial,h⟩⟩
   ·exact h.elim
  ·exact h.elim
theorem Sn {C:A0} {K:DCfg} {lps:List Code} (hK:L6 C K lps):∀ n m wk F H fs q (Q:Post) (QQ:Ex→List AV→Hp→Prop) (RR:AV→Hp→Prop),
    (∀ e F H fs,vT C.G QQ RR (q e F H fs)→Q e (vVs C.G F) (B7 C.G H))→LpD K lps wk→vT C.G QQ RR (dx K n m wk F H fs q)→Snd (K0 C) m (vWk C.G wk) (vVs C.G F) (B7 C.G H) Q:=by
  have hG:C.G=C.G:=rfl;have hP:=hK.hP;intro n
  induction n with
  | zero => intro m wk F H fs q Q QQ RR _ _ h; exact h.elim
  | succ n ih=>
    intro m wk F H fs q Q QQ RR hq hlp h;have g0:=Lg (C:=C) hK.mix lps;cases wk with
    | ops all l=>
      change vT C.G QQ RR (Lr K (dx K n) m all l F H fs q) at h;cases l with
      | nil=>exact fun r ρ a w hm hH hF=>⟨.normal,ρ,_,_,rfl,hq _ _ _ _ h,K9.refl m ρ,hH,hF,Frm.refl ρ w⟩
      | cons o l=>
        obtain ⟨dst,op,ty,pos,after,guard⟩:=o;simp only [Lr] at h;obtain ⟨F',fs',hFe,_,h⟩:=Zn h;rw [← hFe];rw [← hFe] at h;rcases h with ⟨hw,h⟩ | ⟨hw,h⟩
        · unfold Hj at h;rw [hP] at h;split at h
          · rename_i hk;obtain ⟨c,v,h1,h2,h3⟩:=Cf h
            have:=ih m (.ops all l) _ _ _ _ _ _ _ hq trivial h3
            rw [N1] at this;exact Q9 (lps:=lps) g0 (.pure hw hk (eK _ _ h1 h2)) this
          · rename_i hk;split at h
            · rename_i o ho;obtain ⟨fs2,v,h1,h3⟩:=fM hG (o:=o) ho h
              have:=ih m (.ops all l) _ _ _ _ _ _ _ hq trivial h3
              rw [N1] at this;exact Q9 (lps:=lps) g0 (.read hw hk h1) this
            · obtain ⟨c,v,h1,h2,h3⟩:=Cf h
              have:=ih m (.ops all l) _ _ _ _ _ _ _ hq trivial h3
              rw [N1] at this;exact Q9 (lps:=lps) g0 (.read hw hk (eD hG _ _ h1 h2)) this
          · rename_i hk;split at h
            · rename_i c v x hx;obtain ⟨h2,h3⟩:=Q6 c h
              have:=ih m (.ops all l) _ _ _ _ _ _ _ hq trivial h3
              rw [N1,Rb] at this;exact Q9 (lps:=lps) g0 (.write hw hk (Yk hG _ _ _ hx h2)) this
            · split at h
              · rename_i c hs hx;obtain ⟨h2,h3⟩:=Q6 c h;obtain ⟨hp,e1,e2⟩:=gH hG hx h2
                have:=ih m (.ops all l) _ _ _ _ _ _ _ hq trivial h3
                rw [N1,V5,←e2] at this;simp only [vV,vVs] at this;exact Q9 (lps:=lps) g0 (.write hw hk e1) this
              · exact h.elim
          · rename_i hk;split at h
            · rename_i f args hc;have hc:=Xs (G:=C.G) hc;split at h
              · rename_i hi;split at h
                · rename_i fn hfn;split at h
                  · rename_i c hb;split at h
                    · exact h.elim
                    · rename_i hnm
                      have hbody:∀ (r:Option Nat),Cb r c=true→∀ (ρ:Env) (a:Act) (w:World),(B7 C.G H).length≤(B7 C.G H).length→B1 C ρ (B7 C.G H) w→D0 ρ (N3 fn (vVs C.G args)) a→
                          c.wpIn (W r) 0 C.P (AP C (B7 C.G H).length ρ w (N0 C fn fun v' H'=>∃ v H1 fs,v'=vV C.G v∧H'=B7 C.G H1∧vT C.G QQ RR (dx K n m (.ops all l) (K4 F' dst v) H1 fs q))) a w:=by
                        have:=ih H.length (.code c) (Cx fn args) H fs' _ (N0 C fn fun v' H'=>∃ v H1 fs,v'=vV C.G v∧H'=B7 C.G H1∧vT C.G QQ RR (dx K n m (.ops all l) (K4 F' dst v) H1 fs q)) QQ RR (fun e F1 H1 fs1 ht=>by
                          unfold Mb at ht;split at ht
                          · exact ht.elim
                          · rename_i hne;obtain ⟨cc,v,q1,q2,q3⟩:=Cf ht;have e1:=aQ hG _ _ q1 q2;cases e with
                            | exit i=>exact absurd rfl (hne i)
                            | normal=>simp only [N0];rw [e1];exact ⟨v,H1,fs1,rfl,rfl,q3⟩
                            | ret=>simp only [N0];rw [e1];exact ⟨v,H1,fs1,rfl,rfl,q3⟩) (fun b hb'=>hK.inl f fn c hi hfn hb b hb') h
                        rw [Mq] at this;rw [← E3 (G := C.G) H] at this;exact this
                      have hcall:=acalls_of (f:=f) (C:=C) (fn:=fn) (K:=fun v' H'=>∃ v H1 fs,v'=vV C.G v∧H'=B7 C.G H1∧vT C.G QQ RR (dx K n m (.ops all l) (K4 F' dst v) H1 fs q)) hfn hb hnm (fun r hr ρ a w hH hF=>hbody r hr ρ a w (zA1 _) hH hF);intro r ρ a w hm hH hF;unfold wpListIn;rw [S7 hF hw,if_pos rfl];obtain ⟨cargs,hv,h1⟩:=Iq (w:=w) (o:=⟨dst,op,ty,pos,after,guard⟩) hF hc hcall.1;refine U0 (Wv hc) ?_;have h1:(execOp a.eval ⟨dst,op,ty,pos,after,guard⟩).run (K0 C).C.P w=.ok (.enter f cargs.toArray) w:=h1;rw [h1]
                      refine ⟨fun h=>by simp [W,Fence.wide] at h,Jk.2 ((hcall.2 ρ w cargs hH hv).mono ?_)⟩;rintro e w' ⟨v',cv,ρ',H',rfl,⟨v,H1,fs1,rfl,rfl,g1⟩,g2,g3,g4,g5⟩;have hp:=K9.of_le hH g2 hm
                      have:=ih m (.ops all l) _ _ _ _ _ _ _ hq trivial g1
                      rw [N1] at this;exact N6 (fun e a w h=>AP.link hp g5 h) l _ _ (this r ρ' _ w' (T3 hm hH g3 hp) g3 ((hF.mono g2).put _ _ _ g4))
                  · exact h.elim
                · exact h.elim
              · split at h
                · rename_i o ho;obtain ⟨fs1,v,hs,h1,h2⟩:=V7 o fs' h (hK.calls _ _ _ _ ho)
                  have:=ih m (.ops all l) _ _ _ _ _ _ _ hq trivial h2
                  rw [N1,V5] at this;exact Q9 (lps:=lps) g0 (.call hw hk hc h1) this
                · exact h.elim
            · split at h
              · rename_i i args hy;have hy:=kT (G:=C.G) hy;split at h
                · rename_i o ho;obtain ⟨fs1,v,hs,h1,h2⟩:=V7 o fs' h (hK.ylds _ _ _ _ ho)
                  have:=ih m (.ops all l) _ _ _ _ _ _ _ hq trivial h2
                  rw [N1,V5] at this;intro r ρ a w hm hH hF;unfold wpListIn;rw [S7 hF hw,if_pos rfl];refine h1 ρ _ w a ⟨dst,op,ty,pos,after,guard⟩ r _ _ hH hF hy ?_;rintro v' H' ρ' cv w' ⟨rfl,rfl⟩ g3 g4 g2 g5;have hp:=K9.of_le hH g2 hm;exact N6 (fun e a w h=>AP.link hp g5 h) l _ _ (this r ρ' _ w' (T3 hm hH g3 hp) g3 ((hF.mono g2).put _ _ _ g4))
                · exact h.elim
              · exact h.elim
        · have:=ih m (.ops all l) _ _ _ _ _ _ _ hq trivial h
          rw [N1] at this;simp only [vV,vVs] at this;exact Q9 (lps:=lps) g0 (.skip hw) this
    | dr all l trs=>
      change vT C.G QQ RR (Hk K (dx K n) m all l trs F H fs q) at h;cases l with
      | nil=>
        simp only [Hk] at h;split at h
        · rename_i hd;exact ⟨[],_,_,.nil _ _,by have:=aA0 (G:=C.G) all trs hd;simpa using this,hq _ _ _ _ h⟩
        · exact h.elim
      | cons o l=>
        obtain ⟨dst,op,ty,pos,after,guard⟩:=o;simp only [Hk] at h;obtain ⟨F',fs',hFe,_,h⟩:=Zn h;rw [← hFe];rw [← hFe] at h
        have go:∀ {tr:cX} {v:EV} {H':DHp} {fs1:Facts},St (K0 C) all ⟨dst,op,ty,pos,after,guard⟩ (vVs C.G F') (B7 C.G H) (gJ C.G tr) (vV C.G v) (B7 C.G H')→
            vT C.G QQ RR (dx K n m (.dr all l (trs++[tr])) (K4 F' dst v) H' fs1 q)→Snd (K0 C) m (vWk C.G (.dr all (⟨dst,op,ty,pos,after,guard⟩::l) trs)) (vVs C.G F') (B7 C.G H) Q:=by
          intro tr v H' fs1 hst hrec
          have:=ih m (.dr all l (trs++[tr])) _ _ _ _ _ _ _ hq trivial hrec
          rw [N1] at this;obtain ⟨trs',F1,H1,g1,g2,g3⟩:=this;exact ⟨gJ C.G tr::trs',F1,H1,.cons hst g1,by simpa using g2,g3⟩
        rcases h with ⟨hw,h⟩ | ⟨hw,h⟩
        · unfold Tu at h;rw [hP] at h;split at h
          · rename_i hk;obtain ⟨c,v,h1,h2,h3⟩:=Cf h;refine go (tr:=⟨.still,H.length,[]⟩) ?_ h3
            have:=St.pure (K:=K0 C) (all:=all) (o:=⟨dst,op,ty,pos,after,guard⟩) (H:=B7 C.G H) hw hk (eK _ _ h1 h2)
            rw [E3] at this;exact this
          · rename_i hk
            obtain ⟨fs2,v,h1,h3⟩:∃ fs2 v,M5 C (vVs C.G F') (B7 C.G H) op=some (true,vV C.G v)∧vT C.G QQ RR (dx K n m (.dr all l (trs++[⟨(match Wf F' op with | some r=>.read r | none=>.still),H.length,[]⟩])) (K4 F' dst v) H fs2 q):=by
              split at h
              · rename_i o ho;exact fM hG (o:=o) ho h
              · obtain ⟨c,v,h1,h2,h3⟩:=Cf h;exact ⟨_,v,eD hG _ _ h1 h2,h3⟩
            refine go ?_ h3
            have:=St.read (K:=K0 C) (all:=all) (o:=⟨dst,op,ty,pos,after,guard⟩) (H:=B7 C.G H) hw hk h1
            rw [E3] at this;refine cast (congrArg (fun tr=>St (K0 C) all ⟨dst,op,ty,pos,after,guard⟩ (vVs C.G F') (B7 C.G H) tr (vV C.G v) (B7 C.G H)) ?_) this;simp only [gJ,List.map_nil];congr 1;rw [aU1];cases Wf F' op<;>simp only [Option.map_some,Option.map_none,vTrK]
          · rename_i hk;split at h
            · rename_i c v x hx;obtain ⟨h2,h3⟩:=Q6 c h;refine go ?_ h3
              have:=St.write (K:=K0 C) (all:=all) (o:=⟨dst,op,ty,pos,after,guard⟩) hw hk (Yk hG _ _ _ hx h2)
              rw [E3,←Rb] at this;exact this
            · exact h.elim
          · rename_i hk;split at h
            · rename_i f args hc;have hc:=Xs (G:=C.G) hc
              have fin:∀ {o:Outs} {fs1:Facts},Ea C.G (E0 C f args H) o→vT C.G QQ RR (Ct fs1 o fun fs v hs=>dx K n m (.dr all l (trs++[⟨.write,H.length,hs⟩])) (K4 F' dst v) (Gu H hs) fs q)→
                  Snd (K0 C) m (vWk C.G (.dr all (⟨dst,op,ty,pos,after,guard⟩::l) trs)) (vVs C.G F') (B7 C.G H) Q:=by
                intro o fs1 ho ht;obtain ⟨fs2,v,hs,h1,h2⟩:=V7 o fs1 ht ho;refine go ?_ h2
                have:=St.call (K:=K0 C) (all:=all) (o:=⟨dst,op,ty,pos,after,guard⟩) hw hk hc h1
                rw [E3,←V5] at this;exact this
              split at h
              · rename_i hi;split at h
                · rename_i fn hfn;split at h
                  · rename_i c hb;split at h
                    · exact h.elim
                    · rename_i hnm;split at h
                      · rename_i o ho;refine fin (Wp _ _ ho (fun hr=>?_) fun R hR=>?_) h
                        · refine dx_ro n _ (.code c) _ _ _ _ hr fun e F fs=>?_;unfold Mb;split
                          · trivial
                          · exact Qn fun v=>rfl
                        · refine acalls_of (f:=f) (C:=C) (fn:=fn) hfn hb hnm fun r hr ρ a w hH hF=>?_
                          have:=ih H.length (.code c) (Cx fn args) H fs' _ (N0 C fn R) (fun _ _ _=>False) R (fun e F1 H1 fs1 ht=>by
                            unfold Mb at ht;split at ht
                            · exact ht.elim
                            · rename_i hne;obtain ⟨cc,v,q1,q2,q3⟩:=Cf ht;have e1:=aQ hG _ _ q1 q2;cases e with
                              | exit i=>exact absurd rfl (hne i)
                              | normal=>simp only [N0];rw [e1];exact q3
                              | ret=>simp only [N0];rw [e1];exact q3) (fun b hb'=>hK.inl f fn c hi hfn hb b hb') hR
                          rw [Mq,←E3 (G:=C.G) H] at this;exact this r hr ρ a w (zA1 _) hH hF
                      · exact h.elim
                  · exact h.elim
                · exact h.elim
              · split at h
                · rename_i o ho;exact fin (hK.calls _ _ _ _ ho) h
                · exact h.elim
            · split at h
              · rename_i i args hy;have hy:=kT (G:=C.G) hy;split at h
                · rename_i o ho;obtain ⟨fs2,v,hs,h1,h2⟩:=V7 o fs' h (hK.ylds _ _ _ _ ho);refine go ?_ h2
                  have:=St.yld (K:=K0 C) (all:=all) (o:=⟨dst,op,ty,pos,after,guard⟩) hw hy h1
                  rw [E3,←V5] at this;exact this
                · exact h.elim
              · exact h.elim
        · refine go (tr:=⟨.still,H.length,[]⟩) (v:=.tup []) ?_ h
          have:=St.skip (K:=K0 C) (all:=all) (o:=⟨dst,op,ty,pos,after,guard⟩) (H:=B7 C.G H) hw
          rw [E3] at this;simp only [vV,vVs];exact this
    | code c=>
      change vT C.G QQ RR (Cm K (dx K n) m c F H fs q) at h;intro r hr ρ a w hm hH hF;have here:∀ ae,Q ae (vVs C.G F) (B7 C.G H)→AP C m ρ w Q (Pg ae) a w:=fun ae hq=>⟨ae,ρ,_,_,rfl,hq,K9.refl m ρ,hH,hF,Frm.refl ρ w⟩;cases c with
      | skip=>exact wpIn_skip (here .normal (hq _ _ _ _ h))
      | region id ops draw=>
        cases draw with
        | true=>
          obtain ⟨trs',F',H',g1,g2,g3⟩:=ih m (.dr ops.toList ops.toList []) F H fs q Q QQ RR hq trivial h
          have:=cF (id:=id) (r:=r) (Q:=AP C m ρ w Q) (lps:=lps) g0 g1 (by simpa using g2) hH hF fun ρ' a' w' q1 q2 q3 q4=>⟨.normal,ρ',F',H',rfl,g3,K9.of_le hH q3 hm,q1,q2,q4⟩
          rwa [Array.toArray_toList] at this
        | false=>
          have:=ih m (.ops ops.toList ops.toList) F H fs q Q QQ RR hq trivial h r ρ a w hm hH hF
          rw [Array.toArray_toList] at this;exact wpIn_region_list this
      | seq x y=>
        have hx:LpD K lps (.code x):=fun b hb=>hlp b (List.mem_append.2 (.inl hb));have hy:LpD K lps (.code y):=fun b hb=>hlp b (List.mem_append.2 (.inr hb))
        have key:=ih m (.code x) F H fs (aF (dx K n) m y q) (fun e F1 H1=>match e with
          | .normal=>∀ ρ' a' w',m≤H1.length→B1 C ρ' H1 w'→D0 ρ' F1 a'→y.wpIn (W r) 0 C.P (AP C m ρ' w' Q) a' w'
          | e=>Q e F1 H1) QQ RR (fun e F1 H1 fs1 ht=>by
            cases e with
            | normal=>exact fun ρ' a' w' q1 q2 q3=>ih m (.code y) F1 H1 fs1 q Q QQ RR hq hy ht r (La hr).2 ρ' a' w' q1 q2 q3
            | exit i=>exact hq _ _ _ _ ht
            | ret=>exact hq _ _ _ _ ht) hx h r (La hr).1 ρ a w hm hH hF
        refine wpIn_seq (Code.wpIn_mono ?_ key);rintro e a' w' ⟨ae,ρ',F',H',rfl,h2,h3,h4,h5,h6⟩;cases ae with
        | normal=>exact Code.wpIn_mono (fun e a w h=>AP.link h3 h6 h) (h2 ρ' a' w' (T3 hm hH h4 h3) h4 h5)
        | exit i=>exact ⟨.exit i,ρ',F',H',rfl,h2,h3,h4,h5,h6⟩
        | ret=>exact ⟨.ret,ρ',F',H',rfl,h2,h3,h4,h5,h6⟩
      | cond c x y=>
        have hx:LpD K lps (.code x):=fun b hb=>hlp b (List.mem_append.2 (.inl hb));have hy:LpD K lps (.code y):=fun b hb=>hlp b (List.mem_append.2 (.inr hb));simp only [Cm,Iw] at h;split at h
        · rename_i t;rw [Ff] at h;split at h
          · rename_i b hb;have hv:=hF.at t;rw [Z2,hb] at hv;simp only [vV,VR] at hv
            have hs:∀ x:Bool,vB C.G b=x→vVs C.G (K4 F (some t) (.bool (.lit x)))=vVs C.G F:=fun x hx=>by
              rw [N1];simp only [put,vV,vB];refine W2 ?_ (by simp);rw [Z2,hb];simp only [vV,hx]
            rcases V6 b fs _ _ h with ⟨h1,fs1,_,h2⟩ | ⟨h1,fs1,_,h2⟩
            · rw [h1] at hv
              have:=ih m (.code x) _ H fs1 q Q QQ RR hq hx h2 r (Cv hr).1 ρ a w hm hH
              rw [hs _ h1] at this;exact wpIn_cond_true hv (this hF)
            · rw [h1] at hv
              have:=ih m (.code y) _ H fs1 q Q QQ RR hq hy h2 r (Cv hr).2 ρ a w hm hH
              rw [hs _ h1] at this;exact wpIn_cond_false hv (this hF)
          · exact h.elim
        · rename_i b;cases b with
          | true=>exact wpIn_cond_true rfl (ih m (.code x) F H fs q Q QQ RR hq hx h r (Cv hr).1 ρ a w hm hH hF)
          | false=>exact wpIn_cond_false rfl (ih m (.code y) F H fs q Q QQ RR hq hy h r (Cv hr).2 ρ a w hm hH hF)
        · exact h.elim
      | block id c=>
        have key:=ih m (.code c) F H fs (Mu id q) (T0 id Q) QQ RR (fun e F1 H1 fs1 ht=>by
          cases e with
          | normal=>exact hq _ _ _ _ ht
          | ret=>exact hq _ _ _ _ ht
          | exit i=>
            simp only [Mu] at ht;simp only [T0];cases hb:(i==id) with
            | true=>rw [hb] at ht;exact hq _ _ _ _ ht
            | false=>rw [hb] at ht;exact hq _ _ _ _ ht) (fun b hb=>hlp b hb) h r (Uq hr) ρ a w hm hH hF
        refine wpIn_block (Code.wpIn_mono ?_ key);rintro e a' w' ⟨ae,ρ',F',H',rfl,h2,h3⟩;cases ae with
        | normal=>exact ⟨.normal,ρ',F',H',rfl,h2,h3⟩
        | ret=>exact ⟨.ret,ρ',F',H',rfl,h2,h3⟩
        | exit i=>
          simp only [T0] at h2;show (if i=id then AP C m ρ w Q .normal a' w' else AP C m ρ w Q (.exit i) a' w');split at h2
          · rename_i hi;rw [if_pos (by simpa using hi)];exact ⟨.normal,ρ',F',H',rfl,h2,h3⟩
          · rename_i hi;rw [if_neg (by simpa using hi)];exact ⟨.exit i,ρ',F',H',rfl,h2,h3⟩
      | loop c=>
        simp only [Cm] at h;split at h
        · rename_i hm';split at h
          · rename_i o ho;have hmem:c∈lps:=hlp c (List.mem_cons_self ..);exact hK.loops m c F H o (rR hm') hmem ho fs.n Q (K1 (fun e F' H' ⟨fs',ht⟩=>hq _ _ _ _ ht) o fs.n (P7 o fs h)) r hr ρ a w hH hF
          · exact h.elim
        · exact h.elim
      | rangeFunc g ps as bd=>
        simp only [Cm] at h;split at h
        · rename_i hm';split at h
          · rename_i o ho;have hmem:Code.rangeFunc g ps as bd∈lps:=hlp _ (List.mem_cons_self ..);exact hK.rngs m _ F H o (rR hm') hmem ho fs.n Q (K1 (fun e F' H' ⟨fs',ht⟩=>hq _ _ _ _ ht) o fs.n (P7 o fs h)) r hr ρ a w hH hF
          · exact h.elim
        · exact h.elim
      | exit i=>exact wpIn_exit (here (.exit i) (hq _ _ _ _ h))
      | scope c=>
        refine Hc (Code.wpIn_mono ?_ (ih m (.code c) F H fs q Q QQ RR hq (fun b hb=>hlp b hb) h r (iF hr) ρ a w hm hH hF));rintro e a' w' h;obtain ⟨ae,ρ',F',H',rfl,h2⟩:=h;cases ae with
        | normal=>exact ⟨.normal,ρ',F',H',rfl,h2⟩
        | ret=>exact ⟨.ret,ρ',F',H',rfl,h2⟩
        | exit i=>exact ⟨.exit i,ρ',F',H',rfl,h2⟩
      | label i=>exact wpIn_label (here .normal (hq _ _ _ _ h))
      | ret=>exact wpIn_ret (here .ret (hq _ _ _ _ h))
      | _=>exact h.elim
end
section
variable {C:A0}
def f0 (n:Nat):Facts:=⟨n,[]⟩
noncomputable def G0 (K:DCfg) (fuel n0:Nat) (fn:Func) (args:List EV) (H:DHp) (keep:Nat):T:=
 dx K fuel H.length (.code (C6 fn)) (Cx fn args) H (f0 n0) (Mb K.P fn fun v H' _=>.ret v (H'.take keep))
def rdD (live:List Nat) (F:DFr):List EV:=live.map fun i=>F.getD i .undef
def Yf (N:Nat) (live:List Nat) (vs:List EV):DFr:=(List.range N).map fun i=>(((live.zip vs).find? fun p=>Nat.beq p.1 i).map (·.2)).getD .undef
def fL (N:Nat) (live:List Nat):DK:=fun e F H _=>match Nat.beq F.length N with
 | true=>.leaf e (rdD live F) H
 | false=>.fail
noncomputable def G3 (K:DCfg) (fuel n0 m:Nat) (c:Code) (N:Nat) (live:List Nat) (vs:List EV) (H:DHp):T:=
 dx K fuel m (.code c) (Yf N live vs) H (f0 n0) (fL N live)
theorem aA {G:Nat→List AV} (N:Nat) (live:List Nat) (vs:List EV):vVs G (Yf N live vs)=fl N live (vVs G vs):=by
 unfold Yf fl fr;rw [Q5,List.map_map];refine List.map_congr_left fun i _=>?_;simp only [Function.comp]
 induction live generalizing vs with
 | nil=>simp [vV]
 | cons x live ih=>
  cases vs with
  | nil=>simp [vV,vVs]
  | cons v vs=>
   simp only [vVs,List.zip_cons_cons,List.find?_cons];split
   ·rename_i h;simp only [Option.map_some,Option.getD_some]
   ·rename_i h;exact ih vs
theorem To {G:Nat→List AV} (live:List Nat) (F:DFr):vVs G (rdD live F)=Ca live (vVs G F):=by
 unfold rdD Ca;rw [Q5,List.map_map];refine List.map_congr_left fun i _=>?_;simp only [Function.comp,Z2]
theorem C1 {K : DCfg} {fuel n0 : Nat} {f : FuncId} {fn : Func} {args : List EV} {H : DHp} {keep : Nat} {R : AV → Hp → Prop} (hK : L6 C K (B5 (C6 fn))) (hf : C.P.funcs[f]? = some fn) (hb : fn.body = some (C6 fn)) (hn : (fn.name == "runtime.NumGoroutine") = false)
  (h:vT C.G (fun _ _ _=>False) R (G0 K fuel n0 fn args H keep)):ACalls C f (vVs C.G args) (B7 C.G H) fun v H'=>R v (H'.take keep):=by
 refine acalls_of hf hb hn fun r hr ρ a w hH hF=>?_
 have:=Sn hK fuel H.length (.code (C6 fn)) (Cx fn args) H (f0 n0) _ (N0 C fn fun v H'=>R v (H'.take keep)) (fun _ _ _=>False) R (fun e F1 H1 fs1 ht=>by
  unfold Mb at ht;split at ht
  ·exact ht.elim
  ·rename_i hne;obtain ⟨cc,v,q1,q2,q3⟩:=Cf ht;rw [hK.hP] at q1;have e1:=aQ rfl _ _ q1 q2;have e2:B7 C.G (H1.take keep)=(B7 C.G H1).take keep:=by simp only [B7,List.map_take]
   simp only [vT,e2] at q3;cases e with
   | exit i=>exact absurd rfl (hne i)
   | normal=>simp only [N0];rw [e1];exact q3
   | ret=>simp only [N0];rw [e1];exact q3) (fun b hb=>hb) h
 simp only [vWk,Mq] at this
 have:=this r hr ρ a w (by simp [E3]) hH hF
 rw [←E3 (G:=C.G) H] at this;exact this
theorem D1 {K:DCfg} {fuel n0 m:Nat} {c:Code} {N:Nat} {live:List Nat} {vs:List EV} {H:DHp} {Q:Ex→List AV→Hp→Prop} (hK:L6 C K (B5 c)) (hm:m≤H.length)
  (h:vT C.G Q (fun _ _=>False) (G3 K fuel n0 m c N live vs H)):AWp C m c (fl N live (vVs C.G vs)) (B7 C.G H) (lv N live Q):=by
 have:=Sn hK fuel m (.code c) (Yf N live vs) H (f0 n0) _ (lv N live Q) Q (fun _ _=>False) (fun e F1 H1 fs1 ht=>by
  unfold fL at ht;split at ht
  ·rename_i hb;simp only [vT,To] at ht;simp only [lv,P6,hb];exact ht
  ·exact ht.elim) (fun b hb=>hb) h
 rw [aA] at this;exact fun r hr ρ a w hH hF=>this r hr ρ a w (by simpa [E3] using hm) hH hF
abbrev DSum:=List EV→DHp→Option Outs
def cE:List (Nat×DSum)→FuncId→List EV→DHp→Option Outs
 | [],_,_,_=>none
 | (g,s)::l,f,args,H=>match Nat.beq g f with
  | true=>s args H
  | false=>cE l f args H
def D4 (C:A0) (f:FuncId) (s:DSum):Prop:=∀ args H o,s args H=some o→Ea C.G (E0 C f args H) o
def Q8 (C:A0) (l:List (Nat×DSum)):Prop:=∀ f args H o,cE l f args H=some o→Ea C.G (E0 C f args H) o
theorem Q8.nil:Q8 C []:=fun f args H o h=>by simp [cE] at h
theorem Q8.cons {g:Nat} {s:DSum} {l:List (Nat×DSum)} (h:D4 C g s) (k:Q8 C l):Q8 C ((g,s)::l):=by
 intro f args H o ho;simp only [cE] at ho;split at ho
 ·rename_i hg
  have:=yV hg
  subst this;exact h args H o ho
 ·exact k f args H o ho
theorem E0.of {f:FuncId} {s:Sum1} (hs:cR C f s) {args:List EV} {H:DHp} {v:EV} {hs':List DHop} (h:s (vVs C.G args) (B7 C.G H)=some (true,vV C.G v,hs'.map (J6 C.G))):E0 C f args H v hs':=
 hs _ _ _ _ h
abbrev DLoop:=List EV→DHp→Option LOut
def Fb (N:Nat) (live:List Nat):LOut→LOut
 | .one e vs H=>.one e (Yf N live vs) H
 | .chk b x=>.chk b (Fb N live x)
 | .tst b x y=>.tst b (Fb N live x) (Fb N live y)
 | .imp b x=>.imp b (Fb N live x)
 | .allI k=>.allI fun x=>Fb N live (k x)
 | .allN k=>.allN fun x=>Fb N live (k x)
 | .allB k=>.allB fun x=>Fb N live (k x)
 | .allL k=>.allL fun x=>Fb N live (k x)
 | .namI e k=>.namI e fun x=>Fb N live (k x)
 | .namN e k=>.namN e fun x=>Fb N live (k x)
 | .namB e k=>.namB e fun x=>Fb N live (k x)
 | .namL e k=>.namL e fun x=>Fb N live (k x)
structure DL where
 ex:Nat
 N:Nat
 live:List Nat
 S:DLoop
def Cz:List DL→Code→DFr→DHp→Option LOut
 | [],_,_,_=>none
 | d::l,c,F,H=>match Ot c with
  | some i=>match Nat.beq i d.ex with
   | true=>match Nat.beq F.length d.N with
    | true=>match d.S (rdD d.live F) H with
     | some o=>some (Fb d.N d.live o)
     | none=>none
    | false=>none
   | false=>Cz l c F H
  | none=>none
theorem N9 {G:Nat→List AV} {Q:Ex→DFr→DHp→Prop} {N:Nat} {live:List Nat}:∀ (o:LOut) (n:Nat),K2 G Q n (Fb N live o)→K2 G (fun e vs H=>Q e (Yf N live vs) H) n o
 | .one e F H,n,h=>h
 | .chk b x,n,h=>⟨h.1,N9 x n h.2⟩
 | .tst b x y,n,h=>⟨fun hb=>N9 x n (h.1 hb),fun hb=>N9 y n (h.2 hb)⟩
 | .imp b x,n,h=>fun hb=>N9 x n (h hb)
 | .allI f,n,h=>fun x=>N9 (f (.var n x)) (n+1) (h x)
 | .allN f,n,h=>fun x=>N9 (f (.var n x)) (n+1) (h x)
 | .allB f,n,h=>fun x=>N9 (f (.var n x)) (n+1) (h x)
 | .allL f,n,h=>fun x=>N9 (f (.var n x)) (n+1) (h x)
 | .namI e f,n,h=>N9 (f (.var n _)) (n+1) h
 | .namN e f,n,h=>N9 (f (.var n _)) (n+1) h
 | .namB e f,n,h=>N9 (f (.var n _)) (n+1) h
 | .namL e f,n,h=>N9 (f (.var n _)) (n+1) h
def Lp (m:Nat) (Q:Ex→List AV→Hp→Prop) (e:Ex) (vs'':List AV) (H'':Hp):Prop:=(∃ vs',wk vs' vs''∧Q e vs' H'')∨∃ vs' H',C2 m vs' H' vs'' H''∧Q e vs' H'
def H5 (C:A0) (M:Nat) (c:Code) (d:DL):Prop:=
 ∀ m vs H o,m≤M→d.S vs H=some o→∀ n (Q:Ex→List AV→Hp→Prop),K2 C.G (fun e vs' H'=>Q e (vVs C.G vs') (B7 C.G H')) n o→
  AWp C m (.loop c) (fl d.N d.live (vVs C.G vs)) (B7 C.G H) (lv d.N d.live (Lp m Q))
def S4 (C:A0) (M:Nat) (cs:List Code) (ls:Code→DFr→DHp→Option LOut):Prop:=∀ m c F H o,m≤M→c∈cs→ls c F H=some o→∀ n (Q:Post),K2 C.G (fun e F' H'=>Q e (vVs C.G F') (B7 C.G H')) n o→AWp C m (.loop c) (vVs C.G F) (B7 C.G H) Q
theorem S4.nil {M:Nat} {ls:Code→DFr→DHp→Option LOut}:S4 C M [] ls:=fun m c F H o _ h=>by simp at h
theorem AWp.wkd {m:Nat} {c:Code} {F:Fr} {H:Hp} {N:Nat} {live:List Nat} {Q:Ex→List AV→Hp→Prop} {Q':Post} (h:AWp C m c F H (lv N live (Lp m Q))) (hq:∀ e vs H',Q e vs H'→Q' e (fl N live vs) H'):AWp C m c F H Q':=by
 intro r hr ρ a w hH hF;refine Code.wpIn_mono ?_ (h r hr ρ a w hH hF);rintro e a' w' ⟨ae,ρ',F',H',rfl,h2,h3,h4,h5,h6⟩;obtain ⟨h7,h8⟩:=U6 h2;have hN:F'.length=N:=yV h7;rcases h8 with ⟨vs',h8,h9⟩ | ⟨vs',H1,h8,h9⟩
 ·exact ⟨ae,ρ',_,H',rfl,hq _ _ _ h9,h3,h4,wO h5 hN h8,h6⟩
 ·obtain ⟨ρ2,g1,g2,g3,g4⟩:=h8.live (N:=N) (live:=live) h4 h5.nod (by rw [←h5.len,hN]) (by simp [Ca]) (fun j i v q1 q2=>by
   simp only [Ca,sH,q1,Option.map_some,zK] at q2;subst q2;by_cases hi:i<F'.length
   ·exact h5.val i _ (by simp [List.getD,hi])
   ·simp [List.getD,hi,VR])
  exact ⟨ae,ρ2,_,H1,rfl,hq _ _ _ h9,h3.trans g3,g1,g2,h6.trans g4⟩
def cG (i:Nat):List DL→Option DL
 | []=>none
 | d::l=>match Nat.beq i d.ex with
  | true=>some d
  | false=>cG i l
theorem Ov {c:Code} {F:DFr} {H:DHp} {o:LOut} {i:Nat} (he:Ot c=some i):∀ (l:List DL),Cz l c F H=some o→∃ d,cG i l=some d∧F.length=d.N∧∃ o',d.S (rdD d.live F) H=some o'∧o=Fb d.N d.live o'
 | [],h=>by simp [Cz] at h
 | d::l,h=>by
  simp only [Cz,he] at h;simp only [cG];split at h
  ·rename_i hi;split at h
   ·rename_i hN;split at h
    ·rename_i o' ho;simp at h;subst h;exact ⟨d,rfl,yV hN,o',ho,rfl⟩
    ·simp at h
   ·simp at h
  ·exact Ov he l h
theorem S4.cons {M:Nat} {c:Code} {cs:List Code} {l:List DL} {d:DL} {i:Nat} (he:Ot c=some i) (hp:cG i l=some d) (h:H5 C M c d) (k:S4 C M cs (Cz l)):S4 C M (c::cs) (Cz l):=by
 intro m c' F H o hm hc ho n Q hQ;rcases List.mem_cons.1 hc with rfl | hc
 ·obtain ⟨d',h1,h2,o',h3,rfl⟩:=Ov he l ho;rw [hp] at h1;simp at h1;subst h1
  have:=h m _ _ _ hm h3 n (fun e vs H'=>Q e (fl d.N d.live vs) H') (by
   have:=N9 o' n hQ
   refine K1 (fun e vs H' hq=>?_) o' n this;rw [aA] at hq
   exact hq)
  have:=this.wkd (Q':=Q) fun e vs H' h=>h
  intro r hr ρ a w hH hF;refine this r hr ρ a w hH ?_
  have:=Mc (live:=d.live) (N:=d.N) hF (by rw [P6];exact h2)
  rw [To];exact this
 ·exact k m c' F H o hm hc ho n Q hQ
theorem S4.cast {M:Nat} {cs ds:List Code} {ls:Code→DFr→DHp→Option LOut} (h:S4 C M ds ls) (e:cs=ds):S4 C M cs ls:=by rw [e];exact h
theorem lone {m m':Nat} {c:Code} {N:Nat} {live:List Nat} {vs:List AV} {H:Hp} {e:Ex} {vs':List EV} {H':DHp} {Q:Ex→List AV→Hp→Prop}
  (h:AWp C m c (fl N live vs) H (lv N live fun e' vs'' H''=>e'=e∧wk (vVs C.G vs') vs''∧H''=B7 C.G H')) (hq:Q e (vVs C.G vs') (B7 C.G H')) :
  AWp C m c (fl N live vs) H (lv N live (Lp m' Q)):=
 h.lmono fun e' vs'' H'' ⟨h1,h2,h3⟩=>.inl ⟨_,h2,by rw [h1,h3];exact hq⟩
theorem C2.pin {m m':Nat} (hm:m'≤m) {F F':Fr} {H H':Hp} (h:C2 m F H F' H'):C2 m' F H F' H':=by
 obtain ⟨θ,g1,g2,g3,g4⟩:=h.ex;exact ⟨θ,g1,by omega,fun i hi=>g3 i (by omega),g4⟩
theorem Lp.pin {m m':Nat} (hm:m'≤m) {Q:Ex→List AV→Hp→Prop} {e:Ex} {vs:List AV} {H:Hp} (h:Lp m Q e vs H):Lp m' Q e vs H:=by
 rcases h with h | ⟨vs',H',h1,h2⟩
 ·exact .inl h
 ·exact .inr ⟨vs',H',h1.pin hm,h2⟩
def Dc (P:Program) (inl:List Nat) (sums:List (Nat×DSum)) (ls:List DL) (M:Nat):DCfg:={ P:=P,inl:=nU inl,sum:=cE sums,loop:=Cz ls,M:=M }
theorem D7 {P:Program} {G:Nat→List AV} {B:Nat} {inl:List Nat} {sums:List (Nat×DSum)} {ls:List DL} {M:Nat} {cs:List Code} (hm:P.follows .mixedOrders=true) (hp:Qa P inl=true) (hs:Q8 ⟨P,G,B⟩ sums) (hl:S4 ⟨P,G,B⟩ M cs (Cz ls)) :
  L6 ⟨P,G,B⟩ (Dc P inl sums ls M) cs:=
 ⟨rfl,hm,hs,hl,iD hp,fun m c F H o _ _ h=>by simp [Dc] at h,fun i args H o h=>by simp [Dc] at h⟩
abbrev Df (P:Program) (fam:List (TypeId×Nat×Nat)) (inl:List Nat) (sums:List (Nat×DSum)) (ls:List DL) (M:Nat):DCfg:={ Dc P inl sums ls M with fam:=fun t=>(fam.find? fun x=>Nat.beq x.1 t).map (·.2) }
theorem Bm {P:Program} {fam:List (TypeId×Nat×Nat)} {G:Nat→List AV} {B:Nat} {inl:List Nat} {sums:List (Nat×DSum)} {ls:List DL} {M:Nat} {cs:List Code} (hm:P.follows .mixedOrders=true) (hp:Qa P inl=true) (hs:Q8 ⟨P,G,B⟩ sums) (hl:S4 ⟨P,G,B⟩ M cs (Cz ls)) :
  L6 ⟨P,G,B⟩ (Df P fam inl sums ls M) cs:=
 ⟨rfl,hm,hs,hl,iD hp,fun m c F H o _ _ h=>by simp [Df,Dc] at h,fun i args H o h=>by simp [Df,Dc] at h⟩
end
end Go.Am
