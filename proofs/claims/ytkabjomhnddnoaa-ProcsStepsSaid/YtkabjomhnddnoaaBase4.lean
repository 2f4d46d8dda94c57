/-
  Written terms: what the abstract machine over them says of values, and The machine over written terms: a piece of code becomes a tree.
-/
import Derived.Test.YtkabjomhnddnoaaBase3
namespace Go.Am
mutual
/-- whole numbers -/
inductive EI
 | lit (n:Int)
 | var (j:Nat) (x:Int)
 | bin (o:BinOp) (k:IntKind) (a b:EI)
 | conv (k:IntKind) (a:EI)
 | neg (k:IntKind) (a:EI)
 | cpl (k:IntKind) (a:EI)
 | ofN (n:EN)
 | mx (a b:EI)
 | mn (a b:EI)
 | get (l:EL) (o:EN)
 | uf (j:Nat) (f:List AV→Int) (as:List EV)
/-- counts -/
inductive EN
 | lit (n:Nat)
 | var (j:Nat) (x:Nat)
 | toN (a:EI)
 | add (a b:EN)
 | mul (a:EN) (z:Nat)
 | sub (a b:EN)
 | len (l:EL)
 | slen (s:ES)
 | rk (l:EL) (o:EN)
 | ro (l:EL) (o:EN)
 | rn (l:EL) (o:EN)
 | fk (b:Nat) (l:EL) (o:EN)
 | fo (l:EL) (o:EN)
 | fn (l:EL) (o:EN)
 | uf (j:Nat) (f:List AV→Nat) (as:List EV)
/-- truth values -/
inductive EB
 | lit (b:Bool)
 | var (j:Nat) (x:Bool)
 | cmp (o:BinOp) (a b:EI)
 | not (b:EB)
 | and (a b:EB)
 | eqB (a b:EB)
 | eqS (a b:ES)
 | isI (k:IntKind) (l:EL) (o:EN)
 | isB (l:EL) (o:EN)
 | isT (l:EL) (o:EN)
 | isR (l:EL) (o:EN)
 | get (l:EL) (o:EN)
 | leN (a b:EN)
 | eqN (a b:EN)
 | leaf (l:EL) (o:EN) (ls:List Lf)
 | u8s (l:EL)
 | cells (l:EL)
 | isF (b c:Nat) (l:EL) (o:EN)
 | isP (b c:Nat) (l:EL) (o:EN)
 | isNil (l:EL) (o:EN)
 | rows (l:EL) (ls:List EV)
 | uf (j:Nat) (f:List AV→Bool) (as:List EV)
/-- texts -/
inductive ES
 | lit (s:List UInt8)
 | var (j:Nat) (x:List UInt8)
 | app (a b:ES)
 | sub (s:ES) (lo hi:EN)
 | get (l:EL) (o:EN)
 | ofL (l:EL)
 | uf (j:Nat) (f:List AV→List UInt8) (as:List EV)
/-- cells -/
inductive EL
 | of (cs:List EV)
 | var (j:Nat) (x:List AV)
 | ro (n:EN)
 | set (l:EL) (o:EN) (v:EV)
 | app (a b:EL)
 | sub (l:EL) (o n:EN)
 | bytes (s:ES)
 | rep (n:EN) (l:EL)
 | row (l:EL) (k:EN)
 | put (l:EL) (k:EN) (v:EL)
 | uf (j:Nat) (f:List AV→List AV) (as:List EV)
/-- values -/
inductive EV
 | undef
 | bool (b:EB)
 | int (k:IntKind) (n:EI)
 | str (s:ES)
 | nilp
 | ptr (r:ER) (o:EN)
 | nils
 | slice (mb:Bool) (r:ER) (o n:EN)
 | nilf
 | func (f:FuncId) (cap:List EV)
 | agg (l:EL)
 | tup (vs:List EV)
 | yld (i:Nat)
/-- places -/
inductive ER
 | rw (i:Nat)
 | ro (n:EN)
 | fm (b c:Nat) (k:EN)
end
def bU (o:BinOp) (k:IntKind) (x y:Int):Int:=
 match o with
 | .add=>k.wrap (x+y)
 | .sub=>k.wrap (x - y)
 | .mul=>k.wrap (x*y)
 | .quo=>k.wrap (x.tdiv y)
 | .rem=>x.tmod y
 | .and=>W1 k x y
 | .or=>nO k x y
 | .xor=>kXor k x y
 | .andNot=>S9 k x y
 | .shl=>Ct k x y
 | .shr=>Hf k x y
 | _=>0
def Ni (o:BinOp) (x y:Int):Bool:=
 match o with
 | .eql=>x==y
 | .neq=>x != y
 | .lss=>decide (x<y)
 | .leq=>decide (x≤y)
 | .gtr=>decide (x>y)
 | .geq=>decide (x≥y)
 | _=>false
def leB (x y:Nat):Bool:=decide (x≤y)
def u8s (cs:List AV):Bool:=cs.all tW
def cellsB (cs:List AV):Bool:=cs.all isCell
def strL (cs:List AV):List UInt8:=cs.map cE
def oW (s:List UInt8):List AV:=s.map fun b=>.int .u8 b.toNat
def subL (cs:List AV) (o n:Nat):List AV:=(cs.drop o).take n
def repL (n:Nat) (cs:List AV):List AV:=(List.replicate n cs).flatten
def A1 (L:List AV) (k:Nat):List AV:=match L[k]? with | some (.agg cs)=>cs | _=>[]
def D5 (L:List AV) (k:Nat) (cs:List AV):List AV:=L.set k (.agg cs)
def A4 (b:Nat) (cs:List AV) (o:Nat):Nat:=match cs[o]? with | some (.slice _ (.rw i) _ _)=>i - b | some (.ptr (.rw i) _)=>i - b | _=>0
def K4 (cs:List AV) (o:Nat):Nat:=match cs[o]? with | some (.slice _ (.rw _) f _)=>f | some (.ptr (.rw _) f)=>f | _=>0
def fnA (cs:List AV) (o:Nat):Nat:=match cs[o]? with | some (.slice _ (.rw _) _ n)=>n | _=>0
def isFA (b c:Nat) (cs:List AV) (o:Nat):Bool:=match cs[o]? with | some (.slice true (.rw i) _ _)=>Nat.ble b i&&Nat.blt i (b+c) | _=>false
def J4 (b c:Nat) (cs:List AV) (o:Nat):Bool:=match cs[o]? with | some (.ptr (.rw i) _)=>Nat.ble b i&&Nat.blt i (b+c) | _=>false
def B4 (cs:List AV) (o:Nat):Bool:=match cs[o]? with | some .nilp=>true | _=>false
open Classical in
noncomputable def rowsA (l:List AV) (ls:List AV):Bool:=decide (∀ v∈ls,v=.agg l)
section
variable (G:Nat→List AV)
mutual
noncomputable def vI:EI→Int
 | .lit n=>n
 | .var _ x=>x
 | .bin o k a b=>bU o k (vI a) (vI b)
 | .conv k a=>k.wrap (vI a)
 | .neg k a=>k.wrap (0 - vI a)
 | .cpl k a=>nQ k (vI a)
 | .ofN n=>(vN n:Int)
 | .mx a b=>if vI b>vI a then vI b else vI a
 | .mn a b=>if vI b<vI a then vI b else vI a
 | .get l o=>A0 (vL l) (vN o)
 | .uf _ f as=>f (vVs as)
termination_by structural x=>x
noncomputable def vN:EN→Nat
 | .lit n=>n
 | .var _ x=>x
 | .toN a=>(vI a).toNat
 | .add a b=>vN a+vN b
 | .mul a z=>vN a*z
 | .sub a b=>vN a - vN b
 | .len l=>(vL l).length
 | .slen s=>(vS s).length
 | .rk l o=>mF (vL l) (vN o)
 | .ro l o=>mD (vL l) (vN o)
 | .rn l o=>mE (vL l) (vN o)
 | .fk b l o=>A4 b (vL l) (vN o)
 | .fo l o=>K4 (vL l) (vN o)
 | .fn l o=>fnA (vL l) (vN o)
 | .uf _ f as=>f (vVs as)
termination_by structural x=>x
noncomputable def vB:EB→Bool
 | .lit b=>b
 | .var _ x=>x
 | .cmp o a b=>Ni o (vI a) (vI b)
 | .not b=>!(vB b)
 | .and a b=>vB a&&vB b
 | .eqB a b=>vB a==vB b
 | .eqS a b=>vS a==vS b
 | .isI k l o=>isI k (vL l) (vN o)
 | .isB l o=>isB (vL l) (vN o)
 | .isT l o=>kS (vL l) (vN o)
 | .isR l o=>tY (vL l) (vN o)
 | .get l o=>A5 (vL l) (vN o)
 | .leN a b=>leB (vN a) (vN b)
 | .eqN a b=>Nat.beq (vN a) (vN b)
 | .leaf l o ls=>Ea (vL l) (vN o) ls
 | .u8s l=>u8s (vL l)
 | .cells l=>cellsB (vL l)
 | .isF b c l o=>isFA b c (vL l) (vN o)
 | .isP b c l o=>J4 b c (vL l) (vN o)
 | .isNil l o=>B4 (vL l) (vN o)
 | .rows l ls=>rowsA (vL l) (vVs ls)
 | .uf _ f as=>f (vVs as)
termination_by structural x=>x
noncomputable def vS:ES→List UInt8
 | .lit s=>s
 | .var _ x=>x
 | .app a b=>vS a++vS b
 | .sub s lo hi=>((vS s).take (vN hi)).drop (vN lo)
 | .get l o=>dT (vL l) (vN o)
 | .ofL l=>strL (vL l)
 | .uf _ f as=>f (vVs as)
termination_by structural x=>x
noncomputable def vL:EL→List AV
 | .of cs=>vVs cs
 | .var _ x=>x
 | .ro n=>G (vN n)
 | .set l o v=>setPart (vL l) (vN o) (vV v)
 | .app a b=>vL a++vL b
 | .sub l o n=>subL (vL l) (vN o) (vN n)
 | .bytes s=>oW (vS s)
 | .rep n l=>repL (vN n) (vL l)
 | .row l k=>A1 (vL l) (vN k)
 | .put l k v=>D5 (vL l) (vN k) (vL v)
 | .uf _ f as=>f (vVs as)
termination_by structural x=>x
noncomputable def vV:EV→AV
 | .undef=>.undef
 | .bool b=>.bool (vB b)
 | .int k n=>.int k (vI n)
 | .str s=>.str (vS s)
 | .nilp=>.nilp
 | .ptr r o=>.ptr (vR r) (vN o)
 | .nils=>.nils
 | .slice mb r o n=>.slice mb (vR r) (vN o) (vN n)
 | .nilf=>.nilf
 | .func f cap=>.func f (vVs cap)
 | .agg l=>.agg (vL l)
 | .tup vs=>.tup (vVs vs)
 | .yld i=>.yld i
termination_by structural x=>x
noncomputable def vVs:List EV→List AV
 | []=>[]
 | x::l=>vV x::vVs l
termination_by structural x=>x
noncomputable def vR:ER→Ref
 | .rw i=>.rw i
 | .ro n=>.ro (vN n)
 | .fm b _ k=>.rw (b+vN k)
termination_by structural x=>x
end
end
mutual
def Kg:EI→EI→Bool
 | .lit a,.lit b=>a==b
 | .var j _,.var i _=>Nat.beq j i
 | .bin o k a b,.bin o' k' a' b'=>o==o'&&(k==k'&&(Kg a a'&&Kg b b'))
 | .conv k a,.conv k' a'=>k==k'&&Kg a a'
 | .neg k a,.neg k' a'=>k==k'&&Kg a a'
 | .cpl k a,.cpl k' a'=>k==k'&&Kg a a'
 | .ofN a,.ofN b=>eqN a b
 | .mx a b,.mx a' b'=>Kg a a'&&Kg b b'
 | .mn a b,.mn a' b'=>Kg a a'&&Kg b b'
 | .get l o,.get l' o'=>eqN o o'&&Ar l l'
 | .uf j _ a,.uf j' _ a'=>Nat.beq j j'&&Rq a a'
 | _,_=>false
termination_by structural x=>x
def eqN:EN→EN→Bool
 | .lit a,.lit b=>Nat.beq a b
 | .var j _,.var i _=>Nat.beq j i
 | .toN a,.toN b=>Kg a b
 | .add a b,.add a' b'=>eqN a a'&&eqN b b'
 | .mul a z,.mul a' z'=>Nat.beq z z'&&eqN a a'
 | .sub a b,.sub a' b'=>eqN a a'&&eqN b b'
 | .len a,.len b=>Ar a b
 | .slen a,.slen b=>eqS a b
 | .rk l o,.rk l' o'=>eqN o o'&&Ar l l'
 | .ro l o,.ro l' o'=>eqN o o'&&Ar l l'
 | .rn l o,.rn l' o'=>eqN o o'&&Ar l l'
 | .fk b l o,.fk b' l' o'=>Nat.beq b b'&&(eqN o o'&&Ar l l')
 | .fo l o,.fo l' o'=>eqN o o'&&Ar l l'
 | .fn l o,.fn l' o'=>eqN o o'&&Ar l l'
 | .uf j _ a,.uf j' _ a'=>Nat.beq j j'&&Rq a a'
 | _,_=>false
termination_by structural x=>x
def eqB:EB→EB→Bool
 | .lit a,.lit b=>a==b
 | .var j _,.var i _=>Nat.beq j i
 | .cmp o a b,.cmp o' a' b'=>o==o'&&(Kg a a'&&Kg b b')
 | .not a,.not b=>eqB a b
 | .and a b,.and a' b'=>eqB a a'&&eqB b b'
 | .eqB a b,.eqB a' b'=>eqB a a'&&eqB b b'
 | .eqS a b,.eqS a' b'=>eqS a a'&&eqS b b'
 | .isI k l o,.isI k' l' o'=>k==k'&&(eqN o o'&&Ar l l')
 | .isB l o,.isB l' o'=>eqN o o'&&Ar l l'
 | .isT l o,.isT l' o'=>eqN o o'&&Ar l l'
 | .isR l o,.isR l' o'=>eqN o o'&&Ar l l'
 | .get l o,.get l' o'=>eqN o o'&&Ar l l'
 | .leN a b,.leN a' b'=>eqN a a'&&eqN b b'
 | .eqN a b,.eqN a' b'=>eqN a a'&&eqN b b'
 | .leaf l o _,.leaf l' o' _=>eqN o o'&&Ar l l'
 | .u8s l,.u8s l'=>Ar l l'
 | .cells l,.cells l'=>Ar l l'
 | .isF b _ l o,.isF b' _ l' o'=>Nat.beq b b'&&(eqN o o'&&Ar l l')
 | .isP b _ l o,.isP b' _ l' o'=>Nat.beq b b'&&(eqN o o'&&Ar l l')
 | .isNil l o,.isNil l' o'=>eqN o o'&&Ar l l'
 | .rows l ls,.rows l' ls'=>Ar l l'&&Rq ls ls'
 | .uf j _ a,.uf j' _ a'=>Nat.beq j j'&&Rq a a'
 | _,_=>false
termination_by structural x=>x
def eqS:ES→ES→Bool
 | .lit a,.lit b=>a==b
 | .var j _,.var i _=>Nat.beq j i
 | .app a b,.app a' b'=>eqS a a'&&eqS b b'
 | .sub s l h,.sub s' l' h'=>eqS s s'&&(eqN l l'&&eqN h h')
 | .get l o,.get l' o'=>eqN o o'&&Ar l l'
 | .ofL l,.ofL l'=>Ar l l'
 | .uf j _ a,.uf j' _ a'=>Nat.beq j j'&&Rq a a'
 | _,_=>false
termination_by structural x=>x
def Ar:EL→EL→Bool
 | .of a,.of b=>Rq a b
 | .var j _,.var i _=>Nat.beq j i
 | .ro a,.ro b=>eqN a b
 | .set l o v,.set l' o' v'=>eqN o o'&&(eqV' v v'&&Ar l l')
 | .app a b,.app a' b'=>Ar a a'&&Ar b b'
 | .sub l a b,.sub l' a' b'=>Ar l l'&&(eqN a a'&&eqN b b')
 | .bytes a,.bytes b=>eqS a b
 | .rep n l,.rep n' l'=>eqN n n'&&Ar l l'
 | .row l k,.row l' k'=>eqN k k'&&Ar l l'
 | .put l k v,.put l' k' v'=>eqN k k'&&(Ar v v'&&Ar l l')
 | .uf j _ a,.uf j' _ a'=>Nat.beq j j'&&Rq a a'
 | _,_=>false
termination_by structural x=>x
def eqV':EV→EV→Bool
 | .undef,.undef=>true
 | .bool a,.bool b=>eqB a b
 | .int k a,.int k' b=>k==k'&&Kg a b
 | .str a,.str b=>eqS a b
 | .nilp,.nilp=>true
 | .ptr r o,.ptr r' o'=>eqR r r'&&eqN o o'
 | .nils,.nils=>true
 | .slice _ r o n,.slice _ r' o' n'=>eqR r r'&&(eqN o o'&&eqN n n')
 | .nilf,.nilf=>true
 | .func f c,.func f' c'=>Nat.beq f f'&&Rq c c'
 | .agg a,.agg b=>Ar a b
 | .tup a,.tup b=>Rq a b
 | .yld i,.yld j=>Nat.beq i j
 | _,_=>false
termination_by structural x=>x
def Rq:List EV→List EV→Bool
 | [],[]=>true
 | x::l,y::m=>eqV' x y&&Rq l m
 | _,_=>false
termination_by structural x=>x
def eqR:ER→ER→Bool
 | .rw i,.rw j=>Nat.beq i j
 | .ro a,.ro b=>eqN a b
 | .fm b _ k,.fm b' _ k'=>Nat.beq b b'&&eqN k k'
 | _,_=>false
termination_by structural x=>x
end
def E6 (a b:EB):EB:=
 match a with
 | .lit true=>b
 | .lit false=>.lit false
 | a=>match b with
  | .lit true=>a
  | .lit false=>.lit false
  | b=>.and a b
def Hw:EB→EB
 | .lit b=>.lit (!b)
 | .not b=>b
 | b=>.not b
def kN (a b:EB):EB:=
 match a,b with
 | .lit true,b=>b
 | .lit false,b=>Hw b
 | a,.lit true=>a
 | a,.lit false=>Hw a
 | a,b=>.eqB a b
def H9 (o:BinOp) (a b:EI):EB:=
 match a,b with
 | .lit x,.lit y=>.lit (Ni o x y)
 | a,b=>.cmp o a b
def Gr (o:BinOp) (k:IntKind) (a b:EI):EI:=
 match a,b with
 | .lit x,.lit y=>.lit (bU o k x y)
 | a,b=>.bin o k a b
def nA (k:IntKind):EI→EI
 | .lit x=>.lit (k.wrap x)
 | a=>.conv k a
def tO (k:IntKind):EI→EI
 | .lit x=>.lit (k.wrap (0 - x))
 | a=>.neg k a
def tP (k:IntKind):EI→EI
 | .lit x=>.lit (nQ k x)
 | a=>.cpl k a
def Ns:EN→EI
 | .lit n=>.lit n
 | n=>.ofN n
def Dj:EI→EN
 | .lit n=>.lit n.toNat
 | .ofN n=>n
 | a=>.toN a
def N1 (a b:EN):EN:=
 match a,b with
 | .lit x,.lit y=>.lit (x+y)
 | a,.lit 0=>a
 | .lit 0,b=>b
 | .add a (.lit x),.lit y=>.add a (.lit (x+y))
 | a,b=>.add a b
def Z1 (a:EN) (z:Nat):EN:=
 match z with
 | 1=>a
 | z=>match a with
  | .lit x=>.lit (x*z)
  | a=>.mul a z
def tN (a b:EN):EN:=
 match a,b with
 | .lit x,.lit y=>.lit (x - y)
 | a,.lit 0=>a
 | a,b=>.sub a b
def S4 (a b:EN):EB:=
 match a,b with
 | .lit x,.lit y=>.lit (Nat.ble x y)
 | .lit 0,_=>.lit true
 | a,b=>.leN a b
def kM (a b:EN):EB:=
 match a,b with
 | .lit x,.lit y=>.lit (Nat.beq x y)
 | a,b=>.eqN a b
def dF (a b:ES):EB:=
 match a,b with
 | .lit x,.lit y=>.lit (x==y)
 | a,b=>.eqS a b
def tQ (a b:ES):ES:=
 match a,b with
 | .lit x,.lit y=>.lit (x++y)
 | .lit [],b=>b
 | a,.lit []=>a
 | a,b=>.app a b
def Dk:EL→EN
 | .of cs=>.lit cs.length
 | .bytes s=>.slen s
 | .sub l o n=>.len (.sub l o n)
 | l=>.len l
def nU:EV→Bool
 | .agg _=>true
 | _=>false
def Uf (l:EL) (o:EN) (v:EV):EL:=
 match l,o with
 | .of cs,.lit n=>match v with
  | .agg (.of ds)=>.of (cs.take n++(ds++cs.drop (n+ds.length)))
  | .agg d=>.set (.of cs) (.lit n) (.agg d)
  | v=>.of (cs.set n v)
 | l,o=>.set l o v
def Jo (l:EL) (o n:EN):EL:=
 match l,o,n with
 | .of cs,.lit a,.lit b=>.of ((cs.drop a).take b)
 | l,o,n=>.sub l o n
def dG (a b:EL):EL:=
 match a,b with
 | .of cs,.of ds=>.of (cs++ds)
 | .of [],b=>b
 | a,.of []=>a
 | a,b=>.app a b
def Yx:ES→EL
 | .lit s=>.of (s.map fun b=>.int .u8 (.lit b.toNat))
 | s=>.bytes s
def dE (n:EN) (l:EL):EL:=
 match n,l with
 | .lit k,.of cs=>.of ((List.replicate k cs).flatten)
 | n,l=>.rep n l
def bD:EN→Option Nat
 | .lit n=>some n
 | _=>none
def Dh:EL→Nat→Option (EB×EV)
 | .of cs,n=>match cs[n]? with
  | some v=>some (.lit true,v)
  | none=>none
 | .set l o v,n=>match bD o,nU v with
  | some m,false=>match Nat.beq m n with
   | true=>some (S4 (.lit (n+1)) (Dk l),v)
   | false=>Dh l n
  | _,_=>none
 | _,_=>none
def rdI (k:IntKind) (l:EL) (o:EN):Option (EB×EI):=
 match bD o with
 | some n=>match Dh l n with
  | some (c,.int k' e)=>if k=k' then some (c,e) else none
  | some _=>none
  | none=>some (.isI k l o,.get l o)
 | none=>some (.isI k l o,.get l o)
def rdB (l:EL) (o:EN):Option (EB×EB):=
 match bD o with
 | some n=>match Dh l n with
  | some (c,.bool e)=>some (c,e)
  | some _=>none
  | none=>some (.isB l o,.get l o)
 | none=>some (.isB l o,.get l o)
end Go.Am
namespace Go.Am
structure DBlk where
 esz:Nat
 cells:EL
abbrev DHp:=List (Option DBlk)
abbrev DFr:=List EV
noncomputable def Us (F:DFr) (n:Nat):EV:=
 List.rec (motive:=fun _=>Nat→EV) (fun _=>.undef) (fun x _ ih n=>Nat.rec (motive:=fun _=>EV) x (fun m _=>ih m) n) F n
noncomputable def sP (F:DFr) (n:Nat) (v:EV):DFr:=
 List.rec (motive:=fun _=>Nat→DFr) (fun _=>[]) (fun x xs ih n=>Nat.rec (motive:=fun _=>DFr) (v::xs) (fun m _=>x::ih m) n) F n
theorem Ld:∀ (F:DFr) (n:Nat),Us F n=F.getD n .undef
 | [],n=>rfl
 | x::F,0=>rfl
 | x::F,n+1=>by
  have:=Ld F n
  show Us F n=_;rw [this];rfl
theorem Tt:∀ (F:DFr) (n:Nat) (v:EV),sP F n v=F.set n v
 | [],n,v=>rfl
 | x::F,0,v=>rfl
 | x::F,n+1,v=>by
  have:=Tt F n v
  show x::sP F n v=_;rw [this];rfl
structure Facts where
 n:Nat
 l:List (EB×Bool)
inductive T
 | fail
 | chk (b:EB) (t:T)
 | tst (b:EB) (x y:T)
 | imp (b:EB) (t:T)
 | allI (j:Nat) (k:Int→T)
 | allN (j:Nat) (k:Nat→T)
 | allB (j:Nat) (k:Bool→T)
 | allL (j:Nat) (k:List AV→T)
 | namI (j:Nat) (e:EI) (k:Int→T)
 | namN (j:Nat) (e:EN) (k:Nat→T)
 | namB (j:Nat) (e:EB) (k:Bool→T)
 | namL (j:Nat) (e:EL) (k:List AV→T)
 | leaf (e:Ex) (F:List EV) (H:DHp)
 | ret (v:EV) (H:DHp)
inductive DHop
 | set (i:Nat) (b:DBlk)
 | new (b:DBlk)
 | app (j:Nat) (b:DBlk)
def DHop.act (H:DHp):DHop→DHp
 | .set i b=>H.set i (some b)
 | .new b=>H++[some b]
 | .app j b=>H.set j none++[some b]
def Lz (H:DHp):List DHop→DHp
 | []=>H
 | h::hs=>Lz (h.act H) hs
inductive Outs
 | one (v:EV) (hs:List DHop)
 | chk (b:EB) (x:Outs)
 | tst (b:EB) (x y:Outs)
 | namI (e:EI) (k:EI→Outs)
 | namN (e:EN) (k:EN→Outs)
 | namB (e:EB) (k:EB→Outs)
 | namL (e:EL) (k:EL→Outs)
inductive LOut
 | one (e:Ex) (F:DFr) (H:DHp)
 | chk (b:EB) (x:LOut)
 | tst (b:EB) (x y:LOut)
 | imp (b:EB) (x:LOut)
 | allI (k:EI→LOut)
 | allN (k:EN→LOut)
 | allB (k:EB→LOut)
 | allL (k:EL→LOut)
 | namI (e:EI) (k:EI→LOut)
 | namN (e:EN) (k:EN→LOut)
 | namB (e:EB) (k:EB→LOut)
 | namL (e:EL) (k:EL→LOut)
def nf:EB→EB×Bool
 | .not b=>match nf b with | (b,s)=>(b,!s)
 | .cmp .neq a b=>(.cmp .eql a b,false)
 | .cmp .geq a b=>(.cmp .lss a b,false)
 | .cmp .gtr a b=>(.cmp .lss b a,true)
 | .cmp .leq a b=>(.cmp .lss b a,false)
 | b=>(b,true)
def look (b:EB):List (EB×Bool)→Option Bool
 | []=>none
 | (c,v)::fs=>match eqB b c with
  | true=>some v
  | false=>look b fs
def maxO:Option Int→Int→Option Int
 | none,b=>some b
 | some a,b=>some (if a<b then b else a)
def minO:Option Int→Int→Option Int
 | none,b=>some b
 | some a,b=>some (if b<a then b else a)
def cR (a:EI):List (EB×Bool)→Option Int×Option Int
 | []=>match a with
  | .ofN _=>(some 0,none)
  | _=>(none,none)
 | (.cmp .eql b (.lit m),true)::fs=>match Kg a b with
  | true=>(some m,some m)
  | false=>cR a fs
 | (.cmp .lss b (.lit m),v)::fs=>match Kg a b,v,cR a fs with
  | true,true,(lo,hi)=>(lo,minO hi (m - 1))
  | true,false,(lo,hi)=>(maxO lo m,hi)
  | _,_,r=>r
 | (.cmp .lss (.lit m) b,v)::fs=>match Kg a b,v,cR a fs with
  | true,true,(lo,hi)=>(maxO lo (m+1),hi)
  | true,false,(lo,hi)=>(lo,minO hi m)
  | _,_,r=>r
 | _::fs=>cR a fs
def decR (o:BinOp) (r:Option Int×Option Int) (s:Option Int×Option Int):Option Bool:=
 match o with
 | .lss=>match r,s with
  | (lo,hi),(lo',hi')=>match hi,lo' with
   | some a,some b=>match decide (a<b),lo,hi' with
    | true,_,_=>some true
    | false,some c,some d=>if d≤c then some false else none
    | false,_,_=>none
   | _,_=>match lo,hi' with
    | some c,some d=>if d≤c then some false else none
    | _,_=>none
 | .eql=>match r,s with
  | (lo,hi),(lo',hi')=>match (match hi,lo' with | some a,some b=>decide (a<b) | _,_=>false)||(match hi',lo with | some a,some b=>decide (a<b) | _,_=>false) with
   | true=>some false
   | false=>match lo,hi,lo',hi' with
    | some a,some b,some c,some d=>if a=b∧c=d∧a=c then some true else none
    | _,_,_,_=>none
 | _=>none
def Yl (fs:List (EB×Bool)):EI→Option Int×Option Int
 | .lit n=>(some n,some n)
 | a=>cR a fs
def decN (fs:List (EB×Bool)) (b:EB):Option Bool:=
 match look b fs with
 | some v=>some v
 | none=>match b with
  | .cmp .eql x y=>match Kg x y with
   | true=>some true
   | false=>decR .eql (Yl fs x) (Yl fs y)
  | .cmp .lss x y=>match Kg x y with
   | true=>some false
   | false=>decR .lss (Yl fs x) (Yl fs y)
  | .eqS x y=>match eqS x y with
   | true=>some true
   | false=>none
  | .leN x y=>match eqN x y with
   | true=>some true
   | false=>none
  | .eqN x y=>match eqN x y with
   | true=>some true
   | false=>none
  | _=>none
def dec (fs:Facts) (b:EB):Option Bool:=
 match nf b with
 | (b,s)=>match decN fs.l b with
  | some v=>some (v==s)
  | none=>none
def Lv (fs:Facts) (b:EB) (v:Bool):Facts:=
 match nf b with
 | (b,s)=>⟨fs.n,(b,v==s)::fs.l⟩
def fresh (fs:Facts):Facts:=⟨fs.n+1,fs.l⟩
def Hi (b:EB) (t:T):T:=
 match b with
 | .lit true=>t
 | .lit false=>.fail
 | .and a b=>Hi a (Hi b t)
 | b=>.chk b t
def Da (fs:Facts) (b:EB) (x y:Facts→T):T:=
 match b with
 | .lit true=>x fs
 | .lit false=>y fs
 | .not b=>Da fs b y x
 | .and a b=>Da fs a (fun fs=>Da fs b x y) y
 | .eqB a b=>Da fs a (fun fs=>Da fs b x y) (fun fs=>Da fs b y x)
 | b=>match dec fs b with
  | some true=>.chk b (x fs)
  | some false=>.chk (.not b) (y fs)
  | none=>.tst b (x (Lv fs b true)) (y (Lv fs b false))
def cY (o:Option (EB×EV)) (k:EV→T):T:=match o with | some (c,v)=>Hi c (k v) | none=>.fail
def kW:Value→EV
 | .bool b=>.bool (.lit b)
 | .int k n=>.int k (.lit n)
 | .string s=>.str (.lit s.data.toList)
 | .pointer none=>.nilp
 | .slice none 0 0=>.nils
 | .nilFunc=>.nilf
 | _=>.undef
def uJ:Value→EV
 | .agg cs=>.agg (.of (cs.toList.map kW))
 | v=>kW v
noncomputable def evD (F:DFr):Operand→EV
 | .tmp t=>Us F t
 | .const v=>uJ v
 | .global _=>.undef
 | .func f=>.func f []
def binIntD (op:BinOp) (k:IntKind) (x y:EI):Option (EB×EV):=
 match op with
 | .add=>some (.lit true,.int k (Gr .add k x y))
 | .sub=>some (.lit true,.int k (Gr .sub k x y))
 | .mul=>some (.lit true,.int k (Gr .mul k x y))
 | .quo=>some (Hw (H9 .eql y (.lit 0)),.int k (Gr .quo k x y))
 | .rem=>some (Hw (H9 .eql y (.lit 0)),.int k (Gr .rem k x y))
 | .and=>some (.lit true,.int k (Gr .and k x y))
 | .or=>some (.lit true,.int k (Gr .or k x y))
 | .xor=>some (.lit true,.int k (Gr .xor k x y))
 | .andNot=>some (.lit true,.int k (Gr .andNot k x y))
 | .eql=>some (.lit true,.bool (H9 .eql x y))
 | .neq=>some (.lit true,.bool (Hw (H9 .eql x y)))
 | .lss=>some (.lit true,.bool (H9 .lss x y))
 | .leq=>some (.lit true,.bool (H9 .leq x y))
 | .gtr=>some (.lit true,.bool (H9 .gtr x y))
 | .geq=>some (.lit true,.bool (H9 .geq x y))
 | _=>none
def Xq (op:BinOp) (k:IntKind) (x y:EI):Option (EB×EV):=
 match op with
 | .shl=>some (H9 .leq (.lit 0) y,.int k (Gr .shl k x y))
 | .shr=>some (H9 .leq (.lit 0) y,.int k (Gr .shr k x y))
 | _=>none
def Lo:ES→EN
 | .lit s=>.lit s.length
 | s=>.slen s
def gV (op:BinOp) (x y:ES):Option (EB×EV):=
 match op with
 | .add=>some (S4 (N1 (Lo x) (Lo y)) (.lit 9223372036854775807),.str (tQ x y))
 | .eql=>some (.lit true,.bool (dF x y))
 | .neq=>some (.lit true,.bool (Hw (dF x y)))
 | _=>none
def Lw (op:BinOp) (c:Bool) (b:EB):Option (EB×EV):=
 match op with
 | .eql=>some (.lit c,.bool b)
 | .neq=>some (.lit c,.bool (Hw b))
 | _=>none
def Hu (P:Program) (t:TypeId) (l:EL) (o:EN):Option (EB×EV):=
 match P.underlying t with
 | some (.int k)=>match rdI k l o with
  | some (c,e)=>some (c,.int k e)
  | none=>none
 | some .bool=>match rdB l o with
  | some (c,e)=>some (c,.bool e)
  | none=>none
 | some (.struct _)=>match G9 P t with
  | some z=>some (S4 (N1 o (.lit z)) (Dk l),.agg (Jo l o (.lit z)))
  | none=>none
 | some (.array _ _)=>match G9 P t with
  | some z=>some (S4 (N1 o (.lit z)) (Dk l),.agg (Jo l o (.lit z)))
  | none=>none
 | some _=>match bD o with
  | some n=>Dh l n
  | none=>none
 | none=>none
def Zk (P:Program) (rec:TypeId→EV→EV→Option (EB×EB)) (xs ys:EL):List Field→Option (EB×EB)
 | []=>some (.lit true,.lit true)
 | f::fs=>
  if f.name ≠ "_" then
   match Hu P f.type xs (.lit f.offset),Hu P f.type ys (.lit f.offset) with
   | some (c1,a),some (c2,b)=>
    match rec f.type a b,Zk P rec xs ys fs with
    | some (c3,r),some (c4,s)=>some (E6 c1 (E6 c2 (E6 c3 c4)),E6 r s)
    | _,_=>none
   | _,_=>none
  else Zk P rec xs ys fs
def eC (P:Program) (rec:TypeId→EV→EV→Option (EB×EB)) (e:TypeId) (z:Nat) (xs ys:EL):List Nat→Option (EB×EB)
 | []=>some (.lit true,.lit true)
 | i::is=>
   match Hu P e xs (.lit (i*z)),Hu P e ys (.lit (i*z)) with
   | some (c1,a),some (c2,b)=>
    match rec e a b,eC P rec e z xs ys is with
    | some (c3,r),some (c4,s)=>some (E6 c1 (E6 c2 (E6 c3 c4)),E6 r s)
    | _,_=>none
   | _,_=>none
def gP (P:Program):Nat→TypeId→EV→EV→Option (EB×EB)
 | 0,_,_,_=>none
 | n+1,t,x,y=>
  match P.underlying t with
  | some (.int _)=>match x,y with
   | .int k a,.int k' b=>if k=k' then some (.lit true,H9 .eql a b) else none
   | _,_=>none
  | some .bool=>match x,y with
   | .bool a,.bool b=>some (.lit true,kN a b)
   | _,_=>none
  | some .string=>match x,y with
   | .str a,.str b=>some (.lit true,dF a b)
   | _,_=>none
  | some (.struct fs)=>match x,y with
   | .agg xs,.agg ys=>match P.stoodInHeld t with
    | true=>none
    | false=>Zk P (gP P n) xs ys fs.toList
   | _,_=>none
  | some (.array m e)=>match x,y with
   | .agg xs,.agg ys=>match G9 P e with
    | some z=>eC P (gP P n) e z xs ys (List.range m)
    | none=>none
   | _,_=>none
  | _=>none
def eqA1 (P:Program) (t:TypeId) (as:List AV):Bool:=match as with
 | [x,y]=>match Vt P 10 t x y with
  | some (c,_)=>c
  | none=>false
 | _=>false
def eqA2 (P:Program) (t:TypeId) (as:List AV):Bool:=match as with
 | [x,y]=>match Vt P 10 t x y with
  | some (_,b)=>b
  | none=>false
 | _=>false
def tZ:EL→Bool
 | .of _=>true
 | _=>false
def eqAD (P:Program) (t:TypeId) (xs ys:EL):Option (EB×EB):=
 match tZ xs||tZ ys||(match G9 P t with | some z=>Nat.ble z 8 | none=>false) with
 | true=>gP P 10 t (.agg xs) (.agg ys)
 | false=>some (.uf (100000+t) (eqA1 P t) [.agg xs,.agg ys],.uf (200000+t) (eqA2 P t) [.agg xs,.agg ys])
def binD (P:Program) (op:BinOp) (t:TypeId) (x y:EV):Option (EB×EV):=
 match x,y with
 | .int k a,.int k' b=>
  match op with
  | .shl | .shr=>Xq op k a b
  | _=>if k=k' then binIntD op k a b else none
 | .str a,.str b=>gV op a b
 | .bool a,.bool b=>Lw op (Zc (P.underlying t)) (kN a b)
 | .ptr _ _,.nilp=>Lw op (Mp (P.underlying t)) (.lit false)
 | .nilp,.ptr _ _=>Lw op (Mp (P.underlying t)) (.lit false)
 | .nilp,.nilp=>Lw op (Mp (P.underlying t)) (.lit true)
 | .slice false _ _ _,.nils=>Lw op (La (P.underlying t)) (.lit false)
 | .nils,.nils=>Lw op (La (P.underlying t)) (.lit true)
 | .func _ _,.nilf=>Lw op (Ol (P.underlying t)) (.lit false)
 | .nilf,.nilf=>Lw op (Ol (P.underlying t)) (.lit true)
 | .agg xs,.agg ys=>
  match P.eqGuardType P.depth t with
  | true=>none
  | false=>match eqAD P t xs ys with
   | some (c,b)=>match op with
    | .eql=>some (c,.bool b)
    | .neq=>some (c,.bool (Hw b))
    | _=>none
   | none=>none
 | _,_=>none
def unD (op:UnOp) (x:EV):Option (EB×EV):=
 match op,x with
 | .neg,.int k n=>some (.lit true,.int k (tO k n))
 | .xor,.int k n=>some (.lit true,.int k (tP k n))
 | .not,.bool b=>some (.lit true,.bool (Hw b))
 | _,_=>none
def uL (P:Program) (src dst:TypeId) (x:EV):Option (EB×EV):=
 match P.underlying src,P.underlying dst,x with
 | some _,some (.int k),.int _ n=>some (.lit true,.int k (nA k n))
 | some _,some .string,.str s=>some (.lit true,.str s)
 | _,_,_=>none
def oI (P:Program) (s:TypeId) (x:EV) (f:Nat):Option (EB×EV):=
 match P.underlying s,x with
 | some (.struct fs),.ptr r off=>
  match fs[f]? with
  | some fd=>
   match G9 P fd.type with
   | some 0=>none
   | some _=>some (.lit true,.ptr r (N1 off (.lit fd.offset)))
   | none=>none
  | none=>none
 | _,_=>none
def nV (P:Program) (t:TypeId) (x i:EV):Option (EB×EV):=
 match i with
 | .int _ i=>
  match P.underlying t,x with
  | some (.array len e),.ptr r off=>
   match G9 P e with
   | some z=>some (E6 (H9 .leq (.lit 0) i) (H9 .lss i (.lit len)),.ptr r (N1 (Z1 (Dj i) z) off))
   | none=>none
  | some (.slice e),.slice _ r off len=>
   match G9 P e with
   | some z=>some (E6 (H9 .leq (.lit 0) i) (H9 .lss i (Ns len)),.ptr r (N1 (Z1 (Dj i) z) off))
   | none=>none
  | _,_=>none
 | _=>none
def Mw (x:Option EV) (d:EI):Option EI:=
 match x with
 | none=>some d
 | some (.int _ i)=>some i
 | some _=>none
def lU (P:Program) (t:TypeId) (x:EV) (lo hi:Option EV):Option (EB×EV):=
 match P.underlying t,x with
 | some (.slice e),.slice mb r off len=>
  match G9 P e,Mw lo (.lit 0),Mw hi (Ns len) with
  | some z,some l,some h=>some (E6 (H9 .leq (.lit 0) l) (E6 (H9 .leq l h) (H9 .leq h (Ns len))),.slice mb r (N1 (Z1 (Dj l) z) off) (tN (Dj h) (Dj l)))
  | _,_,_=>none
 | some (.slice e),.nils=>
  match G9 P e,Mw lo (.lit 0),Mw hi (.lit 0) with
  | some _,some l,some h=>some (E6 (H9 .leq (.lit 0) l) (E6 (H9 .leq l h) (H9 .leq h (.lit 0))),.nils)
  | _,_,_=>none
 | some .string,.str s=>
  match Mw lo (.lit 0),Mw hi (Ns (Lo s)) with
  | some l,some h=>some (E6 (H9 .leq (.lit 0) l) (E6 (H9 .leq l h) (H9 .leq h (Ns (Lo s)))),.str (.sub s (Dj l) (Dj h)))
  | _,_=>none
 | _,_=>none
def Cf:EV→EL
 | .agg cs=>cs
 | v=>.of [v]
def dO:EV→Bool
 | .undef=>false
 | _=>true
def Zb:EV→Bool
 | .undef | .agg _ | .tup _=>false
 | _=>true
def Qd:EL→EB
 | .of cs=>.lit (cs.all Zb)
 | .sub l o n=>.cells (.sub l o n)
 | l=>.cells l
def Nu (v:EV):EB:=
 match v with
 | .agg l=>Qd l
 | v=>.lit (Zb v)
def Si (v:EV) (z:Nat):EB:=
 match v with
 | .agg l=>kM (Dk l) (.lit z)
 | _=>.lit (Nat.beq 1 z)
def Ux (place:Nat→Option (Nat×Nat)) (cells:EL):List (Nat×EV)→Option (EB×EL)
 | []=>some (.lit true,cells)
 | (i,v)::rest=>
  match place i with
  | none=>none
  | some (off,size)=>
   match Ux place (Uf cells (.lit off) v) rest with
   | none=>none
   | some (c,r)=>match dO v with
    | true=>some (E6 (Si v size) (E6 (S4 (.lit (off+size)) (Dk cells)) c),r)
    | false=>none
def Nm (P:Program) (t:TypeId):Option EV:=
 match P.info? t with
 | some i=>match i.zero with
  | some z=>some (uJ z)
  | none=>none
 | none=>none
def oX (P:Program) (t:TypeId) (parts:List (Nat×EV)):Option (EB×EV):=
 match P.underlying t,Nm P t with
 | some (.struct fs),some (.agg z)=>
  match Kq P fs.toList with
  | some ps=>
   match Ux (fun i=>ps[i]?) z parts with
   | some (c,cs)=>some (c,.agg cs)
   | none=>none
  | none=>none
 | some (.array _ e),some (.agg z)=>
  match G9 P e with
  | some n=>
   match Ux (fun i=>some (i*n,n)) z parts with
   | some (c,cs)=>some (c,.agg cs)
   | none=>none
  | none=>none
 | _,_=>none
def lenD (P:Program) (t:TypeId) (x:EV):Option (EB×EV):=
 match P.underlying t,x with
 | some .string,.str s=>some (.lit true,.int .i64 (Ns (Lo s)))
 | some (.array n _),_=>some (.lit true,.int .i64 (.lit n))
 | some (.slice _),.slice _ _ _ n=>some (.lit true,.int .i64 (Ns n))
 | some (.slice _),.nils=>some (.lit true,.int .i64 (.lit 0))
 | _,_=>none
def capD (P:Program) (t:TypeId) (x:EV):Option (EB×EV):=
 match P.underlying t,x with
 | some (.slice _),.nils=>some (.lit true,.int .i64 (.lit 0))
 | _,_=>none
def maxD (x y:EV):Option (EB×EV):=
 match x,y with
 | .int k a,.int k' b=>if k=k' then some (.lit true,.int k (.mx a b)) else none
 | _,_=>none
def minD (x y:EV):Option (EB×EV):=
 match x,y with
 | .int k a,.int k' b=>if k=k' then some (.lit true,.int k (.mn a b)) else none
 | _,_=>none
def tH (c a b:EV):Option (EB×EV):=
 match c with
 | .bool (.lit true)=>some (.lit true,a)
 | .bool (.lit false)=>some (.lit true,b)
 | _=>none
def Wu (x:EV):Option (EB×EV):=
 match x with
 | .ptr r o=>some (.lit true,.ptr r o)
 | .func f c=>some (.lit true,.func f c)
 | .slice m r o n=>some (.lit true,.slice m r o n)
 | _=>none
noncomputable def kJ (P:Program) (F:DFr) (op:Op):Option (EB×EV):=
 match op with
 | .move x=>some (.lit true,evD F x)
 | .assign x=>some (.lit true,evD F x)
 | .pick c a b=>tH (evD F c) (evD F a) (evD F b)
 | .nilCheck x=>Wu (evD F x)
 | .binOp op t x y _=>binD P op t (evD F x) (evD F y)
 | .unOp op _ x=>unD op (evD F x)
 | .convert s d x=>uL P s d (evD F x)
 | .fieldAddr s x f=>oI P s (evD F x) f
 | .indexAddr t x i=>nV P t (evD F x) (evD F i)
 | .slice t x lo hi none=>lU P t (evD F x) (lo.map (evD F)) (hi.map (evD F))
 | .build t parts=>oX P t (parts.toList.map fun p=>(p.1,evD F p.2))
 | .extract x i=>match evD F x with
  | .tup vs=>match vs[i]? with
   | some v=>some (.lit true,v)
   | none=>none
  | _=>none
 | .makeFunc (.func f) first cap=>if first.size=0 then some (.lit true,.func f (cap.toList.map (evD F))) else none
 | .call { callee:=.builtin .len,args,argTypes }=>
  match args.toList,argTypes.toList with
  | [x],[t]=>lenD P t (evD F x)
  | _,_=>none
 | .call { callee:=.builtin .cap,args,argTypes }=>
  match args.toList,argTypes.toList with
  | [x],[t]=>capD P t (evD F x)
  | _,_=>none
 | .call { callee:=.builtin .max,args,.. }=>
  match args.toList with
  | [x,y]=>maxD (evD F x) (evD F y)
  | _=>none
 | .call { callee:=.builtin .min,args,.. }=>
  match args.toList with
  | [x,y]=>minD (evD F x) (evD F y)
  | _=>none
 | _=>none
def dP (b:DBlk):Bool:=Nat.beq b.esz 4294967291
def Ec (z:Nat):Nat→DHp→Nat→Option (List EV)
 | _,_,0=>some []
 | j,some ⟨z',.row l (.lit i)⟩::H,n+1=>match Nat.beq z z'&&Nat.beq i j with
  | true=>match Ec z (j+1) H n with
   | some ls=>some (.agg l::ls)
   | none=>none
  | false=>none
 | _,_,_+1=>none
def Gu (H:DHp) (b c:Nat):Option (Nat×EL×List EV):=
 match H.drop b with
 | some ⟨z,.row l (.lit _)⟩::_=>match Nat.beq z 4294967291 with
  | true=>none
  | false=>match Ec z 0 (H.drop b) c with
   | some ls=>some (z,l,ls)
   | none=>none
 | _=>none
def Sy (b c z:Nat) (l:EL):List DHop:=(List.range c).map fun j=>.set (b+j) ⟨z,.row l (.lit j)⟩
def Lg (H:DHp):ER→Option (EB×EL)
 | .rw i=>match H[i]? with
  | some (some b)=>match dP b with
   | true=>none
   | false=>some (.lit true,b.cells)
  | _=>none
 | .ro n=>some (.lit true,.ro n)
 | .fm b c k=>match Gu H b c with
  | some (_,l,ls)=>some (E6 (S4 (N1 k (.lit 1)) (.lit c)) (.rows l ls),.row l k)
  | none=>none
def tU (l:Lf) (cs:EL) (off:EN):EV:=
 match l with
 | .int k=>.int k (.get cs off)
 | .bool=>.bool (.get cs off)
 | .str=>.str (.get cs off)
 | .sl=>.slice true (.ro (.rk cs off)) (.ro cs off) (.rn cs off)
def Pq (cs:EL):EN→List Lf→List EV
 | _,[]=>[]
 | off,l::ls=>tU l cs off::Pq cs (N1 off (.lit 1)) ls
def mO (P:Program) (t:TypeId) (cs:EL) (off:EN):Option (EB×EV):=
 match P.underlying t with
 | some (.int k)=>some (.isI k cs off,.int k (.get cs off))
 | some .bool=>some (.isB cs off,.bool (.get cs off))
 | some .string=>some (.isT cs off,.str (.get cs off))
 | some (.slice _)=>some (.isR cs off,.slice true (.ro (.rk cs off)) (.ro cs off) (.rn cs off))
 | some (.struct _)=>match G9 P t,Yy P 10 t with
  | some z,some ls=>match Nat.beq ls.length z with
   | true=>some (.leaf cs off ls,.agg (.of (Pq cs off ls)))
   | false=>none
  | _,_=>none
 | some (.array _ _)=>match G9 P t,Yy P 10 t with
  | some z,some ls=>match Nat.beq ls.length z with
   | true=>some (.leaf cs off ls,.agg (.of (Pq cs off ls)))
   | false=>none
  | _,_=>none
 | _=>none
def wV (P:Program) (r:ER) (t:TypeId) (cs:EL) (off:EN):Option (EB×EV):=
 match r with
 | .rw _=>Hu P t cs off
 | .ro _=>mO P t cs off
 | .fm _ _ _=>Hu P t cs off
def kO (P:Program) (H:DHp) (t:TypeId) (r:ER) (off:EN):Option (EB×EV):=
 match Lg H r with
 | some (c0,cs)=>match wV P r t cs off with
  | some (c,v)=>some (E6 c0 c,v)
  | none=>none
 | none=>none
def tX (cs:List AV) (o:Nat):Bool:=match cs[o]? with | some (.slice true (.ro _) _ _)=>true | _=>false
def isRXU:List AV→Bool:=fun vs=>match vs with
 | [.agg cs,.int _ o]=>tX cs o.toNat
 | _=>false
inductive FL where
 | int (k:IntKind)
 | bool
 | sl (b c:Nat)
def famFs (rec:TypeId→Option (List FL)):Nat→List Field→Option (List FL)
 | _,[]=>some []
 | acc,f::fs=>
  match Nat.beq f.offset acc with
  | true=>match rec f.type with
   | some a=>match famFs rec (acc+a.length) fs with
    | some b=>some (a++b)
    | none=>none
   | none=>none
  | false=>none
def famLs (P:Program) (fam:TypeId→Option (Nat×Nat)):Nat→TypeId→Option (List FL)
 | 0,_=>none
 | n+1,t=>
  match P.underlying t with
  | some (.int k)=>some [.int k]
  | some .bool=>some [.bool]
  | some (.slice _)=>match fam t with
   | some (b,c)=>some [.sl b c]
   | none=>none
  | some (.struct fs)=>famFs (famLs P fam n) 0 fs.toList
  | _=>none
def Zj (l:EL) (o:EN):FL→EV
 | .int k=>.int k (.get l o)
 | .bool=>.bool (.get l o)
 | .sl b c=>match c with
  | 0=>.slice true (.ro (.rk l o)) (.ro l o) (.rn l o)
  | _=>.slice true (.fm b c (.fk b l o)) (.fo l o) (.fn l o)
def Zi (l:EL) (o:EN):FL→EB
 | .int k=>.isI k l o
 | .bool=>.isB l o
 | .sl b c=>match c with
  | 0=>.uf 1099 isRXU [.agg l,.int .i64 (.ofN o)]
  | _=>.isF b c l o
def dZ (l:EL):EN→List FL→List EV
 | _,[]=>[]
 | o,f::fs=>Zj l o f::dZ l (N1 o (.lit 1)) fs
def kU (l:EL):EN→List FL→EB
 | _,[]=>.lit true
 | o,f::fs=>E6 (Zi l o f) (kU l (N1 o (.lit 1)) fs)
inductive FamR where
 | val (c:EB) (v:EV)
 | ptr (n c:EB) (v:EV)
def oJ (fam:TypeId→Option (Nat×Nat)) (P:Program) (t:TypeId) (cs:EL) (off:EN):Option FamR:=
 match fam t with
 | none=>none
 | some (b,c)=>match P.underlying t with
  | some (.struct _)=>match tZ cs with
   | true=>none
   | false=>match G9 P t,famLs P fam 10 t with
    | some z,some ls=>match Nat.beq ls.length z&&Nat.ble 1 z with
     | true=>some (.val (kU cs off ls) (.agg (.of (dZ cs off ls))))
     | false=>none
    | _,_=>none
  | some (.slice _)=>match Hu P t cs off with
   | some _=>none
   | none=>some (.val (Zi cs off (.sl b c)) (Zj cs off (.sl b c)))
  | some (.pointer _)=>match Hu P t cs off with
   | some _=>none
   | none=>some (.ptr (.isNil cs off) (.isP b c cs off) (.ptr (.fm b c (.fk b cs off)) (.fo cs off)))
  | _=>none
noncomputable def oL (fam:TypeId→Option (Nat×Nat)) (P:Program) (F:DFr) (H:DHp) (op:Op):Option (EB×FamR):=
 match op with
 | .load t a=>match evD F a with
  | .ptr r off=>match r with
   | .ro _=>none
   | r=>match Lg H r with
    | some (c0,cs)=>match oJ fam P t cs off with
     | some x=>some (c0,x)
     | none=>none
    | none=>none
  | _=>none
 | .field t x f=>
  match P.underlying t,evD F x with
  | some (.struct fs),.agg cs=>match fs[f]? with
   | some fd=>match oJ fam P fd.type cs (.lit fd.offset) with
    | some x=>some (.lit true,x)
    | none=>none
   | none=>none
  | _,_=>none
 | .index t x i=>
  match P.underlying t,evD F x,evD F i with
  | some (.array len e),.agg cs,.int _ i=>match G9 P e with
   | some z=>match oJ fam P e cs (Z1 (Dj i) z) with
    | some x=>some (E6 (H9 .leq (.lit 0) i) (H9 .lss i (.lit len)),x)
    | none=>none
   | none=>none
  | _,_,_=>none
 | _=>none
def gL (fs:Facts) (o:EB×FamR) (k:Facts→EV→T):T:=
 match o with
 | (c0,.val c v)=>Hi c0 (Hi c (k fs v))
 | (c0,.ptr n c v)=>Hi c0 (Da fs n (fun fs=>k fs .nilp) (fun fs=>Hi c (k fs v)))
def vU (cs:EL) (off n:EN):EB×EV:=
 (E6 (S4 (N1 off n) (Dk cs)) (.u8s (Jo cs off n)),.str (.ofL (Jo cs off n)))
noncomputable def kI (P:Program) (F:DFr) (H:DHp) (op:Op):Option (EB×EV):=
 match op with
 | .load t a=>match evD F a with
  | .ptr r off=>kO P H t r off
  | _=>none
 | .field t x f=>
  match P.underlying t,evD F x with
  | some (.struct fs),.agg cs=>match fs[f]? with
   | some fd=>Hu P fd.type cs (.lit fd.offset)
   | none=>none
  | _,_=>none
 | .index t x i=>
  match P.underlying t,evD F x,evD F i with
  | some (.array len e),.agg cs,.int _ i=>match G9 P e with
   | some z=>match Hu P e cs (Z1 (Dj i) z) with
    | some (c,v)=>some (E6 (H9 .leq (.lit 0) i) (E6 (H9 .lss i (.lit len)) c),v)
    | none=>none
   | none=>none
  | _,_,_=>none
 | .convert s d x=>
  match Af P s&&Bs P d,evD F x with
  | true,.nils=>some (.lit true,.str (.lit []))
  | true,.slice _ r off n=>match Lg H r with
   | some (c0,cs)=>match vU cs off n with
    | (c,v)=>some (E6 c0 c,v)
   | none=>none
  | _,_=>none
 | _=>none
noncomputable def Yh (F:DFr) (op:Op):Option ER:=
 match op with
 | .load _ a=>match evD F a with
  | .ptr r _=>some r
  | _=>none
 | .convert _ _ x=>match evD F x with
  | .slice _ r _ _=>some r
  | _=>none
 | _=>none
def X8 (H:DHp):ER:=.rw H.length
def zY (H:DHp) (z:Nat) (x:EV):Option (EB×EN×EL):=
 match x with
 | .nils=>some (.lit true,.lit 0,.of [])
 | .slice _ r off m=>match Lg H r with
  | some (c0,cs)=>some (E6 c0 (E6 (S4 (N1 off (Z1 m z)) (Dk cs)) (Qd (Jo cs off (Z1 m z)))),m,Jo cs off (Z1 m z))
  | none=>none
 | .str s=>match Nat.beq z 1 with
  | true=>some (.lit true,Lo s,Yx s)
  | false=>none
 | _=>none
def Ui (z:Option EV) (n:Nat):Bool:=match z with
 | some v=>match Cf v with
  | .of cs=>Nat.beq cs.length n
  | _=>false
 | none=>false
def Zt (P:Program) (H:DHp) (t:TypeId) (s x:EV):Option (EB×EV×DHop):=
 match P.underlying t with
 | some (.slice e)=>
  match P.info? e,Nm P e with
  | some i,some zv=>
   match Hc i.size&&(Nat.ble 1 i.bytes&&Ui (some zv) i.size) with
   | false=>none
   | true=>
   match zY H i.size x with
   | some (c,m,xs)=>
    match s with
    | .nils=>some (E6 c (S4 (Z1 m i.bytes) (.lit 140737488355328)),.slice true (X8 H) (.lit 0) m,.new ⟨i.size,xs⟩)
    | .slice mb (.rw j) (.lit 0) (.lit 0)=>
     match H[j]? with
     | some (some b)=>match Nat.beq b.esz i.size with
      | true=>some (E6 c (S4 (Z1 m i.bytes) (.lit 140737488355328)),.slice mb (X8 H) (.lit 0) m,.app j ⟨i.size,xs⟩)
      | false=>none
     | _=>none
    | .slice mb (.rw j) (.lit 0) (.mul n 1)=>
     match H[j]? with
     | some (some b)=>match Nat.beq b.esz i.size with
      | true=>some (E6 c (E6 (S4 (Z1 (N1 n m) i.bytes) (.lit 140737488355328)) (S4 (Z1 n i.size) (Dk b.cells))),.slice mb (X8 H) (.lit 0) (N1 n m),.app j ⟨i.size,dG (Jo b.cells (.lit 0) (Z1 n i.size)) xs⟩)
      | false=>none
     | _=>none
    | .slice mb (.rw j) (.lit 0) n=>
     match H[j]? with
     | some (some b)=>match Nat.beq b.esz i.size with
      | true=>some (E6 c (E6 (S4 (Z1 (N1 n m) i.bytes) (.lit 140737488355328)) (kM (Dk b.cells) (Z1 n i.size))),.slice mb (X8 H) (.lit 0) (N1 n m),.app j ⟨i.size,dG b.cells xs⟩)
      | false=>none
     | _=>none
    | _=>none
   | none=>none
  | _,_=>none
 | _=>none
def Yw (l:EL) (o:EN) (v:EV) (z:Nat):EL:=
 match v with
 | .agg d=>match tZ d,l,o with
  | false,.of cs,.lit 0=>match Nat.beq cs.length z with
   | true=>d
   | false=>Uf l o v
  | _,_,_=>Uf l o v
 | v=>Uf l o v
def uP (z:Nat) (as:List AV):Int:=match as with
 | [.int _ n]=>n*z
 | _=>0
def Qc (P:Program) (H:DHp) (t:TypeId) (s x:EV):Option (EB×EV×DHop):=
 match P.underlying t,s,x with
 | some (.slice e),.nils,.int .i64 n=>
  match P.info? e,Nm P e with
  | some i,some zv=>match Hc i.size&&(Nat.ble 1 i.bytes&&(Ui (some zv) i.size&&Nat.ble 1 i.size)) with
   | true=>some (E6 (H9 .leq (.lit 0) n) (H9 .leq (mkBigD n i.bytes) (.lit 140737488355328)),.slice true (X8 H) (.lit 0) (Dj n),.new ⟨i.size,dE (Dj n) (Cf zv)⟩)
   | false=>none
  | _,_=>none
 | _,_,_=>none
where
 mkBigD (c:EI) (z:Nat):EI:=match c with
  | .lit n=>.lit (n*z)
  | c=>.uf (300000+z) (uP z) [.int .i64 c]
def oV (P:Program) (H:DHp) (t:TypeId) (x:EV):Option (EB×EV×DHop):=
 match P.underlying t,x with
 | some (.slice e),.slice _ (.rw j) off n=>
  match G9 P e,Nm P e,H[j]? with
  | some z,some zv,some (some b)=>match dP b||!(Ui (some zv) z&&Nat.ble 1 z) with
   | true=>none
   | false=>some (E6 (S4 (.lit 1) n) (E6 (Qd (Cf zv)) (S4 (N1 off (Z1 n z)) (Dk b.cells))),.tup [],.set j ⟨b.esz,Uf b.cells off (.agg (dE n (Cf zv)))⟩)
  | _,_,_=>none
 | _,_=>none
noncomputable def Ry (P:Program) (F:DFr) (H:DHp) (op:Op):Option (EB×EV×DHop):=
 match op with
 | .store t a x=>
  match evD F a,G9 P t with
  | .ptr (.rw i) off,some z=>match H[i]? with
   | some (some b)=>match dP b with
    | true=>none
    | false=>some (E6 (Nu (evD F x)) (E6 (Si (evD F x) z) (S4 (N1 off (.lit z)) (Dk b.cells))),.tup [],.set i ⟨b.esz,Yw b.cells off (evD F x) z⟩)
   | _=>none
  | _,_=>none
 | .alloc e=>match Nm P e with
  | some z=>some (.lit true,.ptr (X8 H) (.lit 0),.new ⟨1,Cf z⟩)
  | none=>none
 | .box _ x=>match dO (evD F x) with
  | true=>some (.lit true,.ptr (X8 H) (.lit 0),.new ⟨1,Cf (evD F x)⟩)
  | false=>none
 | .buildSlice t n parts=>
  match P.underlying t with
  | some (.slice e)=>match G9 P e,Nm P e with
   | some z,some zv=>
    match Cf zv with
    | .of cs=>
     match Hc z&&(Nat.ble (n*z) 16777216&&Nat.beq cs.length z) with
     | true=>match Ux (fun i=>some (i*z,z)) (.of ((List.replicate n cs).flatten)) (parts.toList.map fun p=>(p.1,evD F p.2)) with
      | some (c,cs)=>some (c,.slice false (X8 H) (.lit 0) (.lit n),.new ⟨z,cs⟩)
      | none=>none
     | false=>none
    | _=>none
   | _,_=>none
  | _=>none
 | .makeSlice t l c=>
  match P.underlying t,evD F l,evD F c with
  | some (.slice e),.int _ l,.int _ c=>match P.info? e,Nm P e with
   | some i,some zv=>match Hc i.size&&(Ui (some zv) i.size&&Nat.ble 1 i.size) with
    | true=>some (E6 (H9 .leq (.lit 0) l) (E6 (H9 .leq l c) (E6 (H9 .leq (mkBig c i.bytes) (.lit 140737488355328)) (H9 .leq c (.lit 140737488355328)))),.slice false (X8 H) (.lit 0) (Dj l),.new ⟨i.size,dE (Dj l) (Cf zv)⟩)
    | false=>none
   | _,_=>none
  | _,_,_=>none
 | .convert s d x=>
  match Bs P s&&Af P d,evD F x with
  | true,.str s=>some (S4 (Lo s) (.lit 140737488355328),.slice false (X8 H) (.lit 0) (Lo s),.new ⟨1,Yx s⟩)
  | false,.slice mb (.rw i) off n=>match Af P s&&Nat.beq s d with
   | true=>match H[i]? with
    | some (some b)=>match dP b with
     | true=>none
     | false=>some (S4 (.lit 1) n,.slice mb (.rw i) off n,.set i b)
    | _=>none
   | false=>none
  | _,_=>none
 | .call { callee:=.builtin .append,args,argTypes }=>
  match args.toList,argTypes.toList with
  | [s,x],[t,u]=>match P.underlying u with
   | some (.slice _)=>Zt P H t (evD F s) (evD F x)
   | some .string=>Zt P H t (evD F s) (evD F x)
   | some (.int _)=>Qc P H t (evD F s) (evD F x)
   | _=>none
  | _,_=>none
 | .call { callee:=.builtin .clear,args,argTypes }=>
  match args.toList,argTypes.toList with
  | [x],[t]=>oV P H t (evD F x)
  | _,_=>none
 | _=>none
where
 mkBig (c:EI) (z:Nat):EI:=match c with
  | .lit n=>.lit (n*z)
  | c=>.uf (300000+z) (uP z) [.int .i64 c]
noncomputable def fJ (P:Program) (F:DFr) (H:DHp) (op:Op):Option (EB×List DHop):=
 match op with
 | .store t a x=>
  match evD F a,G9 P t with
  | .ptr (.fm b c k) off,some z=>match Gu H b c with
   | some (z0,l,ls)=>some (E6 (S4 (N1 k (.lit 1)) (.lit c)) (E6 (.rows l ls) (E6 (S4 (N1 k (.lit 1)) (.len l)) (E6 (Nu (evD F x)) (E6 (Si (evD F x) z) (S4 (N1 off (.lit z)) (Dk (.row l k))))))),Sy b c z0 (.put l k (Yw (.row l k) off (evD F x) z)))
   | none=>none
  | _,_=>none
 | _=>none
noncomputable def Zr (F:DFr) (op:Op):Option (FuncId×List EV):=
 match op with
 | .call { callee:=.value f,args,.. }=>match evD F f with
  | .func g cap=>some (g,args.toList.map (evD F)++cap)
  | _=>none
 | _=>none
noncomputable def fH (F:DFr) (op:Op):Option (Nat×List EV):=
 match op with
 | .call { callee:=.value f,args,.. }=>match evD F f with
  | .yld i=>some (i,args.toList.map (evD F))
  | _=>none
 | _=>none
noncomputable def fQ (P:Program) (F:DFr) (H:DHp):ResultVar→Option (EB×EV)
 | .tmp t=>some (.lit true,Us F t)
 | .cell a t=>match Us F a with
  | .ptr r off=>kO P H t r off
  | _=>none
noncomputable def Sl (P:Program) (F:DFr) (H:DHp):List ResultVar→Option (EB×List EV)
 | []=>some (.lit true,[])
 | x::xs=>match fQ P F H x with
  | some (c,v)=>match Sl P F H xs with
   | some (d,r)=>some (E6 c d,v::r)
   | none=>none
  | none=>none
noncomputable def resD (P:Program) (fn:Func) (F:DFr) (H:DHp):Option (EB×EV):=
 match Sl P F H fn.results.toList with
 | some (c,[v])=>some (c,v)
 | some (c,vs)=>some (c,.tup vs)
 | none=>none
inductive DTrK where
 | still
 | read (r:ER)
 | write
structure fF where
 kd:DTrK
 len:Nat
 hs:List DHop
def Sd (i:Nat) (len:Nat):List DHop→Bool
 | []=>false
 | .set j _::hs=>j==i||Sd i len hs
 | .new _::hs=>len==i||Sd i (len+1) hs
 | .app j _::hs=>j==i||(len==i||Sd i (len+1) hs)
def Sc (r:ER) (len:Nat) (hs:List DHop):Bool:=
 match r with
 | .rw i=>Sd i len hs
 | .ro _=>false
 | .fm _ _ _=>true
def gX (x y:fF):Bool:=
 match x.kd,y.kd with
 | .write,.write=>false
 | .write,.read r=>!Sc r x.len x.hs
 | .read r,.write=>!Sc r y.len y.hs
 | _,_=>true
def gS (all:List Oper) (trs:List fF):Bool:=
 let ms:=Hx all []
 Tb 0 all&&(List.range all.length).all fun j=>(List.range j).all fun i=>
  (ms.getD j 0).testBit i ||
  (match all[i]?,all[j]?,trs[i]?,trs[j]? with
   | some x,some y,some a,some b=>Tg all x y&&gX a b
   | _,_,_,_=>false)
def Du:Bool→Nat→DHp→Option (List DHop)
 | false,_,[]=>some []
 | true,_,[]=>none
 | false,i,some b::H'=>match Du false (i+1) H' with
  | some hs=>some (.new b::hs)
  | none=>none
 | true,i,some b::H'=>match Du false (i+1) H' with
  | some hs=>some (.app (i - 1) b::hs)
  | none=>none
 | false,i,none::H'=>match Du true (i+1) H' with
  | some hs=>some (.new ⟨0,.of []⟩::hs)
  | none=>none
 | true,i,none::H'=>match Du true (i+1) H' with
  | some hs=>some (.app (i - 1) ⟨0,.of []⟩::hs)
  | none=>none
def Ly:Nat→DHp→DHp→Option (List DHop)
 | i,[],H'=>Du false i H'
 | i,_::H,some b::H'=>match Ly (i+1) H H' with
  | some hs=>some (.set i b::hs)
  | none=>none
 | i,none::H,none::H'=>Ly (i+1) H H'
 | _,_,_=>none
inductive DWk where
 | code (c:Code)
 | ops (all l:List Oper)
 | dr (all l:List Oper) (trs:List fF)
structure DCfg where
 P:Program
 inl:FuncId→Bool
 sum:FuncId→List EV→DHp→Option Outs
 loop:Code→DFr→DHp→Option LOut
 M:Nat
 rng:Code→DFr→DHp→Option LOut:=fun _ _ _=>none
 ysum:Nat→List EV→DHp→Option Outs:=fun _ _ _=>none
 /-- which types' slices and pointers lie in which family (where it begins,how many rows it iZ);which structs are to be read field by field -/
 fam:TypeId→Option (Nat×Nat):=fun _=>none
abbrev DK:=Ex→DFr→DHp→Facts→T
abbrev DRec:=Nat→DWk→DFr→DHp→Facts→DK→T
def Ej (K:DCfg) (rec:Code→Bool) (o:Oper):Bool:=
 match kdOf K.P o.op with
 | .pure=>true
 | .read=>true
 | .write=>false
 | .call=>match o.op with
  | .call { callee:=.value (.func g),.. }=>K.inl g&&(match K.P.funcs[g]? with
   | some fn=>match fn.body with
    | some c=>rec c
    | none=>true
   | none=>true)
  | _=>false
def U8 (K:DCfg) (rec:Code→Bool):Code→Bool
 | .skip=>true
 | .region _ ops _=>ops.toList.all (Ej K rec)
 | .seq a b=>U8 K rec a&&U8 K rec b
 | .cond _ a b=>U8 K rec a&&U8 K rec b
 | .block _ c=>U8 K rec c
 | .loop _=>false
 | .exit _=>true
 | .scope c=>U8 K rec c
 | .label _=>true
 | .ret=>true
 | _=>false
def S7 (K:DCfg):Nat→Code→Bool
 | 0,_=>false
 | d+1,c=>U8 K (S7 K d) c
def Hn (fn:Func) (args:List EV):DFr:=args++List.replicate (fn.ntmps - args.length) (.tup [])
noncomputable def N8 (F:DFr) (d:Option Tmp) (v:EV):DFr:=
 match d with
 | some d=>sP F d v
 | none=>F
noncomputable def Rm (P:Program) (fn:Func) (Q:EV→DHp→Facts→T) (e:Ex) (F:DFr) (H:DHp) (fs:Facts):T:=
 match e with
 | .exit _=>.fail
 | _=>cY (resD P fn F H) fun v=>Q v H fs
def Fk (fs:Facts) (o:Outs) (k:Facts→EV→List DHop→T):T:=
 match o with
 | .one v hs=>k fs v hs
 | .chk b x=>Hi b (Fk fs x k)
 | .tst b x y=>Da fs b (fun fs=>Fk fs x k) (fun fs=>Fk fs y k)
 | .namI e f=>.namI fs.n e fun x=>Fk (fresh fs) (f (.var fs.n x)) k
 | .namN e f=>.namN fs.n e fun x=>Fk (fresh fs) (f (.var fs.n x)) k
 | .namB e f=>.namB fs.n e fun x=>Fk (fresh fs) (f (.var fs.n x)) k
 | .namL e f=>.namL fs.n e fun x=>Fk (fresh fs) (f (.var fs.n x)) k
def Br (fs:Facts) (o:LOut) (k:Facts→Ex→DFr→DHp→T):T:=
 match o with
 | .one e F H=>k fs e F H
 | .chk b x=>Hi b (Br fs x k)
 | .tst b x y=>Da fs b (fun fs=>Br fs x k) (fun fs=>Br fs y k)
 | .imp b x=>.imp b (Br (Lv fs b true) x k)
 | .allI f=>.allI fs.n fun x=>Br (fresh fs) (f (.var fs.n x)) k
 | .allN f=>.allN fs.n fun x=>Br (fresh fs) (f (.var fs.n x)) k
 | .allB f=>.allB fs.n fun x=>Br (fresh fs) (f (.var fs.n x)) k
 | .allL f=>.allL fs.n fun x=>Br (fresh fs) (f (.var fs.n x)) k
 | .namI e f=>.namI fs.n e fun x=>Br (fresh fs) (f (.var fs.n x)) k
 | .namN e f=>.namN fs.n e fun x=>Br (fresh fs) (f (.var fs.n x)) k
 | .namB e f=>.namB fs.n e fun x=>Br (fresh fs) (f (.var fs.n x)) k
 | .namL e f=>.namL fs.n e fun x=>Br (fresh fs) (f (.var fs.n x)) k
def I8 (ro:Bool) (H:DHp):T→Option Outs
 | .ret v H'=>match ro with
  | true=>some (.one v [])
  | false=>match Ly 0 H H' with
   | some hs=>some (.one v hs)
   | none=>none
 | .chk b t=>match I8 ro H t with
  | some o=>some (.chk b o)
  | none=>none
 | .tst b x y=>match I8 ro H x,I8 ro H y with
  | some o,some p=>some (.tst b o p)
  | _,_=>none
 | _=>none
noncomputable def fN (K:DCfg) (rec:DRec) (m:Nat) (all l:List Oper) (dst:Option Tmp) (op:Op) (F:DFr) (H:DHp) (fs:Facts) (Q:DK):T:=
 match kdOf K.P op with
 | .pure=>cY (kJ K.P F op) fun v=>rec m (.ops all l) (N8 F dst v) H fs Q
 | .read=>match oL K.fam K.P F H op with
  | some o=>gL fs o fun fs v=>rec m (.ops all l) (N8 F dst v) H fs Q
  | none=>cY (kI K.P F H op) fun v=>rec m (.ops all l) (N8 F dst v) H fs Q
 | .write=>match Ry K.P F H op with
  | some (c,v,h)=>Hi c (rec m (.ops all l) (N8 F dst v) (h.act H) fs Q)
  | none=>match fJ K.P F H op with
   | some (c,hs)=>Hi c (rec m (.ops all l) (N8 F dst (.tup [])) (Lz H hs) fs Q)
   | none=>.fail
 | .call=>match Zr F op with
  | some (f,args)=>match K.inl f with
   | true=>match K.P.funcs[f]? with
    | some fn=>match fn.body with
     | some c => match fn.name == "runtime.NumGoroutine" with
      | true=>.fail
      | false=>rec H.length (.code c) (Hn fn args) H fs (Rm K.P fn fun v H' fs=>rec m (.ops all l) (N8 F dst v) H' fs Q)
     | none=>.fail
    | none=>.fail
   | false=>match K.sum f args H with
    | some o=>Fk fs o fun fs v hs=>rec m (.ops all l) (N8 F dst v) (Lz H hs) fs Q
    | none=>.fail
  | none=>match fH F op with
   | some (i,args)=>match K.ysum i args H with
    | some o=>Fk fs o fun fs v hs=>rec m (.ops all l) (N8 F dst v) (Lz H hs) fs Q
    | none=>.fail
   | none=>.fail
noncomputable def Sw (fs:Facts) (all:List Oper) (guard:Option (Nat×Bool)) (F:DFr) (go skip:DFr→Facts→T):T:=
 match guard with
 | none=>go F fs
 | some (j,want)=>
  match (all[j]?).bind (·.dst) with
  | some t=>
   match Us F t with
   | .bool b=>Da fs b
     (fun fs=>match want with | true=>go (N8 F (some t) (.bool (.lit true))) fs | false=>skip (N8 F (some t) (.bool (.lit true))) fs)
     (fun fs=>match want with | true=>skip (N8 F (some t) (.bool (.lit false))) fs | false=>go (N8 F (some t) (.bool (.lit false))) fs)
   | .tup []=>skip F fs
   | _=>.fail
  | none=>.fail
noncomputable def Pd (K:DCfg) (rec:DRec) (m:Nat) (all l:List Oper) (F:DFr) (H:DHp) (fs:Facts) (Q:DK):T:=
 match l with
 | []=>Q .normal F H fs
 | ⟨dst,op,_,_,_,guard⟩::l=>
  Sw fs all guard F (fun F fs=>fN K rec m all l dst op F H fs Q) (fun F fs=>rec m (.ops all l) (N8 F dst (.tup [])) H fs Q)
noncomputable def Vz (K:DCfg) (rec:DRec) (m:Nat) (all l:List Oper) (trs:List fF) (dst:Option Tmp) (op:Op) (F:DFr) (H:DHp) (fs:Facts) (Q:DK):T:=
  match kdOf K.P op with
  | .pure=>cY (kJ K.P F op) fun v=>rec m (.dr all l (trs++[⟨.still,H.length,[]⟩])) (N8 F dst v) H fs Q
  | .read=>match oL K.fam K.P F H op with
    | some o=>gL fs o fun fs v=>rec m (.dr all l (trs++[⟨(match Yh F op with | some r=>.read r | none=>.still),H.length,[]⟩])) (N8 F dst v) H fs Q
    | none => cY  (kI    K.P F H op) fun v => rec m (.dr all l (trs ++ [⟨(match Yh    F op with | some r => .read r | none => .still), H.length, []⟩])) (N8   F dst v) H fs Q
  | .write => match Ry     K.P F H op with
    | some (c,v,h)=>Hi c (rec m (.dr all l (trs++[⟨.write,H.length,[h]⟩])) (N8 F dst v) (h.act H) fs Q)
    | none => .fail
  | .call=>match Zr F op with
    | some (f,args)=>match K.inl f with
      | true=>match K.P.funcs[f]? with
        | some fn=>match fn.body with
          | some c => match fn.name == "runtime.NumGoroutine" with
            | true=>.fail
            | false=>match I8 (S7 K 20 c) H (rec H.length (.code c) (Hn fn args) H fs (Rm K.P fn fun v H' _=>.ret v H')) with
              | some o=>Fk fs o fun fs v hs=>rec m (.dr all l (trs++[⟨.write,H.length,hs⟩])) (N8 F dst v) (Lz H hs) fs Q
              | none=>.fail
          | none=>.fail
        | none=>.fail
      | false=>match K.sum f args H with
        | some o=>Fk fs o fun fs v hs=>rec m (.dr all l (trs++[⟨.write,H.length,hs⟩])) (N8 F dst v) (Lz H hs) fs Q
        | none=>.fail
    | none=>match fH F op with
      | some (i,args)=>match K.ysum i args H with
        | some o=>Fk fs o fun fs v hs=>rec m (.dr all l (trs++[⟨.write,H.length,hs⟩])) (N8 F dst v) (Lz H hs) fs Q
        | none=>.fail
      | none=>.fail
noncomputable def Kj (K:DCfg) (rec:DRec) (m:Nat) (all l:List Oper) (trs:List fF) (F:DFr) (H:DHp) (fs:Facts) (Q:DK):T:=
 match l with
 | []=>match gS all trs with
  | true=>Q .normal F H fs
  | false=>.fail
 | ⟨dst,op,_,_,_,guard⟩::l=>
  Sw fs all guard F (fun F fs=>Vz K rec m all l trs dst op F H fs Q) (fun F fs=>rec m (.dr all l (trs++[⟨.still,H.length,[]⟩])) (N8 F dst (.tup [])) H fs Q)
noncomputable def Wa (_K:DCfg) (rec:DRec) (m:Nat) (c:Operand) (x y:Code) (F:DFr) (H:DHp) (fs:Facts) (Q:DK):T:=
 match c with
 | .tmp t=>match Us F t with
  | .bool b=>Da fs b (fun fs=>rec m (.code x) (N8 F (some t) (.bool (.lit true))) H fs Q) (fun fs=>rec m (.code y) (N8 F (some t) (.bool (.lit false))) H fs Q)
  | _=>.fail
 | .const (.bool b)=>match b with
  | true=>rec m (.code x) F H fs Q
  | false=>rec m (.code y) F H fs Q
 | _=>.fail
def sI (rec:DRec) (m:Nat) (b:Code) (Q:DK):DK:=fun e F H fs=>match e with
 | .normal=>rec m (.code b) F H fs Q
 | e=>Q e F H fs
def eW (id:Nat) (Q:DK):DK:=fun e F H fs=>match e with
 | .exit i=>match i==id with
  | true=>Q .normal F H fs
  | false=>Q (.exit i) F H fs
 | e=>Q e F H fs
noncomputable def Fb (K:DCfg) (rec:DRec) (m:Nat) (c:Code) (F:DFr) (H:DHp) (fs:Facts) (Q:DK):T:=
 match c with
 | .skip=>Q .normal F H fs
 | .region _ ops draw=>match draw with
  | true=>rec m (.dr ops.toList ops.toList []) F H fs Q
  | false=>rec m (.ops ops.toList ops.toList) F H fs Q
 | .seq a b=>rec m (.code a) F H fs (sI rec m b Q)
 | .cond c x y=>Wa K rec m c x y F H fs Q
 | .block id c=>rec m (.code c) F H fs (eW id Q)
 | .loop c=>match Nat.ble m K.M with
  | true=>match K.loop c F H with
   | some o=>Br fs o fun fs e F H=>Q e F H fs
   | none=>.fail
  | false=>.fail
 | .rangeFunc g ps as bd=>match Nat.ble m K.M with
  | true=>match K.rng (.rangeFunc g ps as bd) F H with
   | some o=>Br fs o fun fs e F H=>Q e F H fs
   | none=>.fail
  | false=>.fail
 | .exit id=>Q (.exit id) F H fs
 | .scope c=>rec m (.code c) F H fs Q
 | .label _=>Q .normal F H fs
 | .ret=>Q .ret F H fs
 | _=>.fail
noncomputable def aM3 (K:DCfg) (rec:DRec) (m:Nat) (w:DWk) (F:DFr) (H:DHp) (fs:Facts) (Q:DK):T:=
 match w with
 | .ops all l=>Pd K rec m all l F H fs Q
 | .dr all l trs=>Kj K rec m all l trs F H fs Q
 | .code c=>Fb K rec m c F H fs Q
noncomputable def dx (K:DCfg):Nat→DRec
 | 0=>fun _ _ _ _ _ _=>.fail
 | n+1=>aM3 K (dx K n)
end Go.Am
namespace Go.Am
variable {G:Nat→List AV}
theorem S6 (l:List EV):vVs G l=l.map (vV G):=by
 induction l with
 | nil=>rfl
 | cons x l ih=>simp only [vVs,ih,List.map_cons]
theorem Bm (l:List EV):(vVs G l).length=l.length:=by rw [S6,List.length_map]
theorem fK (l:List EV) (n:Nat):(vVs G l)[n]?=(l[n]?).map (vV G):=by rw [S6,List.getElem?_map]
theorem Tl (l m:List EV):vVs G (l++m)=vVs G l++vVs G m:=by simp only [S6,List.map_append]
theorem Et (F:List EV) (t:Nat):(vVs G F).getD t .undef=vV G (F.getD t .undef):=by
 simp only [List.getD,fK];cases F[t]?<;>simp [vV]
theorem qC (F:List EV) (t:Nat) (v:EV):vVs G (F.set t v)=(vVs G F).set t (vV G v):=by simp only [S6,List.map_set]
theorem aU (a b:EB):vB G (E6 a b)=(vB G a&&vB G b):=by
 unfold E6;split
 ·simp [vB]
 ·simp [vB]
 ·split
  ·simp [vB]
  ·simp [vB]
  ·simp [vB]
theorem Ey (a:EB):vB G (Hw a)=!(vB G a):=by
 unfold Hw;split<;>simp [vB]
theorem lL (a b:EB):vB G (kN a b)=(vB G a==vB G b):=by
 unfold kN;split<;>simp [vB,Ey]
theorem Ah (o:BinOp) (a b:EI):vB G (H9 o a b)=Ni o (vI G a) (vI G b):=by
 unfold H9;split<;>simp [vB,vI]
theorem Tn (o:BinOp) (k:IntKind) (a b:EI):vI G (Gr o k a b)=bU o k (vI G a) (vI G b):=by
 unfold Gr;split<;>simp [vI]
theorem vK (k:IntKind) (a:EI):vI G (nA k a)=k.wrap (vI G a):=by
 unfold nA;split<;>simp [vI]
theorem zK (k:IntKind) (a:EI):vI G (tO k a)=k.wrap (0 - vI G a):=by
 unfold tO;split<;>simp [vI]
theorem zL (k:IntKind) (a:EI):vI G (tP k a)=nQ k (vI G a):=by
 unfold tP;split<;>simp [vI]
theorem Hz (n:EN):vI G (Ns n)=(vN G n:Int):=by
 unfold Ns;split<;>simp [vI,vN]
theorem Ev (n:EI):vN G (Dj n)=(vI G n).toNat:=by
 unfold Dj;split<;>simp [vI,vN]
theorem L1 (a b:EN):vN G (N1 a b)=vN G a+vN G b:=by
 unfold N1;split<;>simp [vN];omega
theorem Y2 (a:EN) (z:Nat):vN G (Z1 a z)=vN G a*z:=by
 unfold Z1;split
 ·simp
 ·split<;>simp [vN]
theorem Mg (a:EN) (z:Nat):vN G (Z1 a z)=Wx (vN G a) z:=by
 rw [Y2];unfold Wx;split<;>simp
theorem zJ (a b:EN):vN G (tN a b)=vN G a - vN G b:=by
 unfold tN;split<;>simp [vN]
theorem A6 {x y:Nat}:leB x y=true↔x≤y:=by unfold leB;exact decide_eq_true_iff
theorem R1 (a b:EN):vB G (S4 a b)=leB (vN G a) (vN G b):=by
 unfold S4;split
 ·simp only [vB,vN];rename_i x y;cases hb:x.ble y with
  | true=>exact (A6.2 (Nat.le_of_ble_eq_true hb)).symm
  | false=>
   cases hl:leB x y with
   | false=>rfl
   | true=>rw [Nat.ble_eq_true_of_le (A6.1 hl)] at hb;simp at hb
 ·simp only [vB,vN];exact (A6.2 (Nat.zero_le _)).symm
 ·simp only [vB]
theorem lK (a b:EN):vB G (kM a b)=Nat.beq (vN G a) (vN G b):=by
 unfold kM;split<;>simp [vB,vN]
theorem lJ (a b:ES):vB G (dF a b)=(vS G a==vS G b):=by
 unfold dF;split<;>simp [vB,vS]
theorem zI (a b:ES):vS G (tQ a b)=vS G a++vS G b:=by
 unfold tQ;split<;>simp [vS]
theorem Eu (s:ES):vN G (Lo s)=(vS G s).length:=by
 unfold Lo;split<;>simp [vS,vN]
theorem Ag (l:EL):vN G (Dk l)=(vL G l).length:=by
 unfold Dk;split<;>simp [vN,vL,Bm,oW]
theorem N6 {cs:List AV} {o:Nat} {v:AV} (h:∀ l,v≠.agg l):setPart cs o v=cs.set o v:=by
 unfold setPart;split
 ·rename_i l;exact absurd rfl (h l)
 ·rfl
theorem vJ {v:EV} {l:List AV} (h:vV G v=.agg l):∃ d,v=.agg d∧vL G d=l:=by
 cases v<;>simp [vV] at h;exact ⟨_,rfl,h⟩
theorem Ox (l:EL) (o:EN) (v:EV):vL G (Uf l o v)=setPart (vL G l) (vN G o) (vV G v):=by
 unfold Uf;split
 ·split
  ·simp only [vL,vN,vV,setPart,Hk,S6,List.map_append,List.map_take,List.map_drop,List.length_map]
  ·simp only [vL,vN,vV]
  ·rename_i cs n v h1 h2;rw [N6]
   ·simp only [vL,qC,vN]
   ·intro l he;obtain ⟨d,rfl,_⟩:=vJ he;exact h2 d rfl
 ·simp only [vL]
theorem Ew (l:EL) (o n:EN):vL G (Jo l o n)=((vL G l).drop (vN G o)).take (vN G n):=by
 unfold Jo;split<;>simp [vL,vN,subL,S6,List.map_take,List.map_drop]
theorem hZ (a b:EL):vL G (dG a b)=vL G a++vL G b:=by
 unfold dG;split<;>simp [vL,Tl,vVs]
theorem cC (s:ES):vL G (Yx s)=(vS G s).map fun b=>.int .u8 b.toNat:=by
 unfold Yx;split
 ·simp only [vL,S6,List.map_map,vS];congr 1
 ·simp only [vL,oW]
theorem aS (n:EN) (l:EL):vL G (dE n l)=(List.replicate (vN G n) (vL G l)).flatten:=by
 unfold dE;split
 ·simp only [vL,S6,vN,List.map_flatten,List.map_replicate]
 ·simp only [vL,repL]
theorem notAgg {v:EV} (h:nU v=false):∀ l,vV G v≠.agg l:=by
 intro l he;obtain ⟨d,rfl,_⟩:=vJ he;simp [nU] at h
theorem Qv {o:EN} {n:Nat} (h:bD o=some n):o=.lit n:=by
 unfold bD at h;split at h
 ·simp at h;rw [h]
 ·simp at h
theorem Tx:∀ (l:EL) (n:Nat) (c:EB) (v:EV),Dh l n=some (c,v)→vB G c=true→(vL G l)[n]?=some (vV G v)
 | .of cs,n,c,v,h,_=>by
  simp only [Dh] at h;split at h
  ·rename_i w hn;simp only [Option.some.injEq,Prod.mk.injEq] at h;obtain ⟨_,rfl⟩:=h;simp only [vL,fK,hn,Option.map_some]
  ·simp at h
 | .set l o w,n,c,v,h,hc=>by
  simp only [Dh] at h;split at h
  ·rename_i m ho ha
   have:=Qv ho;subst this
   have hs:vL G (.set l (.lit m) w)=(vL G l).set m (vV G w):=by
    simp only [vL,vN];exact N6 (notAgg ha)
   rw [hs];split at h
   ·rename_i hm;have hm:=Nat.eq_of_beq_eq_true hm;subst hm;simp only [Option.some.injEq,Prod.mk.injEq] at h;obtain ⟨rfl,rfl⟩:=h;rw [R1,Ag] at hc;have hc:m+1≤(vL G l).length:=A6.1 hc;rw [List.getElem?_set_self (by omega)]
   ·rename_i hm;have hne:m≠n:=fun he=>by rw [he] at hm;simp at hm
    rw [List.getElem?_set_ne hne];exact Tx l n c v h hc
  ·simp at h
 | .var ..,_,_,_,h,_=>by simp [Dh] at h
 | .ro ..,_,_,_,h,_=>by simp [Dh] at h
 | .app ..,_,_,_,h,_=>by simp [Dh] at h
 | .sub ..,_,_,_,h,_=>by simp [Dh] at h
 | .bytes ..,_,_,_,h,_=>by simp [Dh] at h
 | .rep ..,_,_,_,h,_=>by simp [Dh] at h
 | .uf ..,_,_,_,h,_=>by simp [Dh] at h
theorem rdI_ok {k:IntKind} {l:EL} {o:EN} {c:EB} {e:EI} (h:rdI k l o=some (c,e)) (hc:vB G c=true):isI k (vL G l) (vN G o)=true∧A0 (vL G l) (vN G o)=vI G e:=by
 have gen:some (EB.isI k l o,EI.get l o)=some (c,e)→isI k (vL G l) (vN G o)=true∧A0 (vL G l) (vN G o)=vI G e:=fun h=>by
  simp only [Option.some.injEq,Prod.mk.injEq] at h;obtain ⟨rfl,rfl⟩:=h;exact ⟨by simpa only [vB] using hc,by simp only [vI]⟩
 unfold rdI at h;split at h
 ·rename_i n ho
  have:=Qv ho;subst this
  split at h
  ·rename_i c' k' e' hr;split at h
   ·rename_i hk;subst hk;simp only [Option.some.injEq,Prod.mk.injEq] at h;obtain ⟨rfl,rfl⟩:=h
    have:=Tx l n _ _ hr hc
    simp only [vV] at this;simp [isI,A0,vN,this]
   ·simp at h
  ·simp at h
  ·exact gen h
 ·exact gen h
theorem rdB_ok {l:EL} {o:EN} {c:EB} {e:EB} (h:rdB l o=some (c,e)) (hc:vB G c=true):isB (vL G l) (vN G o)=true∧A5 (vL G l) (vN G o)=vB G e:=by
 have gen:some (EB.isB l o,EB.get l o)=some (c,e)→isB (vL G l) (vN G o)=true∧A5 (vL G l) (vN G o)=vB G e:=fun h=>by
  simp only [Option.some.injEq,Prod.mk.injEq] at h;obtain ⟨rfl,rfl⟩:=h;exact ⟨by simpa only [vB] using hc,by simp only [vB]⟩
 unfold rdB at h;split at h
 ·rename_i n ho
  have:=Qv ho;subst this
  split at h
  ·rename_i c' e' hr;simp only [Option.some.injEq,Prod.mk.injEq] at h;obtain ⟨rfl,rfl⟩:=h
   have:=Tx l n _ _ hr hc
   simp only [vV] at this;simp [isB,A5,vN,this]
  ·simp at h
  ·exact gen h
 ·exact gen h
theorem vV_dCell (v:Value):vV G (kW v)=Bq v:=by
 unfold kW Bq
 split<;>simp [vV,vB,vI,vS]
theorem qD (v:Value):vV G (uJ v)=D8 v:=by
 unfold uJ D8;split
 ·simp only [vV,vL,S6,List.map_map];congr 2;funext x;exact vV_dCell x
 ·rename_i h;cases v<;>first | exact vV_dCell _ | exact absurd rfl (h _)
theorem vV_evD (F:DFr) (x:Operand):vV G (evD F x)=ev (vVs G F) x:=by
 cases x with
 | tmp t=>simp only [evD,Ld,ev,Et]
 | const v=>simp only [evD,ev,qD]
 | global g=>simp only [evD,ev,vV]
 | func f=>simp only [evD,ev,vV,vVs]
def Wo (G:Nat→List AV) (o:Option (EB×EV)) (p:Option (Bool×AV)):Prop:=∀ c v,o=some (c,v)→vB G c=true→p=some (true,vV G v)
theorem Wo.none {p:Option (Bool×AV)}:Wo G none p:=fun c v h=>by simp at h
theorem Wo.some {c:EB} {v:EV} {p:Option (Bool×AV)} (h:vB G c=true→p=some (true,vV G v)):Wo G (some (c,v)) p:=fun c' v' he hc=>by
 simp only [Option.some.injEq,Prod.mk.injEq] at he;obtain ⟨rfl,rfl⟩:=he;exact h hc
theorem yP {op:BinOp} {k:IntKind} {x y:EI}:Wo G (binIntD op k x y) (Xr op k (vI G x) (vI G y)):=by
 have nz:vB G (Hw (H9 .eql y (.lit 0)))=true→(!(vI G y==0))=true:=fun h=>by
  simpa only [Ey,Ah,Ni,vI] using h
 cases op<;>simp only [binIntD,Xr]<;>first
  | exact Wo.none
  | (refine Wo.some fun hc=>?_;rw [nz hc];simp only [vV,Tn,bU];done)
  | (refine Wo.some fun hc=>?_;simp only [vV,Tn,bU,Ey,Ah,Ni];done)
  | (refine Wo.some fun hc=>?_;simp only [vV,Tn,bU,Ey,Ah,Ni];rfl)
theorem aO {op:BinOp} {k:IntKind} {x y:EI}:Wo G (Xq op k x y) (Qb op k (vI G x) (vI G y)):=by
 have nz:vB G (H9 .leq (.lit 0) y)=true→decide (0≤vI G y)=true:=fun h=>by
  rw [Ah] at h;exact decide_eq_true (of_decide_eq_true h)
 cases op<;>simp only [Xq,Qb]<;>first
  | exact Wo.none
  | (refine Wo.some fun hc=>?_;rw [nz hc];simp only [vV,Tn,bU];done)
theorem yO {op:BinOp} {x y:ES}:Wo G (gV op x y) (Xp op (vS G x) (vS G y)):=by
  cases op<;>simp only [gV,Xp]<;>first
    | exact Wo.none
    | (refine Wo.some fun hc => ?_
       rw [R1,L1,Eu,Eu] at hc;simp only [vV,zI,Option.some.injEq,Prod.mk.injEq,and_true]
       exact hc)
    | (refine Wo.some fun hc=>?_;simp only [vV,lJ,Ey];done)
theorem Iz {op:BinOp} {c:Bool} {b:EB}:Wo G (Lw op c b) (Ij op c (vB G b)):=by
 cases op<;>simp only [Lw,Ij]<;>first
  | exact Wo.none
  | (refine Wo.some fun hc=>?_;simp only [vB] at hc;subst hc;simp only [vV,Ey];done)
def We (G:Nat→List AV) (o:Option (EB×EB)) (p:Option (Bool×Bool)):Prop:=∀ c b,o=some (c,b)→vB G c=true→p=some (true,vB G b)
theorem Is {P:Program} {t:TypeId} {l:EL} {o:EN}:Wo G (Hu P t l o) (Y9 P t (vL G l) (vN G o)):=by
 have agg:∀ z,vB G (S4 (N1 o (.lit z)) (Dk l))=true→decide (vN G o+z≤(vL G l).length)=true:=fun z h=>by
  rw [R1,L1,Ag] at h;exact h
 have any:∀ n,bD o=some n→∀ c v,Dh l n=some (c,v)→vB G c=true→(match (vL G l)[vN G o]? with | some v=>some (true,v) | none=>none)=some (true,vV G v):=fun n ho c v h hc=>by
  have:=Qv ho;subst this
  have:=Tx l n c v h hc
  simp only [vN,this]
 intro c v h hc;unfold Hu at h;unfold Y9;split at h
 ·rename_i k hu;simp only [hu];split at h
  ·rename_i c' e hr;simp only [Option.some.injEq,Prod.mk.injEq] at h;obtain ⟨rfl,rfl⟩:=h;obtain ⟨h1,h2⟩:=rdI_ok hr hc;simp only [h1,h2,vV]
  ·simp at h
 ·rename_i hu;simp only [hu];split at h
  ·rename_i c' e hr;simp only [Option.some.injEq,Prod.mk.injEq] at h;obtain ⟨rfl,rfl⟩:=h;obtain ⟨h1,h2⟩:=rdB_ok hr hc;simp only [h1,h2,vV]
  ·simp at h
 ·rename_i fs hu;simp only [hu];split at h
  ·rename_i z hz;simp only [Option.some.injEq,Prod.mk.injEq] at h;obtain ⟨rfl,rfl⟩:=h;simp only [hz,agg z hc,vV,Ew,vN]
  ·simp at h
 ·rename_i n e hu;simp only [hu];split at h
  ·rename_i z hz;simp only [Option.some.injEq,Prod.mk.injEq] at h;obtain ⟨rfl,rfl⟩:=h;simp only [hz,agg z hc,vV,Ew,vN]
  ·simp at h
 ·rename_i d h1 h2 h3 h4 hu;simp only [hu];split at h
  ·rename_i n ho
   have:=any n ho c v h hc
   cases d<;>first
    | exact this
    | exact absurd hu (h1 _)
    | exact absurd hu h2
    | exact absurd hu (h3 _)
    | exact absurd hu (h4 _ _)
  ·simp at h
 ·simp at h
end Go.Am
namespace Go.Am
variable {G:Nat→List AV}
theorem T0 {a b:Bool} (h:(a&&b)=true):a=true∧b=true:=by simpa using h
theorem C5 {a b:EB} (h:vB G (E6 a b)=true):vB G a=true∧vB G b=true:=by
 rw [aU] at h;exact T0 h
theorem gQ {P:Program} {recD:TypeId→EV→EV→Option (EB×EB)} {rec:TypeId→AV→AV→Option (Bool×Bool)} (hr:∀ t x y,We G (recD t x y) (rec t (vV G x) (vV G y))) {xs ys:EL} :
    ∀ fs,We G (Zk P recD xs ys fs) (Va P rec (vL G xs) (vL G ys) fs)
  | [] => fun c b h _ => by
    simp only [Zk,Option.some.injEq,Prod.mk.injEq] at h;obtain ⟨rfl,rfl⟩:=h;simp only [Va,vB]
  | f::fs=>fun c b h hc=>by
    unfold Zk at h;unfold Va;split at h
    · rename_i hn;rw [if_pos hn];split at h
      · rename_i c1 a c2 b' h1 h2;split at h
        · rename_i c3 r c4 s h3 h4;simp only [Option.some.injEq,Prod.mk.injEq] at h;obtain ⟨rfl,rfl⟩:=h;obtain ⟨g1,hc⟩:=C5 hc;obtain ⟨g2,hc⟩:=C5 hc;obtain ⟨g3,g4⟩:=C5 hc;have e1:=Is _ _ h1 g1;have e2:=Is _ _ h2 g2;have e3:=hr _ _ _ _ _ h3 g3;have e4:=gQ hr fs _ _ h4 g4;simp only [vN] at e1 e2;simp only [e1,e2,e3,e4,aU,Bool.and_self]
        · simp at h
      · simp at h
    · rename_i hn;rw [if_neg hn];exact gQ hr fs _ _ h hc
theorem rU {P:Program} {recD:TypeId→EV→EV→Option (EB×EB)} {rec:TypeId→AV→AV→Option (Bool×Bool)} (hr:∀ t x y,We G (recD t x y) (rec t (vV G x) (vV G y))) {e:TypeId} {z:Nat} {xs ys:EL} :
  ∀ is,We G (eC P recD e z xs ys is) (Xl P rec e z (vL G xs) (vL G ys) is)
 | []=>fun c b h _=>by
  simp only [eC,Option.some.injEq,Prod.mk.injEq] at h;obtain ⟨rfl,rfl⟩:=h;simp only [Xl,vB]
 | i::is=>fun c b h hc=>by
  unfold eC at h;unfold Xl;split at h
  ·rename_i c1 a c2 b' h1 h2;split at h
   ·rename_i c3 r c4 s h3 h4;simp only [Option.some.injEq,Prod.mk.injEq] at h;obtain ⟨rfl,rfl⟩:=h;obtain ⟨g1,hc⟩:=C5 hc;obtain ⟨g2,hc⟩:=C5 hc;obtain ⟨g3,g4⟩:=C5 hc;have e1:=Is _ _ h1 g1;have e2:=Is _ _ h2 g2;have e3:=hr _ _ _ _ _ h3 g3;have e4:=rU hr is _ _ h4 g4;simp only [vN] at e1 e2;simp only [e1,e2,e3,e4,aU,Bool.and_self]
   ·simp at h
  ·simp at h
theorem oN {P:Program}:∀ n t x y,We G (gP P n t x y) (Vt P n t (vV G x) (vV G y))
 | 0,t,x,y=>fun c b h=>by simp [gP] at h
 | n+1,t,x,y=>fun c b h hc=>by
  unfold gP at h;unfold Vt;split at h
  ·rename_i k hu;simp only [hu];split at h
   ·split at h
    ·rename_i hk;subst hk;simp only [Option.some.injEq,Prod.mk.injEq] at h;obtain ⟨rfl,rfl⟩:=h;simp only [vV,Ah,Ni,decide_true]
    ·simp at h
   ·simp at h
  ·rename_i hu;simp only [hu];split at h
   ·simp only [Option.some.injEq,Prod.mk.injEq] at h;obtain ⟨rfl,rfl⟩:=h;simp only [vV,lL]
   ·simp at h
  ·rename_i hu;simp only [hu];split at h
   ·simp only [Option.some.injEq,Prod.mk.injEq] at h;obtain ⟨rfl,rfl⟩:=h;simp only [vV,lJ]
   ·simp at h
  ·rename_i fs hu;simp only [hu];split at h
   ·split at h
    ·simp at h
    ·rename_i hs;simp only [vV,hs];exact gQ (fun t x y=>oN n t x y) _ _ _ h hc
   ·simp at h
  ·rename_i m e hu;simp only [hu];split at h
   ·split at h
    ·rename_i z hz;simp only [vV,hz];exact rU (fun t x y=>oN n t x y) _ _ _ h hc
    ·simp at h
   ·simp at h
  ·simp at h
theorem yF {P:Program} {t:TypeId} {xs ys:EL}:We G (eqAD P t xs ys) (Vt P 10 t (.agg (vL G xs)) (.agg (vL G ys))):=by
 intro c b h hc;unfold eqAD at h;split at h
 ·have:=oN 10 t (.agg xs) (.agg ys) c b h hc
  simpa only [vV] using this
 ·simp only [Option.some.injEq,Prod.mk.injEq] at h;obtain ⟨rfl,rfl⟩:=h;simp only [vB,vVs,vV,eqA1] at hc;simp only [vB,vVs,vV,eqA2];split at hc
  ·rename_i c' b' he;simp only [he,hc]
  ·simp at hc
theorem bin_wo {P:Program} {op:BinOp} {t:TypeId} {x y:EV}:Wo G (binD P op t x y) (Y0 P op t (vV G x) (vV G y)):=by
 intro c v h hc;unfold binD at h;split at h
 ·rename_i k a k' b;split at h
  ·simp only [vV,Y0];exact aO _ _ h hc
  ·simp only [vV,Y0];exact aO _ _ h hc
  ·rename_i h1 h2;split at h
   ·rename_i hk;subst hk
    have:=yP _ _ h hc
    simp only [vV,Y0]
    cases op<;>first
     | exact absurd rfl h1
     | exact absurd rfl h2
     | (rw [if_pos trivial];exact this)
     | (rw [if_pos rfl];exact this)
   ·simp at h
 ·simp only [vV,Y0];exact yO _ _ h hc
 ·have:=Iz _ _ h hc
  simp only [vV,Y0];rw [lL] at this;exact this
 ·simp only [vV,Y0];exact Iz _ _ h hc
 ·simp only [vV,Y0];exact Iz _ _ h hc
 ·simp only [vV,Y0];exact Iz _ _ h hc
 ·simp only [vV,Y0];exact Iz _ _ h hc
 ·simp only [vV,Y0];exact Iz _ _ h hc
 ·simp only [vV,Y0];exact Iz _ _ h hc
 ·simp only [vV,Y0];exact Iz _ _ h hc
 ·rename_i xs ys;simp only [vV,Y0];split at h
  ·simp at h
  ·rename_i hg;simp only [hg];split at h
   ·rename_i c' b he;split at h
    ·simp only [Option.some.injEq,Prod.mk.injEq] at h;obtain ⟨rfl,rfl⟩:=h;simp only [yF _ _ he hc,Ij,vV]
    ·simp only [Option.some.injEq,Prod.mk.injEq] at h;obtain ⟨rfl,rfl⟩:=h;simp only [yF _ _ he hc,Ij,vV,Ey]
    ·simp at h
   ·simp at h
 ·simp at h
theorem un_wo {op:UnOp} {x:EV}:Wo G (unD op x) (lM op (vV G x)):=by
 intro c v h hc;unfold unD at h
 split at h<;>first
  | (simp only [Option.some.injEq,Prod.mk.injEq] at h;obtain ⟨rfl,rfl⟩:=h;simp only [vV,lM,zK,zL,Ey];done)
  | (simp at h;done)
theorem aU0 {P:Program} {s d:TypeId} {x:EV}:Wo G (uL P s d x) (Tc P s d (vV G x)):=by
 intro c v h hc;unfold uL at h;split at h
 ·rename_i h1 h2;simp only [Option.some.injEq,Prod.mk.injEq] at h;obtain ⟨rfl,rfl⟩:=h;simp only [vV,Tc,h1,h2,vK]
 ·rename_i h1 h2;simp only [Option.some.injEq,Prod.mk.injEq] at h;obtain ⟨rfl,rfl⟩:=h;simp only [vV,Tc,h1,h2]
 ·simp at h
theorem aF0 {P:Program} {s:TypeId} {x:EV} {f:Nat}:Wo G (oI P s x f) (Sx P s (vV G x) f):=by
 intro c v h hc;unfold oI at h;split at h
 ·rename_i fs r off hu;simp only [vV,Sx,hu];split at h
  ·rename_i fd hf;simp only [hf];split at h
   ·simp at h
   ·rename_i z h0 hz;simp only [Option.some.injEq,Prod.mk.injEq] at h;obtain ⟨rfl,rfl⟩:=h;simp only [hz];cases z with
    | zero=>exact absurd rfl h0
    | succ z=>simp only [vV,L1,vN]
   ·simp at h
  ·simp at h
 ·simp at h
theorem dN {P:Bool} {i l:EI} {z:Int} (hz:vI G l=z) (h:vB G (E6 (H9 .leq (.lit 0) i) (H9 .lss i l))=true):(decide (0≤vI G i)&&decide (vI G i<z))=true:=by
 obtain ⟨h1,h2⟩:=C5 h;rw [Ah] at h1 h2;rw [hz] at h2;simp only [vI] at h1;rw [Bool.and_eq_true];exact ⟨decide_eq_true (of_decide_eq_true h1),decide_eq_true (of_decide_eq_true h2)⟩
theorem aE3 {P:Program} {t:TypeId} {x i:EV}:Wo G (nV P t x i) (Om P t (vV G x) (vV G i)):=by
 intro c v h hc;unfold nV at h;split at h
 ·split at h
  ·rename_i len e r off hu;simp only [vV,Om,hu];split at h
   ·rename_i z hz;simp only [Option.some.injEq,Prod.mk.injEq] at h;obtain ⟨rfl,rfl⟩:=h;simp only [hz,dN (P:=true) (z:=len) (by simp only [vI]) hc,vV,L1,Mg,Ev]
   ·simp at h
  ·rename_i e mb r off len hu;simp only [vV,Om,hu];split at h
   ·rename_i z hz;simp only [Option.some.injEq,Prod.mk.injEq] at h;obtain ⟨rfl,rfl⟩:=h;simp only [hz,dN (P:=true) (z:=(vN G len:Int)) (Hz _) hc,vV,L1,Mg,Ev]
   ·simp at h
  ·simp at h
 ·simp at h
theorem Lh {x:Option EV} {d:EI} {e:EI} (h:Mw x d=some e):Bj (x.map (vV G)) (vI G d)=some (vI G e):=by
 unfold Mw at h;split at h
 ·simp at h;subst h;rfl
 ·simp at h;subst h;simp only [Option.map_some,vV,Bj]
 ·simp at h
theorem bE {a b c:EI} {z:Int} (hz:vI G c=z) (h:vB G (E6 (H9 .leq (.lit 0) a) (E6 (H9 .leq a b) (H9 .leq b c)))=true):(decide (0≤vI G a)&&(decide (vI G a≤vI G b)&&decide (vI G b≤z)))=true:=by
 obtain ⟨h1,h⟩:=C5 h;obtain ⟨h2,h3⟩:=C5 h;rw [Ah] at h1 h2 h3;rw [hz] at h3;simp only [vI] at h1;rw [Bool.and_eq_true,Bool.and_eq_true];exact ⟨decide_eq_true (of_decide_eq_true h1),decide_eq_true (of_decide_eq_true h2),decide_eq_true (of_decide_eq_true h3)⟩
theorem aA2 {P:Program} {t:TypeId} {x:EV} {lo hi:Option EV}:Wo G (lU P t x lo hi) (Kl P t (vV G x) (lo.map (vV G)) (hi.map (vV G))):=by
 intro c v h hc;unfold lU at h;split at h
 ·rename_i e mb r off len hu;simp only [vV,Kl,hu];split at h
  ·rename_i z l hh hz hl hh';simp only [Option.some.injEq,Prod.mk.injEq] at h;obtain ⟨rfl,rfl⟩:=h;have e1:=Lh (G:=G) hl;have e2:=Lh (G:=G) hh';rw [Hz] at e2;simp only [vI] at e1;simp only [hz,e1,e2,bE (z:=(vN G len:Int)) (Hz _) hc,vV,L1,Mg,Ev,zJ]
  ·simp at h
 ·rename_i e hu;simp only [vV,Kl,hu];split at h
  ·rename_i z l hh hz hl hh';simp only [Option.some.injEq,Prod.mk.injEq] at h;obtain ⟨rfl,rfl⟩:=h;have e1:=Lh (G:=G) hl;have e2:=Lh (G:=G) hh';simp only [vI] at e1 e2;simp only [hz,e1,e2,bE (z:=0) (by simp only [vI]) hc,vV]
  ·simp at h
 ·rename_i s hu;simp only [vV,Kl,hu];split at h
  ·rename_i l hh hl hh';simp only [Option.some.injEq,Prod.mk.injEq] at h;obtain ⟨rfl,rfl⟩:=h;have e1:=Lh (G:=G) hl;have e2:=Lh (G:=G) hh';rw [Hz,Eu] at e2;simp only [vI] at e1;simp only [e1,e2,bE (z:=((vS G s).length:Int)) (by rw [Hz,Eu]) hc,vV,vS,Ev]
  ·simp at h
 ·simp at h
theorem Bn (v:EV):vL G (Cf v)=B8 (vV G v):=by
 unfold Cf B8;cases v<;>simp [vL,vVs,vV]
theorem nK {v:EV} (h:dO v=true):Jq (vV G v)=true:=by
 cases v<;>simp [dO] at h<;>simp [vV,Jq]
theorem isCell_ok (v:EV):isCell (vV G v)=Zb v:=by
 cases v<;>simp [vV,isCell,Zb]
theorem Vk (l:EL):vB G (Qd l)=(vL G l).all isCell:=by
 unfold Qd;split
 ·simp only [vB,vL,S6,List.all_map];congr 1;funext x;simp [isCell_ok]
 ·simp only [vB,cellsB]
 ·simp only [vB,cellsB]
theorem Xg (v:EV):vB G (Nu v)=true→(B8 (vV G v)).all isCell=true:=by
 intro h;unfold Nu at h;split at h
 ·rw [Vk] at h;simpa only [vV,B8] using h
 ·rename_i hn;simp only [vB] at h
  have:B8 (vV G v)=[vV G v]:=by
   cases v<;>simp [vV,B8];exact absurd rfl (hn _)
  rw [this];simp [isCell_ok,h]
theorem Mk {v:EV} {z:Nat} (h:vB G (Si v z)=true):R9 (vV G v)=z:=by
 unfold Si at h;split at h
 ·rw [lK,Ag] at h;simp only [vN] at h;simp only [vV,R9];exact Nat.eq_of_beq_eq_true h
 ·rename_i hn;simp only [vB] at h
  have:=Nat.eq_of_beq_eq_true h
  subst this;cases v<;>simp [vV,R9];exact absurd rfl (hn _)
theorem Zh {place:Nat→Option (Nat×Nat)}:∀ (parts:List (Nat×EV)) (cells:EL) (c:EB) (r:EL),Ux place cells parts=some (c,r)→vB G c=true→
  Ga place (vL G cells) (parts.map fun p=>(p.1,vV G p.2))=some (true,vL G r)
 | [],cells,c,r,h,_=>by
  simp only [Ux,Option.some.injEq,Prod.mk.injEq] at h;obtain ⟨rfl,rfl⟩:=h;simp only [List.map_nil,Ga]
 | (i,v)::rest,cells,c,r,h,hc=>by
  unfold Ux at h;simp only [List.map_cons,Ga];split at h
  ·simp at h
  ·rename_i off size hp;simp only [hp];split at h
   ·simp at h
   ·rename_i c' r' hf;split at h
    ·rename_i hk;simp only [Option.some.injEq,Prod.mk.injEq] at h;obtain ⟨rfl,rfl⟩:=h;obtain ⟨g1,hc⟩:=C5 hc;obtain ⟨g2,g3⟩:=C5 hc
     have:=Zh rest _ _ _ hf g3
     rw [Ox] at this;simp only [vN] at this;rw [R1,Ag] at g2;simp only [vN] at g2;have e1:=Mk g1;have e2:decide (off+size≤(vL G cells).length)=true:=g2;simp only [this,nK hk,e1,e2,beq_self_eq_true,Bool.and_self]
    ·simp at h
theorem Il {P:Program} {t:TypeId} {z:EV} (h:Nm P t=some z):Bk P t=some (vV G z):=by
 unfold Nm at h;unfold Bk;split at h
 ·rename_i i hi;simp only [hi];split at h
  ·rename_i z' hz;simp at h;subst h;simp only [hz,qD]
  ·simp at h
 ·simp at h
theorem aH2 {P:Program} {t:TypeId} {parts:List (Nat×EV)}:Wo G (oX P t parts) (Ov P t (parts.map fun p=>(p.1,vV G p.2))):=by
 intro c v h hc;unfold oX at h;split at h
 ·rename_i fs z hu hz;have hz:=Il (G:=G) hz;simp only [vV] at hz;simp only [Ov,hu,hz];split at h
  ·rename_i ps hps;simp only [hps];split at h
   ·rename_i c' cs hf;simp only [Option.some.injEq,Prod.mk.injEq] at h;obtain ⟨rfl,rfl⟩:=h;simp only [Zh _ _ _ _ hf hc,vV]
   ·simp at h
  ·simp at h
 ·rename_i n e z hu hz;have hz:=Il (G:=G) hz;simp only [vV] at hz;simp only [Ov,hu,hz];split at h
  ·rename_i n hn;simp only [hn];split at h
   ·rename_i c' cs hf;simp only [Option.some.injEq,Prod.mk.injEq] at h;obtain ⟨rfl,rfl⟩:=h;simp only [Zh _ _ _ _ hf hc,vV]
   ·simp at h
  ·simp at h
 ·simp at h
theorem len_wo {P:Program} {t:TypeId} {x:EV}:Wo G (lenD P t x) (Qw P t (vV G x)):=by
 intro c v h hc;unfold lenD at h;split at h
 ·rename_i s hu;simp only [Option.some.injEq,Prod.mk.injEq] at h;obtain ⟨rfl,rfl⟩:=h;simp only [vV,Qw,hu,Hz,Eu]
 ·rename_i n e hu;simp only [Option.some.injEq,Prod.mk.injEq] at h;obtain ⟨rfl,rfl⟩:=h;simp only [Qw,hu,vV,vI]
 ·rename_i e mb r o n hu;simp only [Option.some.injEq,Prod.mk.injEq] at h;obtain ⟨rfl,rfl⟩:=h;simp only [vV,Qw,hu,Hz]
 ·rename_i e hu;simp only [Option.some.injEq,Prod.mk.injEq] at h;obtain ⟨rfl,rfl⟩:=h;simp only [vV,Qw,hu,vI]
 ·simp at h
theorem cap_wo {P:Program} {t:TypeId} {x:EV}:Wo G (capD P t x) (eU P t (vV G x)):=by
 intro c v h hc;unfold capD at h;split at h
 ·rename_i e hu;simp only [Option.some.injEq,Prod.mk.injEq] at h;obtain ⟨rfl,rfl⟩:=h;simp only [vV,eU,hu,vI]
 ·simp at h
theorem max_wo {x y:EV}:Wo G (maxD x y) (dI (vV G x) (vV G y)):=by
 intro c v h hc;unfold maxD at h;split at h
 ·split at h
  ·rename_i hk;subst hk;simp only [Option.some.injEq,Prod.mk.injEq] at h;obtain ⟨rfl,rfl⟩:=h;simp only [vV,dI,if_pos,vI]
  ·simp at h
 ·simp at h
theorem min_wo {x y:EV}:Wo G (minD x y) (dH (vV G x) (vV G y)):=by
 intro c v h hc;unfold minD at h;split at h
 ·split at h
  ·rename_i hk;subst hk;simp only [Option.some.injEq,Prod.mk.injEq] at h;obtain ⟨rfl,rfl⟩:=h;simp only [vV,dH,if_pos,vI]
  ·simp at h
 ·simp at h
theorem aP6 {c a b:EV}:Wo G (tH c a b) (Wp (vV G c) (vV G a) (vV G b)):=by
 intro c' v h hc;unfold tH at h
 split at h<;>first
  | (simp only [Option.some.injEq,Prod.mk.injEq] at h;obtain ⟨rfl,rfl⟩:=h;simp only [vV,vB,Wp];done)
  | (simp at h;done)
theorem pQ {x:EV}:Wo G (Wu x) (Nr (vV G x)):=by
 intro c' v h hc;unfold Wu at h
 split at h<;>first
  | (simp only [Option.some.injEq,Prod.mk.injEq] at h;obtain ⟨rfl,rfl⟩:=h;simp only [vV,Nr];done)
  | (simp at h;done)
theorem xD {v:EV} {w:AV} (h:vV G v=w):Wo G (some (.lit true,v)) (some (true,w)):=Wo.some fun _=>by rw [h]
theorem nC {F:DFr} (l:List Operand):(l.map (ev (vVs G F)))=vVs G (l.map (evD F)):=by
 rw [S6 (List.map (evD F) l),List.map_map];congr 1;funext x;simp [vV_evD]
theorem omap_ev {F:DFr} (x:Option Operand):x.map (ev (vVs G F))=(x.map (evD F)).map (vV G):=by
 cases x<;>simp [vV_evD]
theorem qS {P:Program} {F:DFr} {op:Op}:Wo G (kJ P F op) (G4 P (vVs G F) op):=by
 intro c v h hc;unfold kJ at h;split at h
 ·exact xD (vV_evD F _) _ _ h hc
 ·exact xD (vV_evD F _) _ _ h hc
 ·simp only [G4,←vV_evD];exact aP6 _ _ h hc
 ·simp only [G4,←vV_evD];exact pQ _ _ h hc
 ·simp only [G4,←vV_evD];exact bin_wo _ _ h hc
 ·simp only [G4,←vV_evD];exact un_wo _ _ h hc
 ·simp only [G4,←vV_evD];exact aU0 _ _ h hc
 ·simp only [G4,←vV_evD];exact aF0 _ _ h hc
 ·simp only [G4,←vV_evD];exact aE3 _ _ h hc
 ·simp only [G4,←vV_evD,omap_ev];exact aA2 _ _ h hc
 ·rename_i t parts;simp only [G4]
  have:=aH2 _ _ h hc
  rw [List.map_map] at this;rw [←this];congr 1;refine List.map_congr_left fun p _=>?_;simp [vV_evD]
 ·simp only [G4,←vV_evD];split at h
  ·rename_i vs he;split at h
   ·rename_i v' hv;simp only [Option.some.injEq,Prod.mk.injEq] at h;obtain ⟨rfl,rfl⟩:=h;simp only [he,vV,fK,hv,Option.map_some]
   ·simp at h
  ·simp at h
 ·rename_i f first cap;simp only [G4];split at h
  ·rename_i h0;simp only [Option.some.injEq,Prod.mk.injEq] at h;obtain ⟨rfl,rfl⟩:=h;rw [if_pos h0,nC];simp only [vV]
  ·simp at h
 ·simp only [G4];split at h
  ·rename_i x t h1 h2;simp only [h1,h2,←vV_evD];exact len_wo _ _ h hc
  ·simp at h
 ·simp only [G4];split at h
  ·rename_i x t h1 h2;simp only [h1,h2,←vV_evD];exact cap_wo _ _ h hc
  ·simp at h
 ·simp only [G4];split at h
  ·rename_i x y h1;simp only [h1,←vV_evD];exact max_wo _ _ h hc
  ·simp at h
 ·simp only [G4];split at h
  ·rename_i x y h1;simp only [h1,←vV_evD];exact min_wo _ _ h hc
  ·simp at h
 ·simp at h
end Go.Am
namespace Go.Am
variable {G:Nat→List AV}
noncomputable def C9 (G:Nat→List AV) (b:DBlk):Blk:=⟨b.esz,vL G b.cells⟩
noncomputable def vHp (G:Nat→List AV) (H:DHp):Hp:=H.map (Option.map (C9 G))
noncomputable def G2 (G:Nat→List AV):DHop→Hop
 | .set i b=>.set i (C9 G b)
 | .new b=>.new (C9 G b)
 | .app j b=>.app j (C9 G b)
theorem C0 (H:DHp):(vHp G H).length=H.length:=by simp [vHp]
theorem aL9 (H:DHp) (i:Nat):(vHp G H)[i]?=(H[i]?).map (Option.map (C9 G)):=by simp [vHp]
theorem M0 {H:DHp} {i:Nat} {b:DBlk} (h:H[i]?=some (some b)):(vHp G H)[i]?=some (some (C9 G b)):=by rw [aL9,h];rfl
theorem aT (H:DHp) (h:DHop):vHp G (h.act H)=(G2 G h).act (vHp G H):=by
 cases h<;>simp [DHop.act,Hop.act,G2,vHp,List.map_set]
theorem In:∀ (hs:List DHop) (H:DHp),vHp G (Lz H hs)=acts (vHp G H) (hs.map (G2 G))
 | [],H=>rfl
 | h::hs,H=>by simp only [Lz,List.map_cons,acts,In hs,aT]
open Classical in
theorem wJ {l ls:List AV}:rowsA l ls=true↔∀ v∈ls,v=.agg l:=by unfold rowsA;exact decide_eq_true_iff
theorem dY (z:Nat):∀ (c j:Nat) (H:DHp) (ls:List EV),Ec z j H c=some ls→ls.length=c∧∀ i,i<c→∃ l,H[i]?=some (some ⟨z,.row l (.lit (j+i))⟩)∧ls[i]?=some (.agg l)
 | 0,j,H,ls,h=>by
  have:Ec z j H 0=some []:=by unfold Ec;rfl
  rw [this] at h;simp only [Option.some.injEq] at h;subst h;exact ⟨rfl,fun i hi=>by omega⟩
 | c+1,j,[],ls,h=>by simp [Ec] at h
 | c+1,j,none::H,ls,h=>by simp [Ec] at h
 | c+1,j,some ⟨z',l0⟩::H,ls,h=>by
  cases l0 with
  | row l k=>cases k with
   | lit i0=>
    simp only [Ec] at h;split at h
    ·rename_i hb;split at h
     ·rename_i ls' h1;simp only [Option.some.injEq] at h;subst h;rw [Bool.and_eq_true] at hb;have e1:=Nat.eq_of_beq_eq_true hb.1;have e2:=Nat.eq_of_beq_eq_true hb.2;subst e1;subst e2;obtain ⟨g1,g2⟩:=dY z c (i0+1) H ls' h1;refine ⟨by simp [g1],fun i hi=>?_⟩;cases i with
      | zero=>exact ⟨l,by simp,by simp⟩
      | succ i=>
       obtain ⟨l2,q1,q2⟩:=g2 i (by omega);exact ⟨l2,by rw [show i0+(i+1)=i0+1+i by omega];simpa using q1,by simpa using q2⟩
     ·simp at h
    ·simp at h
   | _=>simp [Ec] at h
  | _=>simp [Ec] at h
theorem bM {H:DHp} {b c z:Nat} {l:EL} {ls:List EV} (h:Gu H b c=some (z,l,ls)):Nat.beq z 4294967291=false∧ls.length=c∧∀ i,i<c→∃ l',H[b+i]?=some (some ⟨z,.row l' (.lit i)⟩)∧ls[i]?=some (.agg l'):=by
 unfold Gu at h;split at h
 ·split at h
  ·simp at h
  ·rename_i hz;split at h
   ·rename_i ls' h1;simp only [Option.some.injEq,Prod.mk.injEq] at h;obtain ⟨rfl,rfl,rfl⟩:=h;obtain ⟨g1,g2⟩:=dY _ _ _ _ _ h1;refine ⟨hz,g1,fun i hi=>?_⟩;obtain ⟨l',q1,q2⟩:=g2 i hi;rw [List.getElem?_drop] at q1;exact ⟨l',by simpa using q1,q2⟩
   ·simp at h
 ·simp at h
theorem vVs_get? {ls:List EV} {i:Nat} {x:EV} (h:ls[i]?=some x):(vVs G ls)[i]?=some (vV G x):=by rw [S6,List.getElem?_map,h];rfl
theorem Mu {H:DHp} {b c z:Nat} {l:EL} {ls:List EV} (h:Gu H b c=some (z,l,ls)) (hr:rowsA (vL G l) (vVs G ls)=true) {i:Nat} (hi:i<c):(vHp G H)[b+i]?=some (some ⟨z,A1 (vL G l) i⟩):=by
 obtain ⟨_,g1,g2⟩:=bM h;obtain ⟨l',q1,q2⟩:=g2 i hi;have e:=wJ.1 hr _ (List.mem_of_getElem? (vVs_get? (G:=G) q2));simp only [vV,AV.agg.injEq] at e;rw [M0 q1];simp only [C9,vL,vN,e]
theorem Ny {C:A3} (hG:C.G=G) {H:DHp} {r:ER} {c0:EB} {l:EL} (h:Lg H r=some (c0,l)) (hc:vB G c0=true):J5 C (vHp G H) (vR G r)=some (vL G l):=by
 unfold Lg at h;split at h
 ·split at h
  ·rename_i b hb;split at h
   ·simp at h
   rename_i hr;simp only [Option.some.injEq,Prod.mk.injEq] at h;obtain ⟨rfl,rfl⟩:=h;have hr:isRec (C9 G b)=false:=hr;simp only [vR,J5,M0 hb,hr];simp only [C9]
  ·simp at h
 ·simp only [Option.some.injEq,Prod.mk.injEq] at h;obtain ⟨rfl,rfl⟩:=h;simp only [vR,J5,vL,hG]
 ·rename_i b c k;split at h
  ·rename_i z l' ls hf;simp only [Option.some.injEq,Prod.mk.injEq] at h;obtain ⟨rfl,rfl⟩:=h;obtain ⟨g1,g2⟩:=C5 hc;rw [R1,L1] at g1;simp only [vN] at g1;have g1:=A6.1 g1;simp only [vB] at g2;have hr:isRec ⟨z,A1 (vL G l') (vN G k)⟩=false:=(bM hf).1;simp only [vR,J5,Mu hf g2 (show vN G k<c by omega),hr,vL]
  ·simp at h
theorem aG2 (l:Lf) (cs:EL) (off:EN):vV G (tU l cs off)=Qx l (vL G cs) (vN G off):=by
 cases l<;>simp only [tU,Qx,vV,vI,vB,vS,vR,vN]
theorem Xm (cs:EL):∀ (ls:List Lf) (off:EN),vVs G (Pq cs off ls)=Cs (vL G cs) (vN G off) ls
 | [],off=>by simp only [Pq,Cs,vVs]
 | l::ls,off=>by
  simp only [Pq,Cs,vVs,aG2,Xm cs ls,L1,vN]
theorem aC0 {P:Program} {t:TypeId} {cs:EL} {off:EN}:Wo G (mO P t cs off) (kK P t (vL G cs) (vN G off)):=by
 intro c v h hc;unfold mO at h;unfold kK;split at h
 ·rename_i k hu;simp only [hu];simp only [Option.some.injEq,Prod.mk.injEq] at h;obtain ⟨rfl,rfl⟩:=h;simp only [vB] at hc;simp only [hc,vV,vI]
 ·rename_i hu;simp only [hu];simp only [Option.some.injEq,Prod.mk.injEq] at h;obtain ⟨rfl,rfl⟩:=h;simp only [vB] at hc;simp only [hc,vV,vB]
 ·rename_i hu;simp only [hu];simp only [Option.some.injEq,Prod.mk.injEq] at h;obtain ⟨rfl,rfl⟩:=h;simp only [vB] at hc;simp only [hc,vV,vS]
 ·rename_i e hu;simp only [hu];simp only [Option.some.injEq,Prod.mk.injEq] at h;obtain ⟨rfl,rfl⟩:=h;simp only [vB] at hc;simp only [hc,vV,vR,vN]
 ·rename_i fs hu;simp only [hu];split at h
  ·rename_i z ls hz hl;simp only [hz,hl];split at h
   ·rename_i hb;simp only [Option.some.injEq,Prod.mk.injEq] at h;obtain ⟨rfl,rfl⟩:=h;simp only [vB] at hc;simp only [hb,hc,vV,vL,Xm,Bool.and_self]
   ·simp at h
  ·simp at h
 ·rename_i n e hu;simp only [hu];split at h
  ·rename_i z ls hz hl;simp only [hz,hl];split at h
   ·rename_i hb;simp only [Option.some.injEq,Prod.mk.injEq] at h;obtain ⟨rfl,rfl⟩:=h;simp only [vB] at hc;simp only [hb,hc,vV,vL,Xm,Bool.and_self]
   ·simp at h
  ·simp at h
 ·simp at h
theorem rD {C:A3} (hG:C.G=G) {H:DHp} {t:TypeId} {r:ER} {off:EN}:Wo G (kO C.P H t r off) (Nt C (vHp G H) t (vR G r) (vN G off)):=by
 intro c v h hc;unfold kO at h;unfold Nt;split at h
 ·rename_i c0 cs hcs;split at h
  ·rename_i c1 v1 hp;simp only [Option.some.injEq,Prod.mk.injEq] at h;obtain ⟨rfl,rfl⟩:=h;obtain ⟨g1,g2⟩:=C5 hc;rw [Ny hG hcs g1];unfold wV at hp;split at hp
   ·simp only [vR,Qo];exact Is _ _ hp g2
   ·simp only [vR,Qo];exact aC0 _ _ hp g2
   ·simp only [vR,Qo];exact Is _ _ hp g2
  ·simp at h
 ·simp at h
theorem xW {b c o:Nat} {cs:List AV} (h:isFA b c cs o=true):cs[o]?=some (.slice true (.rw (b+A4 b cs o)) (K4 cs o) (fnA cs o))∧A4 b cs o<c:=by
 unfold isFA at h;split at h
 ·rename_i i f n he;rw [Bool.and_eq_true] at h;have h1:=Nat.le_of_ble_eq_true h.1;have h2:i<b+c:=Nat.blt_eq ▸ h.2;have e1:A4 b cs o=i - b:=by unfold A4;rw [he]
  have e2:K4 cs o=f:=by unfold K4;rw [he]
  have e3:fnA cs o=n:=by unfold fnA;rw [he]
  rw [e1,e2,e3,he,show b+(i - b)=i by omega];exact ⟨rfl,by omega⟩
 ·simp at h
theorem xV {b c o:Nat} {cs:List AV} (h:J4 b c cs o=true):cs[o]?=some (.ptr (.rw (b+A4 b cs o)) (K4 cs o))∧A4 b cs o<c:=by
 unfold J4 at h;split at h
 ·rename_i i f he;rw [Bool.and_eq_true] at h;have h1:=Nat.le_of_ble_eq_true h.1;have h2:i<b+c:=Nat.blt_eq ▸ h.2;have e1:A4 b cs o=i - b:=by unfold A4;rw [he]
  have e2:K4 cs o=f:=by unfold K4;rw [he]
  rw [e1,e2,he,show b+(i - b)=i by omega];exact ⟨rfl,by omega⟩
 ·simp at h
theorem xU {cs:List AV} {o:Nat} (h:tX cs o=true):cs[o]?=some (.slice true (.ro (mF cs o)) (mD cs o) (mE cs o)):=by
 unfold tX at h;split at h
 ·rename_i k f n he;unfold mF mD mE;rw [he]
 ·simp at h
theorem pU {o:Nat} {cs:List AV} (h:B4 cs o=true):cs[o]?=some .nilp:=by
 unfold B4 at h;split at h
 ·assumption
 ·simp at h
theorem oK {l:EL} {o:EN} {f:FL} (h:vB G (Zi l o f)=true):(vL G l)[vN G o]?=some (vV G (Zj l o f)):=by
 cases f with
 | int k=>
  simp only [Zi,vB] at h;simp only [Zj,vV,vI];exact Pu h
 | bool=>
  simp only [Zi,vB] at h;simp only [Zj,vV,vB];unfold isB at h;unfold A5;split at h
  ·rename_i b he;rw [he]
  ·simp at h
 | sl b c=>
  cases c with
  | zero=>
   have h:tX (vL G l) ((vN G o:Nat):Int).toNat=true:=h;rw [Int.toNat_natCast] at h;exact xU h
  | succ c=>
   simp only [Zi,vB] at h;simp only [Zj,vV,vR,vN];exact (xW h).1
theorem rR:∀ (fs:List FL) {l:EL} {o:EN},vB G (kU l o fs)=true→vVs G (dZ l o fs)=((vL G l).drop (vN G o)).take fs.length∧vN G o+fs.length≤max (vN G o) (vL G l).length
 | [],l,o,_=>by simp [dZ,vVs];omega
 | f::fs,l,o,h=>by
  simp only [kU] at h;obtain ⟨h1,h2⟩:=C5 h;have e1:=oK h1;obtain ⟨e2,e3⟩:=rR fs h2;rw [L1] at e2 e3;simp only [vN] at e2 e3;have hlt:vN G o<(vL G l).length:=(List.getElem?_eq_some_iff.1 e1).1;refine ⟨?_,by simp only [List.length_cons];omega⟩;simp only [dZ,vVs,e2];rw [List.drop_eq_getElem_cons hlt,List.length_cons,List.take_succ_cons];rw [List.getElem?_eq_getElem hlt] at e1;simp only [Option.some.injEq] at e1;rw [e1]
def WoF (G:Nat→List AV) (x:FamR) (p:Option (Bool×AV)):Prop:=
 match x with
 | .val c v=>vB G c=true→p=some (true,vV G v)
 | .ptr n c v=>(vB G n=true→p=some (true,.nilp))∧(vB G c=true→p=some (true,vV G v))
theorem gM {fam:TypeId→Option (Nat×Nat)} {P:Program} {t:TypeId} {cs:EL} {off:EN} {x:FamR} (h:oJ fam P t cs off=some x):WoF G x (Y9 P t (vL G cs) (vN G off)):=by
 unfold oJ at h;split at h
 ·simp at h
 ·rename_i b c hf;split at h
  ·rename_i fs hu;split at h
   ·simp at h
   ·split at h
    ·rename_i z ls hz hl;split at h
     ·rename_i hb;rw [Bool.and_eq_true] at hb;have hz1:=Nat.le_of_ble_eq_true hb.2;have hb:=Nat.eq_of_beq_eq_true hb.1;simp only [Option.some.injEq] at h;subst h;intro hc;obtain ⟨e1,e2⟩:=rR ls hc;have hle:vN G off+z≤(vL G cs).length:=by omega
      unfold Y9;simp only [hu,hz,vV,vL,e1,hb];rw [decide_eq_true hle]
     ·simp at h
    ·simp at h
  ·rename_i e hu;split at h
   ·simp at h
   ·simp only [Option.some.injEq] at h;subst h;intro hc
    have:=oK hc
    unfold Y9;simp only [hu,this]
  ·rename_i e hu;split at h
   ·simp at h
   ·simp only [Option.some.injEq] at h;subst h;refine ⟨fun hc=>?_,fun hc=>?_⟩
    ·simp only [vB] at hc;unfold Y9;simp only [hu,pU hc]
    ·simp only [vB] at hc;unfold Y9;simp only [hu,(xV hc).1,vV,vR,vN]
  ·simp at h
theorem qL {C:A3} (hG:C.G=G) {F:DFr} {H:DHp} {op:Op}:Wo G (kI C.P F H op) (O2 C (vVs G F) (vHp G H) op):=by
 intro c v h hc;unfold kI at h;split at h
 ·simp only [O2,←vV_evD];split at h
  ·rename_i r off he;simp only [he,vV];exact rD hG _ _ h hc
  ·simp at h
 ·simp only [O2,←vV_evD];split at h
  ·rename_i fs cs hu he;simp only [hu,he,vV];split at h
   ·rename_i fd hf;simp only [hf]
    have:=Is _ _ h hc
    simpa only [vN] using this
   ·simp at h
  ·simp at h
 ·simp only [O2,←vV_evD];split at h
  ·rename_i len e cs k i hu he hi;simp only [hu,he,hi,vV];split at h
   ·rename_i z hz;simp only [hz];split at h
    ·rename_i c' v' hp;simp only [Option.some.injEq,Prod.mk.injEq] at h;obtain ⟨rfl,rfl⟩:=h;obtain ⟨g1,hc⟩:=C5 hc;obtain ⟨g2,g3⟩:=C5 hc
     have:=Is _ _ hp g3
     rw [Mg,Ev] at this;rw [Ah] at g1 g2;have g1:decide (0≤vI G i)=true:=decide_eq_true (by have:=of_decide_eq_true g1;simpa only [vI] using this);have g2:decide (vI G i<len)=true:=decide_eq_true (by have:=of_decide_eq_true g2;simpa only [vI] using this);simp only [this,g1,g2,Bool.and_self]
    ·simp at h
   ·simp at h
  ·simp at h
 ·simp only [O2,←vV_evD];split at h
  ·rename_i h1 he;simp only [Option.some.injEq,Prod.mk.injEq] at h;obtain ⟨rfl,rfl⟩:=h;simp only [h1,he,vV,vS]
  ·rename_i mb r off n h1 he;simp only [h1,he,vV];split at h
   ·rename_i c0 cs hcs;simp only [vU,Option.some.injEq,Prod.mk.injEq] at h;obtain ⟨rfl,rfl⟩:=h;obtain ⟨g0,hc⟩:=C5 hc;rw [Ny hG hcs g0];obtain ⟨g1,g2⟩:=C5 hc;rw [R1,L1,Ag] at g1;simp only [vB,Ew,u8s] at g2;have g1:decide (vN G off+vN G n≤(vL G cs).length)=true:=g1;simp only [sJ,g1,g2,Bool.and_self,vV,vS,Ew,strL]
   ·simp at h
  ·simp at h
 ·simp at h
theorem Zn {C:A3} (hG:C.G=G) {H:DHp} {z:Nat} {x:EV} {c:EB} {m:EN} {xs:EL} (h:zY H z x=some (c,m,xs)) (hc:vB G c=true) :
  aX C (vHp G H) z (vV G x)=some (true,vN G m,vL G xs):=by
 unfold zY at h;split at h
 ·simp only [Option.some.injEq,Prod.mk.injEq] at h;obtain ⟨rfl,rfl,rfl⟩:=h;simp only [vV,aX,vN,vL,vVs]
 ·rename_i mb r off m';split at h
  ·rename_i c0 cs hcs;simp only [Option.some.injEq,Prod.mk.injEq] at h;obtain ⟨rfl,rfl,rfl⟩:=h;obtain ⟨g0,hc⟩:=C5 hc;obtain ⟨g1,g2⟩:=C5 hc;rw [R1,L1,Y2,Ag] at g1;rw [Vk,Ew,Y2] at g2;simp only [vV,aX,Ny hG hcs g0];have g1:decide (vN G off+vN G m'*z≤(vL G cs).length)=true:=g1;simp only [g1,g2,Bool.and_self,Ew,Y2]
  ·simp at h
 ·rename_i s;split at h
  ·rename_i hz;have hz:=Nat.eq_of_beq_eq_true hz;subst hz;simp only [Option.some.injEq,Prod.mk.injEq] at h;obtain ⟨rfl,rfl,rfl⟩:=h;simp only [vV,aX,Eu,cC,decide_true]
  ·simp at h
 ·simp at h
theorem Uh {v:EV} {n:Nat} (h:Ui (some v) n=true):(B8 (vV G v)).length=n:=by
 unfold Ui at h;simp only at h;rw [←Bn];split at h
 ·rename_i cs he;rw [he];simp only [vL,Bm];exact Nat.eq_of_beq_eq_true h
 ·simp at h
def Ww (G:Nat→List AV) (o:Option (EB×EV×DHop)) (p:Option (Bool×AV×Hop)):Prop:=∀ c v h,o=some (c,v,h)→vB G c=true→p=some (true,vV G v,G2 G h)
theorem jP {C:A3} (hG:C.G=G) {H:DHp} {t:TypeId} {s x:EV}:Ww G (Zt C.P H t s x) (Li C (vHp G H) t (vV G s) (vV G x)):=by
 intro c v hp h hc;unfold Zt at h;unfold Li;split at h
 rotate_left
 ·simp at h
 rename_i e hu;simp only [hu];split at h
 rotate_left
 ·simp at h
 rename_i i zv hi hz;have hz:=Il (G:=G) hz;simp only [hi,hz];split at h
 ·simp at h
 rename_i hb;obtain ⟨hok,hb⟩:=T0 hb;obtain ⟨hb1,hb2⟩:=T0 hb;have hlen:((B8 (vV G zv)).length==i.size)=true:=by rw [Uh hb2];simp
 have hby:decide (1≤i.bytes)=true:=decide_eq_true (Nat.le_of_ble_eq_true hb1);split at h
 rotate_left
 ·simp at h
 rename_i c' m xs hs;split at h
 ·simp only [Option.some.injEq,Prod.mk.injEq] at h;obtain ⟨rfl,rfl,rfl⟩:=h;obtain ⟨g1,g2⟩:=C5 hc;have e1:=Zn hG hs g1;rw [R1,Y2] at g2;simp only [vN] at g2;have g2:decide (vN G m*i.bytes≤140737488355328)=true:=g2;simp only [e1,vV,g2,hby,hlen,hok,Bool.and_self,X8,vR,vN,here,C0,G2,C9]
 ·rename_i mb j;split at h
  ·rename_i b hj;split at h
   ·rename_i hez;have hez:=Nat.eq_of_beq_eq_true hez;simp only [Option.some.injEq,Prod.mk.injEq] at h;obtain ⟨rfl,rfl,rfl⟩:=h;obtain ⟨g1,g2⟩:=C5 hc;have e1:=Zn hG hs g1;rw [R1,Y2] at g2;simp only [vN] at g2;have g2:decide (vN G m*i.bytes≤140737488355328)=true:=g2;have hr:∀ l,isRec ⟨i.size,l⟩=false:=fun l=>Ku hok;have g4:decide (0*i.size≤(vL G b.cells).length)=true:=decide_eq_true (by omega)
    simp only [hr,Bool.not_false,e1,vV,vR,vN,M0 hj,C9,g2,hby,hlen,hez,beq_self_eq_true,Bool.and_self,X8,here,C0,G2,Nat.zero_add,Nat.zero_mul,List.take_zero,List.nil_append,Nat.zero_le,decide_true]
   ·simp at h
  ·simp at h
 ·rename_i mb j n;split at h
  ·rename_i b hj;split at h
   ·rename_i hez;have hez:=Nat.eq_of_beq_eq_true hez;simp only [Option.some.injEq,Prod.mk.injEq] at h;obtain ⟨rfl,rfl,rfl⟩:=h;obtain ⟨g1,hc⟩:=C5 hc;obtain ⟨g2,g3⟩:=C5 hc;have e1:=Zn hG hs g1;rw [R1,Y2,L1] at g2;simp only [vN] at g2;rw [R1,Ag,Y2] at g3;have g2:decide ((vN G n+vN G m)*i.bytes≤140737488355328)=true:=g2;have hr:∀ l,isRec ⟨i.size,l⟩=false:=fun l=>Ku hok;have g4:decide (vN G n*i.size≤(vL G b.cells).length)=true:=g3
    simp only [hr,Bool.not_false,e1,vV,vR,vN,Nat.mul_one,M0 hj,C9,g2,hby,hlen,hez,g4,beq_self_eq_true,Bool.and_self,X8,here,C0,G2,hZ,Ew,L1,Y2,subL,List.drop_zero]
   ·simp at h
  ·simp at h
 ·rename_i mb j n _ _;split at h
  ·rename_i b hj;split at h
   ·rename_i hez;have hez:=Nat.eq_of_beq_eq_true hez;simp only [Option.some.injEq,Prod.mk.injEq] at h;obtain ⟨rfl,rfl,rfl⟩:=h;obtain ⟨g1,hc⟩:=C5 hc;obtain ⟨g2,g3⟩:=C5 hc;have e1:=Zn hG hs g1;rw [R1,Y2,L1] at g2;simp only [vN] at g2;rw [lK,Ag,Y2] at g3;have g3:=Nat.eq_of_beq_eq_true g3;have g2:decide ((vN G n+vN G m)*i.bytes≤140737488355328)=true:=g2;have hr:∀ l,isRec ⟨i.size,l⟩=false:=fun l=>Ku hok;have g4:decide (vN G n*i.size≤(vL G b.cells).length)=true:=decide_eq_true (by omega)
    have g5:(vL G b.cells).take (vN G n*i.size)=vL G b.cells:=List.take_of_length_le (by omega);simp only [hr,Bool.not_false,e1,vV,vR,vN,M0 hj,C9,g2,hby,hlen,hez,g4,g5,beq_self_eq_true,Bool.and_self,X8,here,C0,G2,hZ,L1]
   ·simp at h
  ·simp at h
 ·simp at h
theorem cB {l:EL} {o:EN} {v:EV} {z:Nat} (hz:R9 (vV G v)=z):vL G (Yw l o v z)=setPart (vL G l) (vN G o) (vV G v):=by
 unfold Yw;split
 ·rename_i d;split
  ·rename_i cs _;split
   ·rename_i hb;have hb:=Nat.eq_of_beq_eq_true hb;simp only [vV,R9] at hz;simp only [vV,setPart,Hk,vL,vN,List.take_zero,List.nil_append,Nat.zero_add];rw [List.drop_of_length_le (by rw [Bm];omega),List.append_nil]
   ·exact Ox _ _ _
  ·exact Ox _ _ _
 ·exact Ox _ _ _
theorem uR {C:A3} {H:DHp} {t:TypeId} {s x:EV}:Ww G (Qc C.P H t s x) (Tf C (vHp G H) t (vV G s) (vV G x)):=by
 intro c v hp h hc;unfold Qc at h;unfold Tf;split at h
 rotate_left
 ·simp at h
 rename_i e n hu;simp only [hu,vV];split at h
 rotate_left
 ·simp at h
 rename_i i zv hi hz;simp only [hi,Il (G:=G) hz];split at h
 rotate_left
 ·simp at h
 rename_i hb;obtain ⟨hok,hb⟩:=T0 hb;obtain ⟨hb0,hb⟩:=T0 hb;obtain ⟨hb1,hb2⟩:=T0 hb;simp only [Option.some.injEq,Prod.mk.injEq] at h;obtain ⟨rfl,rfl,rfl⟩:=h;obtain ⟨g1,g3⟩:=C5 hc;rw [Ah] at g1 g3
 have ebig:vI G (Qc.mkBigD n i.bytes)=vI G n*i.bytes:=by
  unfold Qc.mkBigD
  split<;>simp [vI,vVs,vV,uP]
 rw [ebig] at g3;simp only [vI] at g1 g3;have g1:decide (0≤vI G n)=true:=decide_eq_true (of_decide_eq_true g1);have g3:decide (vI G n*i.bytes≤140737488355328)=true:=decide_eq_true (of_decide_eq_true g3);have g0:decide (1≤i.bytes)=true:=decide_eq_true (Nat.le_of_ble_eq_true hb0);have g5:decide ((B8 (vV G zv)).length=i.size)=true:=decide_eq_true (Uh hb1);have g6:decide (1≤i.size)=true:=decide_eq_true (Nat.le_of_ble_eq_true hb2);simp only [hok,g0,g1,g3,g5,g6,Bool.and_self,vV,X8,vR,vN,here,C0,G2,C9,aS,Bn,Ev]
theorem aG6 {C:A3} {H:DHp} {t:TypeId} {x:EV}:Ww G (oV C.P H t x) (Xn C (vHp G H) t (vV G x)):=by
 intro c v hp h hc;unfold oV at h;unfold Xn;split at h
 rotate_left
 ·simp at h
 rename_i e mb j off n hu;simp only [hu,vV,vR];split at h
 rotate_left
 ·simp at h
 rename_i z zv b hz hzv hj;split at h
 ·simp at h
 rename_i hr;rw [Bool.or_eq_false_iff] at hr;obtain ⟨hr,hb⟩:=hr;have hr:isRec (C9 G b)=false:=hr;have hb:(Ui (some zv) z&&Nat.ble 1 z)=true:=by simpa using hb
 obtain ⟨hb1,hb2⟩:=T0 hb;simp only [hz,Il (G:=G) hzv,M0 hj,hr,Bool.not_false,Bool.true_and];simp only [Option.some.injEq,Prod.mk.injEq] at h;obtain ⟨rfl,rfl,rfl⟩:=h;obtain ⟨g1,hc⟩:=C5 hc;obtain ⟨g2,g3⟩:=C5 hc;rw [R1] at g1 g3;rw [Vk,Bn] at g2;rw [L1,Y2,Ag] at g3;simp only [vN] at g1;have g1:decide (1≤vN G n)=true:=g1;have g3:decide (vN G off+vN G n*z≤(vL G b.cells).length)=true:=g3;have g5:decide ((B8 (vV G zv)).length=z)=true:=decide_eq_true (Uh hb1)
 have g6:decide (1≤z)=true:=decide_eq_true (Nat.le_of_ble_eq_true hb2);simp only [g1,g2,g5,g6,C9,vV,vVs,G2,Ox,setPart,aS,Bn];have g7:=of_decide_eq_true g3;simp only [g7,decide_true,Bool.and_self]
theorem lE {C:A3} (hG:C.G=G) {F:DFr} {H:DHp} {op:Op}:Ww G (Ry C.P F H op) (J9 C (vVs G F) (vHp G H) op):=by
 intro c v hp h hc;unfold Ry at h;split at h
 ·-- store
  simp only [J9,←vV_evD];split at h
  ·rename_i i off z he hz;simp only [he,hz,vV,vR];split at h
   ·rename_i b hb;split at h
    ·simp at h
    rename_i hr;have hr:∀ l,isRec ⟨b.esz,l⟩=false:=fun _=>hr;simp only [Option.some.injEq,Prod.mk.injEq] at h;obtain ⟨rfl,rfl,rfl⟩:=h;obtain ⟨g1,hc⟩:=C5 hc;obtain ⟨g2,g3⟩:=C5 hc;rw [R1,L1,Ag] at g3;simp only [vN] at g3;have g3:decide (vN G off+z≤(vL G b.cells).length)=true:=g3;simp only [hr,Bool.not_false,M0 hb,C9,Xg _ g1,Mk g2,g3,beq_self_eq_true,Bool.and_self,vV,vVs,G2,cB (Mk g2)]
   ·simp at h
  ·simp at h
 ·-- alloc
  simp only [J9];split at h
  ·rename_i z hz;simp only [Il (G:=G) hz];simp only [Option.some.injEq,Prod.mk.injEq] at h;obtain ⟨rfl,rfl,rfl⟩:=h;simp only [vV,X8,vR,vN,here,C0,G2,C9,Bn]
  ·simp at h
 ·-- box
  simp only [J9,←vV_evD];split at h
  ·rename_i hk;simp only [Option.some.injEq,Prod.mk.injEq] at h;obtain ⟨rfl,rfl,rfl⟩:=h;simp only [nK hk,vV,X8,vR,vN,here,C0,G2,C9,Bn]
  ·simp at h
 ·-- buildSlice
  rename_i t n parts;simp only [J9];split at h
  rotate_left
  ·simp at h
  rename_i e hu;simp only [hu];split at h
  rotate_left
  ·simp at h
  rename_i z zv hz hzv;simp only [hz,Il (G:=G) hzv];split at h
  rotate_left
  ·simp at h
  rename_i cs hcs;split at h
  rotate_left
  ·simp at h
  rename_i hb;obtain ⟨hok,hb⟩:=T0 hb;obtain ⟨hb1,hb2⟩:=T0 hb;have e0:B8 (vV G zv)=vVs G cs:=by rw [←Bn,hcs];simp only [vL]
  have e1:(vVs G cs).length=z:=by rw [Bm];exact Nat.eq_of_beq_eq_true hb2
  split at h
  ·rename_i c' cs' hf;simp only [Option.some.injEq,Prod.mk.injEq] at h;obtain ⟨rfl,rfl,rfl⟩:=h
   have:=Zh _ _ _ _ hf hc
   have e2:vL G (.of (List.replicate n cs).flatten)=(List.replicate n (B8 (vV G zv))).flatten:=by
    simp only [vL,e0,S6,List.map_flatten,List.map_replicate]
   rw [e2,List.map_map] at this
   have e3:(List.map ((fun p:Nat×EV=>(p.1,vV G p.2)) ∘ fun p:Nat×Operand=>(p.1,evD F p.2)) parts.toList)=List.map (fun p=>(p.1,ev (vVs G F) p.2)) parts.toList:=by
    refine List.map_congr_left fun p _=>?_;simp [vV_evD]
   rw [e3] at this;have hb1:decide (n*z≤16777216)=true:=decide_eq_true (Nat.le_of_ble_eq_true hb1);rw [e0] at this;simp only [hok,e0,this,e1,hb1,decide_true,Bool.and_self,vV,X8,vR,vN,here,C0,G2,C9]
  ·simp at h
 ·-- makeSlice
  simp only [J9,←vV_evD];split at h
  rotate_left
  ·simp at h
  rename_i e k l k' c' hu hl hc';simp only [hu,hl,hc',vV];split at h
  rotate_left
  ·simp at h
  rename_i i zv hi hz;simp only [hi,Il (G:=G) hz];split at h
  rotate_left
  ·simp at h
  rename_i hb;obtain ⟨hok,hb⟩:=T0 hb;obtain ⟨hb1,hb2⟩:=T0 hb;simp only [Option.some.injEq,Prod.mk.injEq] at h;obtain ⟨rfl,rfl,rfl⟩:=h;obtain ⟨g1,hc⟩:=C5 hc;obtain ⟨g2,hc⟩:=C5 hc;obtain ⟨g3,g4⟩:=C5 hc;rw [Ah] at g1 g2 g3 g4
  have ebig:vI G (Ry.mkBig c' i.bytes)=vI G c'*i.bytes:=by
   unfold Ry.mkBig
   split<;>simp [vI,vVs,vV,uP]
  rw [ebig] at g3;simp only [vI] at g1 g3 g4;have g1:decide (0≤vI G l)=true:=decide_eq_true (of_decide_eq_true g1);have g2:decide (vI G l≤vI G c')=true:=decide_eq_true (of_decide_eq_true g2);have g3:decide (vI G c'*i.bytes≤140737488355328)=true:=decide_eq_true (of_decide_eq_true g3);have g4:decide (vI G c'≤140737488355328)=true:=decide_eq_true (of_decide_eq_true g4);have g5:decide ((B8 (vV G zv)).length=i.size)=true:=decide_eq_true (Uh hb1);have g6:decide (1≤i.size)=true:=decide_eq_true (Nat.le_of_ble_eq_true hb2)
  simp only [hok,g1,g2,g3,g4,g5,g6,Bool.and_self,vV,X8,vR,vN,here,C0,G2,C9,aS,Bn,Ev]
 ·-- convert
  simp only [J9,←vV_evD];split at h
  ·rename_i s h1 he;simp only [h1,he,vV];simp only [Option.some.injEq,Prod.mk.injEq] at h;obtain ⟨rfl,rfl,rfl⟩:=h;rw [R1,Eu] at hc;simp only [vN] at hc;have hc:decide ((vS G s).length≤140737488355328)=true:=hc;simp only [hc,vV,X8,vR,vN,here,C0,G2,C9,Eu,cC]
  ·rename_i mb i off n h1 he;simp only [h1,he,vV,vR];split at h
   ·rename_i h2;simp only [h2];split at h
    ·rename_i b hb;split at h
     ·simp at h
     rename_i hr;have hr:isRec (C9 G b)=false:=hr;simp only [M0 hb,hr,Bool.not_false,Bool.true_and];simp only [Option.some.injEq,Prod.mk.injEq] at h;obtain ⟨rfl,rfl,rfl⟩:=h;rw [R1] at hc;simp only [vN] at hc;have hc:Nat.ble 1 (vN G n)=true:=Nat.ble_eq_true_of_le (A6.1 hc);simp only [hc,vV,vR,G2]
    ·simp at h
   ·simp at h
  ·simp at h
 ·-- append
  simp only [J9];split at h
  rotate_left
  ·simp at h
  rename_i s x t u h1 h2;simp only [h1,h2,←vV_evD];split at h
  ·rename_i e hu;simp only [hu];exact jP hG _ _ _ h hc
  ·rename_i hu;simp only [hu];exact jP hG _ _ _ h hc
  ·rename_i k hu;simp only [hu];exact uR _ _ _ h hc
  ·simp at h
 ·-- clear
  simp only [J9];split at h
  rotate_left
  ·simp at h
  rename_i x t h1 h2;simp only [h1,h2,←vV_evD];exact aG6 _ _ _ h hc
 ·simp at h
theorem yC {C:A3} (hG:C.G=G) {fam:TypeId→Option (Nat×Nat)} {F:DFr} {H:DHp} {op:Op} {c0:EB} {x:FamR} (h:oL fam C.P F H op=some (c0,x)) (h0:vB G c0=true):WoF G x (O2 C (vVs G F) (vHp G H) op):=by
 unfold oL at h;split at h
 ·rename_i t a;simp only [O2,←vV_evD];split at h
  ·rename_i r off he;simp only [he,vV];split at h
   ·simp at h
   ·rename_i hr;split at h
    ·rename_i c1 cs hcs;split at h
     ·rename_i y hp;simp only [Option.some.injEq,Prod.mk.injEq] at h;obtain ⟨rfl,rfl⟩:=h
      have hl:Nt C (vHp G H) t (vR G r) (vN G off)=Y9 C.P t (vL G cs) (vN G off):=by
       unfold Nt;rw [Ny hG hcs h0];cases r with
       | rw i=>simp only [vR,Qo]
       | ro n=>exact absurd rfl (hr n)
       | fm b c k=>simp only [vR,Qo]
      rw [hl];exact gM hp
     ·simp at h
    ·simp at h
  ·simp at h
 ·simp only [O2,←vV_evD];split at h
  ·rename_i fs cs hu he;simp only [hu,he,vV];split at h
   ·rename_i fd hf;simp only [hf];split at h
    ·rename_i y hp;simp only [Option.some.injEq,Prod.mk.injEq] at h;obtain ⟨rfl,rfl⟩:=h
     have:=gM (G:=G) hp
     simpa only [vN] using this
    ·simp at h
   ·simp at h
  ·simp at h
 ·simp only [O2,←vV_evD];split at h
  ·rename_i len e cs k i hu he hi;simp only [hu,he,hi,vV];split at h
   ·rename_i z hz;simp only [hz];split at h
    ·rename_i y hp;simp only [Option.some.injEq,Prod.mk.injEq] at h;obtain ⟨rfl,rfl⟩:=h;obtain ⟨g1,g2⟩:=C5 h0
     have:=gM (G:=G) hp
     rw [Mg,Ev] at this;rw [Ah] at g1 g2;have g1:decide (0≤vI G i)=true:=decide_eq_true (by have:=of_decide_eq_true g1;simpa only [vI] using this);have g2:decide (vI G i<len)=true:=decide_eq_true (by have:=of_decide_eq_true g2;simpa only [vI] using this);cases y with
     | val c v=>exact fun hc=>by simp only [this hc,g1,g2,Bool.and_self]
     | ptr n c v=>exact ⟨fun hc=>by simp only [this.1 hc,g1,g2,Bool.and_self],fun hc=>by simp only [this.2 hc,g1,g2,Bool.and_self]⟩
    ·simp at h
   ·simp at h
  ·simp at h
 ·simp at h
theorem jQ (b:Nat) (f:Nat→Blk):∀ (c:Nat) (H:Hp),(acts H ((List.range c).map fun j=>Hop.set (b+j) (f j))).length=H.length∧∀ i,(acts H ((List.range c).map fun j=>Hop.set (b+j) (f j)))[i]?=if b≤i∧i<b+c∧i<H.length then some (some (f (i - b))) else H[i]?
 | 0,H=>⟨by simp [acts],fun i=>by rw [if_neg (by omega)];simp [acts]⟩
 | c+1,H=>by
  have app:∀ (hs ks:List Hop) (H:Hp),acts H (hs++ks)=acts (acts H hs) ks:=by
   intro hs
   induction hs with
   | nil=>intro ks H;rfl
   | cons h hs ih=>intro ks H;exact ih ks _
  obtain ⟨h1,h2⟩:=jQ b f c H;rw [List.range_succ,List.map_append,app];simp only [List.map_cons,List.map_nil,acts,Hop.act];refine ⟨by rw [List.length_set,h1],fun i=>?_⟩;rw [List.getElem?_set,h1];by_cases e:b+c=i
  ·subst e;rw [if_pos rfl];by_cases hl:b+c<H.length
   ·rw [if_pos hl,if_pos (by omega),show b+c - b=c by omega]
   ·rw [if_neg hl,if_neg (by omega),List.getElem?_eq_none (by omega)]
  ·rw [if_neg e,h2];by_cases hi:b≤i∧i<b+c∧i<H.length
   ·rw [if_pos hi,if_pos (by omega)]
   ·rw [if_neg hi,if_neg (by omega)]
theorem dX {H:DHp} {b c z:Nat} {l l2:EL} {ls:List EV} {k:Nat} {N:List AV} (hf:Gu H b c=some (z,l,ls)) (hr:rowsA (vL G l) (vVs G ls)=true) (hk:k<c) (hkl:k<(vL G l).length) (h2:vL G l2=D5 (vL G l) k N) :
  acts (vHp G H) ((Sy b c z l2).map (G2 G))=(vHp G H).set (b+k) (some ⟨z,N⟩):=by
 have e0:(Sy b c z l2).map (G2 G)=(List.range c).map fun j=>Hop.set (b+j) ⟨z,A1 (D5 (vL G l) k N) j⟩:=by
  unfold Sy;rw [List.map_map];refine List.map_congr_left fun j _=>?_;simp only [Function.comp,G2,C9,vL,vN,h2]
 rw [e0];obtain ⟨h1,h3⟩:=jQ b (fun j=>⟨z,A1 (D5 (vL G l) k N) j⟩) c (vHp G H);refine List.ext_getElem? fun i=>?_;rw [h3,List.getElem?_set]
 have hput:∀ j,A1 (D5 (vL G l) k N) j=if k=j then N else A1 (vL G l) j:=fun j=>by
  unfold A1 D5;rw [List.getElem?_set];by_cases e:k=j
  ·subst e;rw [if_pos rfl,if_pos rfl,if_pos hkl]
  ·rw [if_neg e,if_neg e]
 by_cases hi:b≤i∧i<b+c∧i<(vHp G H).length
 ·rw [if_pos hi,hput];by_cases e:b+k=i
  ·subst e;rw [if_pos rfl,if_pos (by omega),if_pos hi.2.2]
  ·rw [if_neg e,if_neg (by omega)]
   have:=Mu hf hr (i:=i - b) (by omega)
   rw [show b+(i - b)=i by omega] at this;rw [this]
 ·rw [if_neg hi];by_cases e:b+k=i
  ·subst e
   have:=Mu hf hr hk
   have:=(List.getElem?_eq_some_iff.1 this).1
   omega
  ·rw [if_neg e]
theorem vC {C:A3} (hG:C.G=G) {F:DFr} {H:DHp} {op:Op} {c:EB} {hs:List DHop} (h:fJ C.P F H op=some (c,hs)) (hc:vB G c=true) :
  ∃ hp,J9 C (vVs G F) (vHp G H) op=some (true,.tup [],hp)∧hp.act (vHp G H)=acts (vHp G H) (hs.map (G2 G)):=by
 unfold fJ at h;split at h
 ·rename_i t a x;simp only [J9,←vV_evD];split at h
  ·rename_i b cc k off z he hz;simp only [he,hz,vV,vR];split at h
   ·rename_i z0 l ls hf;simp only [Option.some.injEq,Prod.mk.injEq] at h;obtain ⟨rfl,rfl⟩:=h;obtain ⟨g1,hc⟩:=C5 hc;obtain ⟨g2,hc⟩:=C5 hc;obtain ⟨g3,hc⟩:=C5 hc;obtain ⟨g4,hc⟩:=C5 hc;obtain ⟨g5,g6⟩:=C5 hc;rw [R1,L1] at g1 g3;simp only [vN] at g1 g3;have g1:=A6.1 g1;have g3:=A6.1 g3;simp only [vB] at g2;rw [R1,L1,Ag] at g6;simp only [vN,vL] at g6;have g6:decide (vN G off+z≤(A1 (vL G l) (vN G k)).length)=true:=g6;have hr:∀ l',isRec ⟨z0,l'⟩=false:=fun _=>(bM hf).1
    refine ⟨.set (b+vN G k) ⟨z0,setPart (A1 (vL G l) (vN G k)) (vN G off) (vV G (evD F x))⟩,?_,?_⟩
    ·simp only [Mu hf g2 (show vN G k<cc by omega),hr,Bool.not_false,Xg _ g4,Mk g5,g6,beq_self_eq_true,Bool.and_self]
    ·rw [dX (k:=vN G k) (N:=setPart (A1 (vL G l) (vN G k)) (vN G off) (vV G (evD F x))) hf g2 (by omega) (by omega) (by simp only [vL,cB (Mk g5)])];rfl
   ·simp at h
  ·simp at h
 ·simp at h
theorem rW {F:DFr} {op:Op} {f:FuncId} {args:List EV} (h:Zr F op=some (f,args)):callOp (vVs G F) op=some (f,vVs G args):=by
 unfold Zr at h;split at h
 ·simp only [callOp,←vV_evD];split at h
  ·rename_i g cap he;simp only [Option.some.injEq,Prod.mk.injEq] at h;obtain ⟨rfl,rfl⟩:=h;simp only [he,vV,Tl,nC]
  ·simp at h
 ·simp at h
theorem uZ {F:DFr} {op:Op} {i:Nat} {args:List EV} (h:fH F op=some (i,args)):yldOp (vVs G F) op=some (i,vVs G args):=by
 unfold fH at h;split at h
 ·simp only [yldOp,←vV_evD];split at h
  ·rename_i g he;simp only [Option.some.injEq,Prod.mk.injEq] at h;obtain ⟨rfl,rfl⟩:=h;simp only [he,vV,nC]
  ·simp at h
 ·simp at h
theorem wM {C:A3} (hG:C.G=G) {F:DFr} {H:DHp} (x:ResultVar):Wo G (fQ C.P F H x) (Wi C (vVs G F) (vHp G H) x):=by
 intro c v h hc;unfold fQ at h;unfold Wi;split at h
 ·simp only [Option.some.injEq,Prod.mk.injEq] at h;obtain ⟨rfl,rfl⟩:=h;simp only [Ld,Et]
 ·simp only [Et];simp only [Ld] at h;split at h
  ·rename_i r off he;simp only [he,vV];exact rD hG _ _ h hc
  ·simp at h
theorem Wl {C:A3} (hG:C.G=G) {F:DFr} {H:DHp}:∀ (xs:List ResultVar) (c:EB) (vs:List EV),Sl C.P F H xs=some (c,vs)→vB G c=true→Jk C (vVs G F) (vHp G H) xs=some (true,vVs G vs)
 | [],c,vs,h,_=>by
  simp only [Sl,Option.some.injEq,Prod.mk.injEq] at h;obtain ⟨rfl,rfl⟩:=h;simp only [Jk,vVs]
 | x::xs,c,vs,h,hc=>by
  unfold Sl at h;split at h
  ·rename_i c1 v h1;split at h
   ·rename_i d r h2;simp only [Option.some.injEq,Prod.mk.injEq] at h;obtain ⟨rfl,rfl⟩:=h;obtain ⟨g1,g2⟩:=C5 hc;simp only [Jk,wM hG x _ _ h1 g1,Wl hG xs _ _ h2 g2,Bool.and_self,vVs]
   ·simp at h
  ·simp at h
theorem cO {C:A3} (hG:C.G=G) {fn:Func} {F:DFr} {H:DHp}:Wo G (resD C.P fn F H) (fR C fn (vVs G F) (vHp G H)):=by
 intro c v h hc;unfold resD at h;unfold fR;split at h
 ·rename_i c' v' hr;simp only [Option.some.injEq,Prod.mk.injEq] at h;obtain ⟨rfl,rfl⟩:=h;simp only [Wl hG _ _ _ hr hc,vVs]
 ·rename_i c' vs hn hr;simp only [Option.some.injEq,Prod.mk.injEq] at h;obtain ⟨rfl,rfl⟩:=h;rw [Wl hG _ _ _ hr hc];cases vs with
  | nil=>simp only [vVs,vV]
  | cons x l=>cases l with
   | nil=>exact absurd rfl (hn _)
   | cons y l=>simp only [vVs,vV]
 ·simp at h
end Go.Am
namespace Go.Am
variable {G:Nat→List AV}
def vT (G:Nat→List AV) (Q:Ex→List AV→Hp→Prop) (R:AV→Hp→Prop):T→Prop
 | .fail=>False
 | .chk b t=>vB G b=true∧vT G Q R t
 | .tst b x y=>(vB G b=true→vT G Q R x)∧(vB G b=false→vT G Q R y)
 | .imp b t=>vB G b=true→vT G Q R t
 | .allI _ k=>∀ x,vT G Q R (k x)
 | .allN _ k=>∀ x,vT G Q R (k x)
 | .allB _ k=>∀ x,vT G Q R (k x)
 | .allL _ k=>∀ x,vT G Q R (k x)
 | .namI _ e k=>∀ x,x=vI G e→vT G Q R (k x)
 | .namN _ e k=>∀ x,x=vN G e→vT G Q R (k x)
 | .namB _ e k=>∀ x,x=vB G e→vT G Q R (k x)
 | .namL _ e k=>∀ x,x=vL G e→vT G Q R (k x)
 | .leaf e F H=>Q e (vVs G F) (vHp G H)
 | .ret v H=>R (vV G v) (vHp G H)
section
variable {Q:Ex→List AV→Hp→Prop} {R:AV→Hp→Prop}
theorem Bf:∀ (b:EB) {t:T},vT G Q R (Hi b t)→vB G b=true∧vT G Q R t
 | .lit true,t,h=>⟨rfl,h⟩
 | .lit false,t,h=>h.elim
 | .and a b,t,h=>by
  simp only [Hi] at h;obtain ⟨h1,h⟩:=Bf a h;obtain ⟨h2,h⟩:=Bf b h;exact ⟨by simp [vB,h1,h2],h⟩
 | .var ..,t,h=>h
 | .cmp ..,t,h=>h
 | .not ..,t,h=>h
 | .eqB ..,t,h=>h
 | .eqS ..,t,h=>h
 | .isI ..,t,h=>h
 | .isB ..,t,h=>h
 | .isT ..,t,h=>h
 | .isR ..,t,h=>h
 | .get ..,t,h=>h
 | .leN ..,t,h=>h
 | .eqN ..,t,h=>h
 | .leaf ..,t,h=>h
 | .u8s ..,t,h=>h
 | .cells ..,t,h=>h
 | .isF ..,t,h=>h
 | .isP ..,t,h=>h
 | .isNil ..,t,h=>h
 | .rows ..,t,h=>h
 | .uf ..,t,h=>h
def Bran (G:Nat→List AV) (Q:Ex→List AV→Hp→Prop) (R:AV→Hp→Prop) (n:Nat) (b:EB) (x y:Facts→T):Prop:=
 (vB G b=true∧∃ fs':Facts,fs'.n=n∧vT G Q R (x fs'))∨(vB G b=false∧∃ fs':Facts,fs'.n=n∧vT G Q R (y fs'))
theorem V1 {fs:Facts} {b:EB} {x y:Facts→T} (h:vT G Q R (match dec fs b with | some true=>.chk b (x fs) | some false=>.chk (.not b) (y fs) | none=>.tst b (x (Lv fs b true)) (y (Lv fs b false)))):Bran G Q R fs.n b x y:=by
 have hl:∀ v,(Lv fs b v).n=fs.n:=fun v=>by unfold Lv;rfl
 split at h
 ·exact .inl ⟨h.1,fs,rfl,h.2⟩
 ·refine .inr ⟨?_,fs,rfl,h.2⟩
  have:=h.1
  simpa [vB] using this
 ·cases hb:vB G b with
  | true=>exact .inl ⟨hb,_,hl _,h.1 hb⟩
  | false=>exact .inr ⟨hb,_,hl _,h.2 hb⟩
theorem Cm:∀ (b:EB) (fs:Facts) (x y:Facts→T),vT G Q R (Da fs b x y)→Bran G Q R fs.n b x y
 | .lit true,fs,x,y,h=>.inl ⟨rfl,fs,rfl,h⟩
 | .lit false,fs,x,y,h=>.inr ⟨rfl,fs,rfl,h⟩
 | .not b,fs,x,y,h=>by
  simp only [Da] at h;rcases Cm b fs y x h with ⟨h1,h2⟩ | ⟨h1,h2⟩
  ·exact .inr ⟨by simp [vB,h1],h2⟩
  ·exact .inl ⟨by simp [vB,h1],h2⟩
 | .and a b,fs,x,y,h=>by
  simp only [Da] at h;rcases Cm a fs _ _ h with ⟨h1,fs1,e1,h2⟩ | ⟨h1,h2⟩
  ·rcases Cm b fs1 _ _ h2 with ⟨h3,h4⟩ | ⟨h3,h4⟩
   ·rw [e1] at h4;exact .inl ⟨by simp [vB,h1,h3],h4⟩
   ·rw [e1] at h4;exact .inr ⟨by simp [vB,h1,h3],h4⟩
  ·exact .inr ⟨by simp [vB,h1],h2⟩
 | .eqB a b,fs,x,y,h=>by
  simp only [Da] at h;rcases Cm a fs _ _ h with ⟨h1,fs1,e1,h2⟩ | ⟨h1,fs1,e1,h2⟩
  ·rcases Cm b fs1 _ _ h2 with ⟨h3,h4⟩ | ⟨h3,h4⟩
   ·rw [e1] at h4;exact .inl ⟨by simp [vB,h1,h3],h4⟩
   ·rw [e1] at h4;exact .inr ⟨by simp [vB,h1,h3],h4⟩
  ·rcases Cm b fs1 _ _ h2 with ⟨h3,h4⟩ | ⟨h3,h4⟩
   ·rw [e1] at h4;exact .inr ⟨by simp [vB,h1,h3],h4⟩
   ·rw [e1] at h4;exact .inl ⟨by simp [vB,h1,h3],h4⟩
 | .var ..,fs,x,y,h=>V1 h
 | .cmp ..,fs,x,y,h=>V1 h
 | .eqS ..,fs,x,y,h=>V1 h
 | .isI ..,fs,x,y,h=>V1 h
 | .isB ..,fs,x,y,h=>V1 h
 | .isT ..,fs,x,y,h=>V1 h
 | .isR ..,fs,x,y,h=>V1 h
 | .get ..,fs,x,y,h=>V1 h
 | .leN ..,fs,x,y,h=>V1 h
 | .eqN ..,fs,x,y,h=>V1 h
 | .leaf ..,fs,x,y,h=>V1 h
 | .u8s ..,fs,x,y,h=>V1 h
 | .cells ..,fs,x,y,h=>V1 h
 | .isF ..,fs,x,y,h=>V1 h
 | .isP ..,fs,x,y,h=>V1 h
 | .isNil ..,fs,x,y,h=>V1 h
 | .rows ..,fs,x,y,h=>V1 h
 | .uf ..,fs,x,y,h=>V1 h
theorem Mf {o:Option (EB×EV)} {k:EV→T} (h:vT G Q R (cY o k)):∃ c v,o=some (c,v)∧vB G c=true∧vT G Q R (k v):=by
 unfold cY at h;split at h
 ·rename_i c v;obtain ⟨h1,h2⟩:=Bf c h;exact ⟨c,v,rfl,h1,h2⟩
 ·exact h.elim
end
def X0 (G:Nat→List AV) (P:EV→List DHop→Prop):Outs→Prop
 | .one v hs=>P v hs
 | .chk b x=>vB G b=true→X0 G P x
 | .tst b x y=>(vB G b=true→X0 G P x)∧(vB G b=false→X0 G P y)
 | .namI e f=>∀ j,X0 G P (f (.var j (vI G e)))
 | .namN e f=>∀ j,X0 G P (f (.var j (vN G e)))
 | .namB e f=>∀ j,X0 G P (f (.var j (vB G e)))
 | .namL e f=>∀ j,X0 G P (f (.var j (vL G e)))
theorem Cn {Q:Ex→List AV→Hp→Prop} {R:AV→Hp→Prop} {P:EV→List DHop→Prop} {k:Facts→EV→List DHop→T}:∀ (o:Outs) (fs:Facts),vT G Q R (Fk fs o k)→X0 G P o→∃ fs' v hs,P v hs∧vT G Q R (k fs' v hs)
 | .one v hs,fs,h,ho=>⟨fs,v,hs,ho,h⟩
 | .chk b x,fs,h,ho=>by
  simp only [Fk] at h;obtain ⟨h1,h2⟩:=Bf b h;exact Cn x fs h2 (ho h1)
 | .tst b x y,fs,h,ho=>by
  simp only [Fk] at h;rcases Cm b fs _ _ h with ⟨h1,fs1,_,h2⟩ | ⟨h1,fs1,_,h2⟩
  ·exact Cn x fs1 h2 (ho.1 h1)
  ·exact Cn y fs1 h2 (ho.2 h1)
 | .namI e f,fs,h,ho=>Cn (f (.var fs.n (vI G e))) (fresh fs) (h _ rfl) (ho _)
 | .namN e f,fs,h,ho=>Cn (f (.var fs.n (vN G e))) (fresh fs) (h _ rfl) (ho _)
 | .namB e f,fs,h,ho=>Cn (f (.var fs.n (vB G e))) (fresh fs) (h _ rfl) (ho _)
 | .namL e f,fs,h,ho=>Cn (f (.var fs.n (vL G e))) (fresh fs) (h _ rfl) (ho _)
def K6 (G:Nat→List AV) (Q:Ex→DFr→DHp→Prop):Nat→LOut→Prop
 | _,.one e F H=>Q e F H
 | n,.chk b x=>vB G b=true∧K6 G Q n x
 | n,.tst b x y=>(vB G b=true→K6 G Q n x)∧(vB G b=false→K6 G Q n y)
 | n,.imp b x=>vB G b=true→K6 G Q n x
 | n,.allI f=>∀ x,K6 G Q (n+1) (f (.var n x))
 | n,.allN f=>∀ x,K6 G Q (n+1) (f (.var n x))
 | n,.allB f=>∀ x,K6 G Q (n+1) (f (.var n x))
 | n,.allL f=>∀ x,K6 G Q (n+1) (f (.var n x))
 | n,.namI e f=>K6 G Q (n+1) (f (.var n (vI G e)))
 | n,.namN e f=>K6 G Q (n+1) (f (.var n (vN G e)))
 | n,.namB e f=>K6 G Q (n+1) (f (.var n (vB G e)))
 | n,.namL e f=>K6 G Q (n+1) (f (.var n (vL G e)))
theorem T7 {Q:Ex→List AV→Hp→Prop} {R:AV→Hp→Prop} {k:Facts→Ex→DFr→DHp→T}:∀ (o:LOut) (fs:Facts),vT G Q R (Br fs o k)→K6 G (fun e F H=>∃ fs',vT G Q R (k fs' e F H)) fs.n o
 | .one e F H,fs,h=>⟨fs,h⟩
 | .chk b x,fs,h=>by
  simp only [Br] at h;obtain ⟨h1,h2⟩:=Bf b h;exact ⟨h1,T7 x fs h2⟩
 | .tst b x y,fs,h=>by
  simp only [Br] at h;rcases Cm b fs _ _ h with ⟨h1,fs1,e1,h2⟩ | ⟨h1,fs1,e1,h2⟩
  ·have:=T7 x fs1 h2
   rw [e1] at this;exact ⟨fun _=>this,fun hb=>by rw [h1] at hb;simp at hb⟩
  ·have:=T7 y fs1 h2
   rw [e1] at this;exact ⟨fun hb=>by rw [h1] at hb;simp at hb,fun _=>this⟩
 | .imp b x,fs,h=>fun hb=>T7 x (Lv fs b true) (h hb)
 | .allI f,fs,h=>fun x=>T7 (f (.var fs.n x)) (fresh fs) (h x)
 | .allN f,fs,h=>fun x=>T7 (f (.var fs.n x)) (fresh fs) (h x)
 | .allB f,fs,h=>fun x=>T7 (f (.var fs.n x)) (fresh fs) (h x)
 | .allL f,fs,h=>fun x=>T7 (f (.var fs.n x)) (fresh fs) (h x)
 | .namI e f,fs,h=>T7 (f (.var fs.n _)) (fresh fs) (h _ rfl)
 | .namN e f,fs,h=>T7 (f (.var fs.n _)) (fresh fs) (h _ rfl)
 | .namB e f,fs,h=>T7 (f (.var fs.n _)) (fresh fs) (h _ rfl)
 | .namL e f,fs,h=>T7 (f (.var fs.n _)) (fresh fs) (h _ rfl)
def E1 (C:A3) (f:FuncId) (args:List EV) (H:DHp) (v:EV) (hs:List DHop):Prop:=
 ACalls C f (vVs C.G args) (vHp C.G H) fun v' H'=>v'=vV C.G v∧H'=acts (vHp C.G H) (hs.map (G2 C.G))
def uY (C:A3) (i:Nat) (args:List EV) (H:DHp) (v:EV) (hs:List DHop):Prop:=
 AYld C i (vVs C.G args) (vHp C.G H) fun v' H'=>v'=vV C.G v∧H'=acts (vHp C.G H) (hs.map (G2 C.G))
structure I9 (C:A3) (K:DCfg) (lps:List Code):Prop where
 hP:K.P=C.P
 mix:C.P.follows .mixedOrders=true
 calls:∀ f args H o,K.sum f args H=some o→X0 C.G (E1 C f args H) o
 loops:∀ m c F H o,m≤K.M→c∈lps→K.loop c F H=some o→∀ n (Q:Post),K6 C.G (fun e F' H'=>Q e (vVs C.G F') (vHp C.G H')) n o→AWp C m (.loop c) (vVs C.G F) (vHp C.G H) Q
 inl:∀ f fn c,K.inl f=true→C.P.funcs[f]?=some fn→fn.body=some c→∀ b∈loopsOf c,b∈lps
 rngs:∀ m c F H o,m≤K.M→c∈lps→K.rng c F H=some o→∀ n (Q:Post),K6 C.G (fun e F' H'=>Q e (vVs C.G F') (vHp C.G H')) n o→AWp C m c (vVs C.G F) (vHp C.G H) Q
 ylds:∀ i args H o,K.ysum i args H=some o→X0 C.G (uY C i args H) o
def K0 (C:A3):Cfg:={ C:=C,inl:=fun _=>false,strict:=.lazy,unr:=false,sum:=fun _ _ _=>none,loop:=fun _ _ _=>none,M:=0 }
theorem aS4 {C:A3} (h:C.P.follows .mixedOrders=true) (lps:List Code):Vn (K0 C) lps:=⟨h,fun f args H v hs h=>by simp [K0] at h,fun m c F H e F' H' _ _ h=>by simp [K0] at h⟩
noncomputable def zH (G:Nat→List AV):DTrK→TrK
 | .still=>.still
 | .read r=>.read (vR G r)
 | .write=>.write
noncomputable def hY (G:Nat→List AV) (t:fF):Tr:=⟨zH G t.kd,t.len,t.hs.map (G2 G)⟩
noncomputable def vWk (G:Nat→List AV):DWk→Wk
 | .code c=>.code c
 | .ops all l=>.ops all l
 | .dr all l trs=>.dr all l (trs.map (hY G))
theorem lO (i:Nat):∀ (hs:List DHop) (len:Nat),Lm i len (hs.map (G2 G))=Sd i len hs
 | [],_=>rfl
 | h::hs,len=>by cases h<;>simp only [List.map_cons,G2,Lm,Sd,lO i hs]
theorem iA (r:ER) (hs:List DHop) (len:Nat) (h:Sc r len hs=false):Oz (vR G r) len (hs.map (G2 G))=false:=by
 cases r with
 | rw i=>simp only [Sc] at h;simp only [vR,Oz,lO,h]
 | ro n=>simp only [vR,Oz]
 | fm b c k=>simp [Sc] at h
theorem yS (x y:fF) (h:gX x y=true):Dv (hY G x) (hY G y)=true:=by
 obtain ⟨kx,lx,hx⟩:=x;obtain ⟨ky,ly,hy⟩:=y;cases kx<;>cases ky<;>simp only [hY,zH,Dv,gX] at h ⊢
 ·rw [iA _ _ _ (by simpa using h)];rfl
 ·rw [iA _ _ _ (by simpa using h)];rfl
 ·cases h
theorem yK (all:List Oper) (trs:List fF) (h:gS all trs=true):Dt all (trs.map (hY G))=true:=by
 unfold gS at h;unfold Dt;simp only [Bool.and_eq_true,List.all_eq_true,Bool.or_eq_true] at h ⊢;refine ⟨h.1,fun j hj i hi=>?_⟩;rcases h.2 j hj i hi with h1 | h1
 ·exact .inl h1
 ·refine .inr ?_;simp only [List.getElem?_map]
  revert h1
  cases all[i]?<;>cases all[j]?<;>cases trs[i]?<;>cases trs[j]?<;>simp;intro g1 g2;exact ⟨g1,yS _ _ g2⟩
theorem Py:∀ (H':DHp) (p:Bool) (i:Nat) (hs:List DHop),Du p i H'=some hs→Bb p i (vHp G H')=some (hs.map (G2 G))
 | [],false,i,hs,h=>by simp [Du] at h;subst h;rfl
 | [],true,i,hs,h=>by simp [Du] at h
 | some b::H',false,i,hs,h=>by
  simp only [Du] at h;split at h
  ·rename_i hs' h1;simp at h;subst h
   have:=Py H' false (i+1) hs' h1
   simp only [vHp] at this;simp only [vHp,List.map_cons,Option.map_some,Bb,this,G2]
  ·simp at h
 | some b::H',true,i,hs,h=>by
  simp only [Du] at h;split at h
  ·rename_i hs' h1;simp at h;subst h
   have:=Py H' false (i+1) hs' h1
   simp only [vHp] at this;simp only [vHp,List.map_cons,Option.map_some,Bb,this,G2]
  ·simp at h
 | none::H',false,i,hs,h=>by
  simp only [Du] at h;split at h
  ·rename_i hs' h1;simp at h;subst h
   have:=Py H' true (i+1) hs' h1
   simp only [vHp] at this;simp only [vHp,List.map_cons,Option.map_none,Bb,this,G2,C9,vL,vVs]
  ·simp at h
 | none::H',true,i,hs,h=>by
  simp only [Du] at h;split at h
  ·rename_i hs' h1;simp at h;subst h
   have:=Py H' true (i+1) hs' h1
   simp only [vHp] at this;simp only [vHp,List.map_cons,Option.map_none,Bb,this,G2,C9,vL,vVs]
  ·simp at h
theorem gT:∀ (H H':DHp) (i:Nat) (hs:List DHop),Ly i H H'=some hs→Cl false i (vHp G H) (vHp G H')=some (hs.map (G2 G))
 | [],H',i,hs,h=>by
  simp only [Ly] at h
  have:=Py (G:=G) H' false i hs h
  simp only [vHp,List.map_nil,Cl] at this ⊢;exact this
 | x::H,some b::H',i,hs,h=>by
  cases x<;>simp only [Ly] at h
  all_goals
   split at h
   ·rename_i hs' h1;simp at h;subst h
    have:=gT H H' (i+1) hs' h1
    simp only [vHp] at this;simp only [vHp,List.map_cons,Option.map_some,Option.map_none,Cl,Bool.false_and,this,G2]
   ·simp at h
 | none::H,none::H',i,hs,h=>by
  simp only [Ly] at h
  have:=gT H H' (i+1) hs h
  simp only [vHp] at this;simp only [vHp,List.map_cons,Option.map_none,Cl,this]
 | some _::H,none::H',i,hs,h=>by simp [Ly] at h
 | some _::H,[],i,hs,h=>by simp [Ly] at h
 | none::H,[],i,hs,h=>by simp [Ly] at h
theorem Uu (fn:Func) (args:List EV):vVs G (Hn fn args)=Aq fn (vVs G args):=by
 unfold Hn Aq;rw [Tl,Bm];congr 1;rw [S6,List.map_replicate];simp only [vV,vVs]
theorem Ds (F:DFr) (d:Option Tmp) (v:EV):vVs G (N8 F d v)=put (vVs G F) d (vV G v):=by
 cases d<;>simp only [N8,Tt,put,qC]
theorem iJ {K:DCfg} {r1 r2:Code→Bool} (h:∀ c,r1 c=true→r2 c=true):∀ c,U8 K r1 c=true→U8 K r2 c=true:=by
 have op:∀ o,Ej K r1 o=true→Ej K r2 o=true:=fun o ho=>by
  unfold Ej at ho ⊢
  split at ho<;>first
   | rfl
   | (simp at ho;done)
   | skip
  split at ho
  ·rename_i g _ _;obtain ⟨h1,h2⟩:=T0 ho;rw [h1];simp only [Bool.true_and];split at h2
   ·split at h2
    ·exact h _ h2
    ·rfl
   ·rfl
  ·simp at ho
 intro c
 induction c with
 | region id ops d=>simp only [U8,List.all_eq_true];exact fun h o ho=>op o (h o ho)
 | seq a b iha ihb=>simp only [U8,Bool.and_eq_true];exact fun h=>⟨iha h.1,ihb h.2⟩
 | cond x a b iha ihb=>simp only [U8,Bool.and_eq_true];exact fun h=>⟨iha h.1,ihb h.2⟩
 | block id c ih=>exact ih
 | scope c ih=>exact ih
 | _=>intro h;simp_all [U8]
theorem aH {K:DCfg}:∀ d c,S7 K d c=true→S7 K (d+1) c=true
 | 0,c,h=>by simp [S7] at h
 | d+1,c,h=>iJ (aH d) c h
def H8 (H:DHp):T→Prop
 | .fail=>True
 | .chk _ t=>H8 H t
 | .tst _ x y=>H8 H x∧H8 H y
 | .imp _ t=>H8 H t
 | .allI _ k=>∀ x,H8 H (k x)
 | .allN _ k=>∀ x,H8 H (k x)
 | .allB _ k=>∀ x,H8 H (k x)
 | .allL _ k=>∀ x,H8 H (k x)
 | .namI _ _ k=>∀ x,H8 H (k x)
 | .namN _ _ k=>∀ x,H8 H (k x)
 | .namB _ _ k=>∀ x,H8 H (k x)
 | .namL _ _ k=>∀ x,H8 H (k x)
 | .leaf ..=>True
 | .ret _ H'=>H'=H
theorem Iw {H:DHp}:∀ (b:EB) {t:T},H8 H t→H8 H (Hi b t)
 | .lit true,t,h=>h
 | .lit false,t,h=>trivial
 | .and a b,t,h=>by simp only [Hi];exact Iw a (Iw b h)
 | .var ..,t,h=>h
 | .cmp ..,t,h=>h
 | .not ..,t,h=>h
 | .eqB ..,t,h=>h
 | .eqS ..,t,h=>h
 | .isI ..,t,h=>h
 | .isB ..,t,h=>h
 | .isT ..,t,h=>h
 | .isR ..,t,h=>h
 | .get ..,t,h=>h
 | .leN ..,t,h=>h
 | .eqN ..,t,h=>h
 | .leaf ..,t,h=>h
 | .u8s ..,t,h=>h
 | .cells ..,t,h=>h
 | .isF ..,t,h=>h
 | .isP ..,t,h=>h
 | .isNil ..,t,h=>h
 | .rows ..,t,h=>h
 | .uf ..,t,h=>h
theorem V4 {H:DHp} {fs:Facts} {b:EB} {x y:Facts→T} (hx:∀ fs,H8 H (x fs)) (hy:∀ fs,H8 H (y fs)) :
  H8 H (match dec fs b with | some true=>.chk b (x fs) | some false=>.chk (.not b) (y fs) | none=>.tst b (x (Lv fs b true)) (y (Lv fs b false))):=by
 split
 ·exact hx _
 ·exact hy _
 ·exact ⟨hx _,hy _⟩
theorem Eb {H:DHp}:∀ (b:EB) (fs:Facts) (x y:Facts→T),(∀ fs,H8 H (x fs))→(∀ fs,H8 H (y fs))→H8 H (Da fs b x y)
 | .lit true,fs,x,y,hx,hy=>hx _
 | .lit false,fs,x,y,hx,hy=>hy _
 | .not b,fs,x,y,hx,hy=>by simp only [Da];exact Eb b fs y x hy hx
 | .and a b,fs,x,y,hx,hy=>by simp only [Da];exact Eb a fs _ _ (fun fs=>Eb b fs x y hx hy) hy
 | .eqB a b,fs,x,y,hx,hy=>by simp only [Da];exact Eb a fs _ _ (fun fs=>Eb b fs x y hx hy) (fun fs=>Eb b fs y x hy hx)
 | .var ..,fs,x,y,hx,hy=>V4 hx hy
 | .cmp ..,fs,x,y,hx,hy=>V4 hx hy
 | .eqS ..,fs,x,y,hx,hy=>V4 hx hy
 | .isI ..,fs,x,y,hx,hy=>V4 hx hy
 | .isB ..,fs,x,y,hx,hy=>V4 hx hy
 | .isT ..,fs,x,y,hx,hy=>V4 hx hy
 | .isR ..,fs,x,y,hx,hy=>V4 hx hy
 | .get ..,fs,x,y,hx,hy=>V4 hx hy
 | .leN ..,fs,x,y,hx,hy=>V4 hx hy
 | .eqN ..,fs,x,y,hx,hy=>V4 hx hy
 | .leaf ..,fs,x,y,hx,hy=>V4 hx hy
 | .u8s ..,fs,x,y,hx,hy=>V4 hx hy
 | .cells ..,fs,x,y,hx,hy=>V4 hx hy
 | .isF ..,fs,x,y,hx,hy=>V4 hx hy
 | .isP ..,fs,x,y,hx,hy=>V4 hx hy
 | .isNil ..,fs,x,y,hx,hy=>V4 hx hy
 | .rows ..,fs,x,y,hx,hy=>V4 hx hy
 | .uf ..,fs,x,y,hx,hy=>V4 hx hy
theorem rJ {H:DHp} {fs:Facts} {o:EB×FamR} {k:Facts→EV→T} (h:∀ fs v,H8 H (k fs v)):H8 H (gL fs o k):=by
 obtain ⟨c0,x⟩:=o;cases x with
 | val c v=>exact Iw c0 (Iw c (h _ _))
 | ptr n c v=>exact Iw c0 (Eb n fs _ _ (fun fs=>h _ _) (fun fs=>Iw c (h _ _)))
theorem Su {H:DHp} {o:Option (EB×EV)} {k:EV→T} (h:∀ v,H8 H (k v)):H8 H (cY o k):=by
 unfold cY;split
 ·exact Iw _ (h _)
 ·trivial
def dB:Outs→Prop
 | .one _ hs=>hs=[]
 | .chk _ x=>dB x
 | .tst _ x y=>dB x∧dB y
 | .namI _ f=>∀ x,dB (f x)
 | .namN _ f=>∀ x,dB (f x)
 | .namB _ f=>∀ x,dB (f x)
 | .namL _ f=>∀ x,dB (f x)
theorem Iv {H:DHp} {k:Facts→EV→List DHop→T} (hk:∀ fs v,H8 H (k fs v [])):∀ (o:Outs) (fs:Facts),dB o→H8 H (Fk fs o k)
 | .one v hs,fs,ho=>by have:hs=[]:=ho;subst this;exact hk _ _
 | .chk b x,fs,ho=>Iw b (Iv hk x fs ho)
 | .tst b x y,fs,ho=>Eb b fs _ _ (fun fs=>Iv hk x fs ho.1) (fun fs=>Iv hk y fs ho.2)
 | .namI e f,fs,ho=>fun x=>Iv hk _ _ (ho _)
 | .namN e f,fs,ho=>fun x=>Iv hk _ _ (ho _)
 | .namB e f,fs,ho=>fun x=>Iv hk _ _ (ho _)
 | .namL e f,fs,ho=>fun x=>Iv hk _ _ (ho _)
theorem Yp {H:DHp}:∀ (t:T) (o:Outs),I8 true H t=some o→dB o
 | .ret v H',o,h=>by simp [I8] at h;subst h;rfl
 | .chk b t,o,h=>by
  simp only [I8] at h;split at h
  ·rename_i o' h1;simp at h;subst h;exact Yp t o' h1
  ·simp at h
 | .tst b x y,o,h=>by
  simp only [I8] at h;split at h
  ·rename_i o1 o2 h1 h2;simp at h;subst h;exact ⟨Yp x o1 h1,Yp y o2 h2⟩
  ·simp at h
 | .fail,o,h=>by simp [I8] at h
 | .allI ..,o,h=>by simp [I8] at h
 | .allN ..,o,h=>by simp [I8] at h
 | .allB ..,o,h=>by simp [I8] at h
 | .allL ..,o,h=>by simp [I8] at h
 | .leaf ..,o,h=>by simp [I8] at h
 | .imp ..,o,h=>by simp [I8] at h
 | .namI ..,o,h=>by simp [I8] at h
 | .namN ..,o,h=>by simp [I8] at h
 | .namB ..,o,h=>by simp [I8] at h
 | .namL ..,o,h=>by simp [I8] at h
def kH (K:DCfg):DWk→Bool
 | .code c=>S7 K 20 c
 | .ops _ l=>l.all (Ej K (S7 K 20))
 | .dr _ l _=>l.all (Ej K (S7 K 20))
theorem iI {K:DCfg} {o:Oper} {F:DFr} {f:FuncId} {args:List EV} (hk:kdOf K.P o.op=.call) (hr:Ej K (S7 K 20) o=true) (hc:Zr F o.op=some (f,args)) :
  K.inl f=true∧∀ fn c,K.P.funcs[f]?=some fn→fn.body=some c→S7 K 20 c=true:=by
 unfold Ej at hr;rw [hk] at hr;simp only at hr;split at hr
 ·rename_i g args' ts hop;rw [hop] at hc;simp only [Zr,evD,Option.some.injEq,Prod.mk.injEq] at hc;obtain ⟨rfl,_⟩:=hc;obtain ⟨h1,h2⟩:=T0 hr;refine ⟨h1,fun fn c hf hb=>?_⟩;rw [hf] at h2;simp only [hb] at h2;exact h2
 ·simp at hr
theorem mC {K:DCfg} {o:Oper} {F:DFr} {i:Nat} {args:List EV} (hk:kdOf K.P o.op=.call) (hr:Ej K (S7 K 20) o=true) (hc:fH F o.op=some (i,args)):False:=by
 unfold Ej at hr;rw [hk] at hr;simp only at hr;split at hr
 ·rename_i g args' ts hop;rw [hop] at hc;simp [fH,evD] at hc
 ·simp at hr
theorem dx_ro {K:DCfg}:∀ n m wk F H fs q,kH K wk=true→(∀ e F fs,H8 H (q e F H fs))→H8 H (dx K n m wk F H fs q):=by
  intro n
  induction n with
  | zero => intro m wk F H fs q _ _; trivial
  | succ n ih=>
    intro m wk F H fs q hr hq
    have guard:∀ {all:List Oper} {g:Option (Nat×Bool)} {go skip:DFr→Facts→T},(∀ F fs,H8 H (go F fs))→(∀ F fs,H8 H (skip F fs))→H8 H (Sw fs all g F go skip):=by
      intro all g go skip h1 h2;unfold Sw;split
      · exact h1 _ _
      · split
        · split
          · refine Eb _ _ _ _ (fun fs=>?_) (fun fs=>?_)<;>split<;>first | exact h1 _ _ | exact h2 _ _
          · exact h2 _ _
          · trivial
        · trivial
    cases wk with
    | ops all l=>
      show H8 H (Pd K (dx K n) m all l F H fs q);cases l with
      | nil=>exact hq _ _ _
      | cons o l=>
        obtain ⟨dst,op,ty,pos,after,g⟩:=o;simp only [kH,List.all_cons,Bool.and_eq_true] at hr;obtain ⟨ho,hl⟩:=hr;simp only [Pd];refine guard (fun F fs=>?_) (fun F fs=>ih _ _ _ _ _ _ hl hq);unfold fN;split
        · exact Su fun v=>ih _ (.ops all l) _ _ _ _ hl hq
        · split
          · exact rJ fun fs v=>ih _ (.ops all l) _ _ _ _ hl hq
          · exact Su fun v=>ih _ (.ops all l) _ _ _ _ hl hq
        · rename_i hk;simp [Ej,hk] at ho
        · rename_i hk;split
          · rename_i f args hc;obtain ⟨hi,hb⟩:=iI hk ho hc;rw [hi];simp only;split
            · rename_i fn hf;split
              · rename_i c hbody;split
                · trivial
                · refine ih _ (.code c) _ _ _ _ (hb fn c hf hbody) fun e F fs=>?_;unfold Rm;split
                  · trivial
                  · exact Su fun v=>ih _ _ _ _ _ _ hl hq
              · trivial
            · trivial
          · split
            · rename_i i args hy;exact (mC hk ho hy).elim
            · trivial
    | dr all l trs=>
      show H8 H (Kj K (dx K n) m all l trs F H fs q);cases l with
      | nil=>
        simp only [Kj];split
        · exact hq _ _ _
        · trivial
      | cons o l=>
        obtain ⟨dst,op,ty,pos,after,g⟩:=o;simp only [kH,List.all_cons,Bool.and_eq_true] at hr;obtain ⟨ho,hl⟩:=hr;simp only [Kj];refine guard (fun F fs=>?_) (fun F fs=>ih _ (.dr all l _) _ _ _ _ hl hq);unfold Vz;split
        · exact Su fun v=>ih _ (.dr all l _) _ _ _ _ hl hq
        · split
          · exact rJ fun fs v=>ih _ (.dr all l _) _ _ _ _ hl hq
          · exact Su fun v=>ih _ (.dr all l _) _ _ _ _ hl hq
        · rename_i hk;simp [Ej,hk] at ho
        · rename_i hk;split
          · rename_i f args hc;obtain ⟨hi,hb⟩:=iI hk ho hc;rw [hi];simp only;split
            · rename_i fn hf;split
              · rename_i c hbody;split
                · trivial
                · split
                  · rename_i o' ho';rw [hb fn c hf hbody] at ho';exact Iv (fun fs v=>ih _ (.dr all l _) _ _ _ _ hl hq) o' fs (Yp _ _ ho')
                  · trivial
              · trivial
            · trivial
          · split
            · rename_i i args hy;exact (mC hk ho hy).elim
            · trivial
    | code c=>
      have sub:∀ {c':Code},U8 K (S7 K 19) c'=true→kH K (.code c')=true:=fun h=>h;show H8 H (Fb K (dx K n) m c F H fs q);have hr:U8 K (S7 K 19) c=true:=hr
      have opsOk:∀ {l:List Oper},l.all (Ej K (S7 K 19))=true→l.all (Ej K (S7 K 20))=true:=fun {l} h=>by
        have:=iJ (K:=K) (r1:=S7 K 19) (r2:=S7 K 20) (fun c=>aH 19 c) (.region 0 l.toArray false) (by simpa [U8] using h)
        simpa [U8] using this
      cases c with
      | skip=>exact hq _ _ _
      | region id ops draw=>
        simp only [U8] at hr;cases draw with
        | true=>exact ih _ (.dr _ _ _) _ _ _ _ (opsOk hr) hq
        | false=>exact ih _ (.ops _ _) _ _ _ _ (opsOk hr) hq
      | seq a b=>
        simp only [U8,Bool.and_eq_true] at hr;refine ih _ (.code a) _ _ _ _ (sub hr.1) fun e F fs=>?_;unfold sI;split
        · exact ih _ (.code b) _ _ _ _ (sub hr.2) hq
        · exact hq _ _ _
      | cond x a b=>
        simp only [U8,Bool.and_eq_true] at hr;obtain ⟨ra,rb⟩:=hr;simp only [Fb,Wa];split
        · split
          · exact Eb _ _ _ _ (fun fs=>ih _ (.code a) _ _ _ _ (sub ra) hq) (fun fs=>ih _ (.code b) _ _ _ _ (sub rb) hq)
          · trivial
        · split
          · exact ih _ (.code a) _ _ _ _ (sub ra) hq
          · exact ih _ (.code b) _ _ _ _ (sub rb) hq
        · trivial
      | block id c=>
        refine ih _ (.code c) _ _ _ _ (sub hr) fun e F fs=>?_;unfold eW;split
        · split
          · exact hq _ _ _
          · exact hq _ _ _
        · exact hq _ _ _
      | loop c=>simp [U8] at hr
      | exit i=>exact hq _ _ _
      | scope c=>exact ih _ (.code c) _ _ _ _ (sub hr) hq
      | label i=>exact hq _ _ _
      | ret=>exact hq _ _ _
      | _=>simp [U8] at hr
theorem Yq {C:A3} {f:FuncId} {args:List EV} {H:DHp} {ro:Bool}:∀ (t:T) (o:Outs),I8 ro H t=some o→(ro=true→H8 H t)→
  (∀ R:AV→Hp→Prop,vT C.G (fun _ _ _=>False) R t→ACalls C f (vVs C.G args) (vHp C.G H) R)→X0 C.G (E1 C f args H) o
 | .ret v H',o,h,hro,hc=>by
  simp only [I8] at h;split at h
  ·simp at h;subst h
   have:=hro rfl
   simp only [H8] at this;subst this;exact hc _ ⟨rfl,rfl⟩
  ·split at h
   ·rename_i hs hd;simp at h;subst h;have e:=Mz 0 [] _ _ _ rfl (gT (G:=C.G) _ _ _ _ hd);simp only [List.nil_append] at e;exact hc _ ⟨rfl,e.symm⟩
   ·simp at h
 | .chk b t,o,h,hro,hc=>by
  simp only [I8] at h;split at h
  ·rename_i o' h1;simp at h;subst h;exact fun hb=>Yq t o' h1 hro fun R hR=>hc R ⟨hb,hR⟩
  ·simp at h
 | .tst b x y,o,h,hro,hc=>by
  simp only [I8] at h;split at h
  ·rename_i o1 o2 h1 h2;simp at h;subst h
   exact ⟨fun hb=>Yq x o1 h1 (fun hr=>(hro hr).1) fun R hR=>hc R ⟨fun _=>hR,fun hb'=>by rw [hb] at hb';simp at hb'⟩,
    fun hb=>Yq y o2 h2 (fun hr=>(hro hr).2) fun R hR=>hc R ⟨fun hb'=>by rw [hb] at hb';simp at hb',fun _=>hR⟩⟩
  ·simp at h
 | .fail,o,h,_,_=>by simp [I8] at h
 | .allI ..,o,h,_,_=>by simp [I8] at h
 | .allN ..,o,h,_,_=>by simp [I8] at h
 | .allB ..,o,h,_,_=>by simp [I8] at h
 | .allL ..,o,h,_,_=>by simp [I8] at h
 | .leaf ..,o,h,_,_=>by simp [I8] at h
 | .imp ..,o,h,_,_=>by simp [I8] at h
 | .namI ..,o,h,_,_=>by simp [I8] at h
 | .namN ..,o,h,_,_=>by simp [I8] at h
 | .namB ..,o,h,_,_=>by simp [I8] at h
 | .namL ..,o,h,_,_=>by simp [I8] at h
theorem rQ {C:A3} {K:DCfg} {Q:Ex→List AV→Hp→Prop} {R:AV→Hp→Prop} (hG:C.G=C.G) {F:DFr} {H:DHp} {op:Op} {o:EB×FamR} {fs:Facts} {k:Facts→EV→T} (ho:oL K.fam C.P F H op=some o) (h:vT C.G Q R (gL fs o k)) :
  ∃ fs2 v,O2 C (vVs C.G F) (vHp C.G H) op=some (true,vV C.G v)∧vT C.G Q R (k fs2 v):=by
 obtain ⟨c0,x⟩:=o;cases x with
 | val c v=>
  simp only [gL] at h;obtain ⟨h0,h⟩:=Bf c0 h;obtain ⟨h1,h⟩:=Bf c h;exact ⟨fs,v,yC hG ho h0 h1,h⟩
 | ptr n c v=>
  simp only [gL] at h;obtain ⟨h0,h⟩:=Bf c0 h;have hw:=yC hG ho h0;rcases Cm n fs _ _ h with ⟨h1,fs1,_,h2⟩ | ⟨h1,fs1,_,h2⟩
  ·exact ⟨fs1,.nilp,by rw [hw.1 h1];simp only [vV],h2⟩
  ·obtain ⟨h3,h4⟩:=Bf c h2;exact ⟨fs1,v,hw.2 h3,h4⟩
theorem aN2 {F:DFr} {op:Op}:Pg (vVs G F) op=(Yh F op).map (vR G):=by
 unfold Pg Yh;cases op<;>simp only [Option.map_none]
 ·simp only [←vV_evD];generalize evD F _=x;cases x<;>simp only [vV,Option.map_some,Option.map_none]
 ·simp only [←vV_evD];generalize evD F _=x;cases x<;>simp only [vV,Option.map_some,Option.map_none]
theorem K5 {P P':Ex→DFr→DHp→Prop} (hp:∀ e F H,P e F H→P' e F H):∀ (o:LOut) (n:Nat),K6 G P n o→K6 G P' n o
 | .one e F H,n,h=>hp _ _ _ h
 | .chk b x,n,h=>⟨h.1,K5 hp x n h.2⟩
 | .tst b x y,n,h=>⟨fun hb=>K5 hp x n (h.1 hb),fun hb=>K5 hp y n (h.2 hb)⟩
 | .imp b x,n,h=>fun hb=>K5 hp x n (h hb)
 | .allI f,n,h=>fun x=>K5 hp (f (.var n x)) (n+1) (h x)
 | .allN f,n,h=>fun x=>K5 hp (f (.var n x)) (n+1) (h x)
 | .allB f,n,h=>fun x=>K5 hp (f (.var n x)) (n+1) (h x)
 | .allL f,n,h=>fun x=>K5 hp (f (.var n x)) (n+1) (h x)
 | .namI e f,n,h=>K5 hp (f (.var n _)) (n+1) h
 | .namN e f,n,h=>K5 hp (f (.var n _)) (n+1) h
 | .namB e f,n,h=>K5 hp (f (.var n _)) (n+1) h
 | .namL e f,n,h=>K5 hp (f (.var n _)) (n+1) h
def LpD (K:DCfg) (lps:List Code) (wk:DWk):Prop:=
 match wk with
 | .code c=>∀ b∈loopsOf c,b∈lps
 | _=>True
theorem nX {Q:Ex→List AV→Hp→Prop} {R:AV→Hp→Prop} {fs:Facts} {all:List Oper} {g:Option (Nat×Bool)} {F:DFr} {go skip:DFr→Facts→T} (h:vT G Q R (Sw fs all g F go skip)) :
  ∃ F' fs',vVs G F'=vVs G F∧F'.length=F.length∧((wantA all g (vVs G F)=some true∧vT G Q R (go F' fs'))∨(wantA all g (vVs G F)=some false∧vT G Q R (skip F' fs'))):=by
 unfold Sw at h;unfold wantA;split at h
 ·exact ⟨F,fs,rfl,rfl,.inl ⟨rfl,h⟩⟩
 ·rename_i j want;simp only;split at h
  ·rename_i t ht;simp only [ht,Et];rw [Ld] at h;split at h
   ·rename_i b hb
    have hv:∀ x:Bool,vB G b=x→vVs G (N8 F (some t) (.bool (.lit x)))=vVs G F:=fun x hx=>by
     rw [Ds];simp only [put,vV,vB];refine Ca ?_ (by simp);rw [Et,hb];simp only [vV,hx]
    rw [hb];simp only [vV];rcases Cm b fs _ _ h with ⟨h1,fs1,_,h2⟩ | ⟨h1,fs1,_,h2⟩
    ·refine ⟨N8 F (some t) (.bool (.lit true)),fs1,hv _ h1,by simp [N8,Tt],?_⟩;rw [h1];cases want
     ·exact .inr ⟨rfl,h2⟩
     ·exact .inl ⟨rfl,h2⟩
    ·refine ⟨N8 F (some t) (.bool (.lit false)),fs1,hv _ h1,by simp [N8,Tt],?_⟩;rw [h1];cases want
     ·exact .inl ⟨rfl,h2⟩
     ·exact .inr ⟨rfl,h2⟩
   ·rename_i hb;rw [hb];simp only [vV,vVs];exact ⟨F,fs,rfl,rfl,.inr ⟨trivial,h⟩⟩
   ·exact h.elim
  ·exact h.elim
theorem bR {C:A3} {K:DCfg} {lps:List Code} (hK:I9 C K lps):∀ n m wk F H fs q (Q:Post) (QQ:Ex→List AV→Hp→Prop) (RR:AV→Hp→Prop),
    (∀ e F H fs,vT C.G QQ RR (q e F H fs)→Q e (vVs C.G F) (vHp C.G H))→LpD K lps wk→vT C.G QQ RR (dx K n m wk F H fs q)→Snd (K0 C) m (vWk C.G wk) (vVs C.G F) (vHp C.G H) Q:=by
  have hG:C.G=C.G:=rfl;have hP:=hK.hP;intro n
  induction n with
  | zero => intro m wk F H fs q Q QQ RR _ _ h; exact h.elim
  | succ n ih=>
    intro m wk F H fs q Q QQ RR hq hlp h;have g0:=aS4 (C:=C) hK.mix lps;cases wk with
    | ops all l=>
      change vT C.G QQ RR (Pd K (dx K n) m all l F H fs q) at h;cases l with
      | nil=>exact fun r ρ a w hm hH hF=>⟨.normal,ρ,_,_,rfl,hq _ _ _ _ h,Bc.refl m ρ,hH,hF,Frm.refl ρ w⟩
      | cons o l=>
        obtain ⟨dst,op,ty,pos,after,guard⟩:=o;simp only [Pd] at h;obtain ⟨F',fs',hFe,_,h⟩:=nX h;rw [← hFe];rw [← hFe] at h;rcases h with ⟨hw,h⟩ | ⟨hw,h⟩
        · unfold fN at h;rw [hP] at h;split at h
          · rename_i hk;obtain ⟨c,v,h1,h2,h3⟩:=Mf h
            have:=ih m (.ops all l) _ _ _ _ _ _ _ hq trivial h3
            rw [Ds] at this;exact U4 (lps:=lps) g0 (.pure hw hk (qS _ _ h1 h2)) this
          · rename_i hk;split at h
            · rename_i o ho;obtain ⟨fs2,v,h1,h3⟩:=rQ hG (o:=o) ho h
              have:=ih m (.ops all l) _ _ _ _ _ _ _ hq trivial h3
              rw [Ds] at this;exact U4 (lps:=lps) g0 (.read hw hk h1) this
            · obtain ⟨c,v,h1,h2,h3⟩:=Mf h
              have:=ih m (.ops all l) _ _ _ _ _ _ _ hq trivial h3
              rw [Ds] at this;exact U4 (lps:=lps) g0 (.read hw hk (qL hG _ _ h1 h2)) this
          · rename_i hk;split at h
            · rename_i c v x hx;obtain ⟨h2,h3⟩:=Bf c h
              have:=ih m (.ops all l) _ _ _ _ _ _ _ hq trivial h3
              rw [Ds,aT] at this;exact U4 (lps:=lps) g0 (.write hw hk (lE hG _ _ _ hx h2)) this
            · split at h
              · rename_i c hs hx;obtain ⟨h2,h3⟩:=Bf c h;obtain ⟨hp,e1,e2⟩:=vC hG hx h2
                have:=ih m (.ops all l) _ _ _ _ _ _ _ hq trivial h3
                rw [Ds,In,←e2] at this;simp only [vV,vVs] at this;exact U4 (lps:=lps) g0 (.write hw hk e1) this
              · exact h.elim
          · rename_i hk;split at h
            · rename_i f args hc;have hc:=rW (G:=C.G) hc;split at h
              · rename_i hi;split at h
                · rename_i fn hfn;split at h
                  · rename_i c hb;split at h
                    · exact h.elim
                    · rename_i hnm
                      have hbody:∀ (r:Option Nat),Ek r c=true→∀ (ρ:Env) (a:Act) (w:World),(vHp C.G H).length≤(vHp C.G H).length→B6 C ρ (vHp C.G H) w→I5 ρ (Aq fn (vVs C.G args)) a→
                          c.wpIn (W r) 0 C.P (AP C (vHp C.G H).length ρ w (W8 C fn fun v' H'=>∃ v H1 fs,v'=vV C.G v∧H'=vHp C.G H1∧vT C.G QQ RR (dx K n m (.ops all l) (N8 F' dst v) H1 fs q))) a w:=by
                        have:=ih H.length (.code c) (Hn fn args) H fs' _ (W8 C fn fun v' H'=>∃ v H1 fs,v'=vV C.G v∧H'=vHp C.G H1∧vT C.G QQ RR (dx K n m (.ops all l) (N8 F' dst v) H1 fs q)) QQ RR (fun e F1 H1 fs1 ht=>by
                          unfold Rm at ht;split at ht
                          · exact ht.elim
                          · rename_i hne;obtain ⟨cc,v,q1,q2,q3⟩:=Mf ht;have e1:=cO hG _ _ q1 q2;cases e with
                            | exit i=>exact absurd rfl (hne i)
                            | normal=>simp only [W8];rw [e1];exact ⟨v,H1,fs1,rfl,rfl,q3⟩
                            | ret=>simp only [W8];rw [e1];exact ⟨v,H1,fs1,rfl,rfl,q3⟩) (fun b hb'=>hK.inl f fn c hi hfn hb b hb') h
                        rw [Uu] at this;rw [← C0 (G := C.G) H] at this;exact this
                      have hcall:=acalls_of (f:=f) (C:=C) (fn:=fn) (K:=fun v' H'=>∃ v H1 fs,v'=vV C.G v∧H'=vHp C.G H1∧vT C.G QQ RR (dx K n m (.ops all l) (N8 F' dst v) H1 fs q)) hfn hb hnm (fun r hr ρ a w hH hF=>hbody r hr ρ a w (Nat.le_refl _) hH hF);intro r ρ a w hm hH hF;unfold wpListIn;rw [Z7 hF hw,if_pos rfl];obtain ⟨cargs,hv,h1⟩:=Rs (w:=w) (o:=⟨dst,op,ty,pos,after,guard⟩) hF hc hcall.1;refine Hy (fY hc) ?_;have h1:(execOp a.eval ⟨dst,op,ty,pos,after,guard⟩).run (K0 C).C.P w=.ok (.enter f cargs.toArray) w:=h1;rw [h1]
                      refine ⟨fun h=>by simp [W,Fence.wide] at h,Rf.2 ((hcall.2 ρ w cargs hH hv).mono ?_)⟩;rintro e w' ⟨v',cv,ρ',H',rfl,⟨v,H1,fs1,rfl,rfl,g1⟩,g2,g3,g4,g5⟩;have hp:=Bc.of_le hH g2 hm
                      have:=ih m (.ops all l) _ _ _ _ _ _ _ hq trivial g1
                      rw [Ds] at this;exact V6 (fun e a w h=>AP.link hp g5 h) l _ _ (this r ρ' _ w' (Dz hm hH g3 hp) g3 ((hF.mono g2).put _ _ _ g4))
                  · exact h.elim
                · exact h.elim
              · split at h
                · rename_i o ho;obtain ⟨fs1,v,hs,h1,h2⟩:=Cn o fs' h (hK.calls _ _ _ _ ho)
                  have:=ih m (.ops all l) _ _ _ _ _ _ _ hq trivial h2
                  rw [Ds,In] at this;exact U4 (lps:=lps) g0 (.call hw hk hc h1) this
                · exact h.elim
            · split at h
              · rename_i i args hy;have hy:=uZ (G:=C.G) hy;split at h
                · rename_i o ho;obtain ⟨fs1,v,hs,h1,h2⟩:=Cn o fs' h (hK.ylds _ _ _ _ ho)
                  have:=ih m (.ops all l) _ _ _ _ _ _ _ hq trivial h2
                  rw [Ds,In] at this;intro r ρ a w hm hH hF;unfold wpListIn;rw [Z7 hF hw,if_pos rfl];refine h1 ρ _ w a ⟨dst,op,ty,pos,after,guard⟩ r _ _ hH hF hy ?_;rintro v' H' ρ' cv w' ⟨rfl,rfl⟩ g3 g4 g2 g5;have hp:=Bc.of_le hH g2 hm;exact V6 (fun e a w h=>AP.link hp g5 h) l _ _ (this r ρ' _ w' (Dz hm hH g3 hp) g3 ((hF.mono g2).put _ _ _ g4))
                · exact h.elim
              · exact h.elim
        · have:=ih m (.ops all l) _ _ _ _ _ _ _ hq trivial h
          rw [Ds] at this;simp only [vV,vVs] at this;exact U4 (lps:=lps) g0 (.skip hw) this
    | dr all l trs=>
      change vT C.G QQ RR (Kj K (dx K n) m all l trs F H fs q) at h;cases l with
      | nil=>
        simp only [Kj] at h;split at h
        · rename_i hd;exact ⟨[],_,_,.nil _ _,by have:=yK (G:=C.G) all trs hd;simpa using this,hq _ _ _ _ h⟩
        · exact h.elim
      | cons o l=>
        obtain ⟨dst,op,ty,pos,after,guard⟩:=o;simp only [Kj] at h;obtain ⟨F',fs',hFe,_,h⟩:=nX h;rw [← hFe];rw [← hFe] at h
        have go:∀ {tr:fF} {v:EV} {H':DHp} {fs1:Facts},St (K0 C) all ⟨dst,op,ty,pos,after,guard⟩ (vVs C.G F') (vHp C.G H) (hY C.G tr) (vV C.G v) (vHp C.G H')→
            vT C.G QQ RR (dx K n m (.dr all l (trs++[tr])) (N8 F' dst v) H' fs1 q)→Snd (K0 C) m (vWk C.G (.dr all (⟨dst,op,ty,pos,after,guard⟩::l) trs)) (vVs C.G F') (vHp C.G H) Q:=by
          intro tr v H' fs1 hst hrec
          have:=ih m (.dr all l (trs++[tr])) _ _ _ _ _ _ _ hq trivial hrec
          rw [Ds] at this;obtain ⟨trs',F1,H1,g1,g2,g3⟩:=this;exact ⟨hY C.G tr::trs',F1,H1,.cons hst g1,by simpa using g2,g3⟩
        rcases h with ⟨hw,h⟩ | ⟨hw,h⟩
        · unfold Vz at h;rw [hP] at h;split at h
          · rename_i hk;obtain ⟨c,v,h1,h2,h3⟩:=Mf h;refine go (tr:=⟨.still,H.length,[]⟩) ?_ h3
            have:=St.pure (K:=K0 C) (all:=all) (o:=⟨dst,op,ty,pos,after,guard⟩) (H:=vHp C.G H) hw hk (qS _ _ h1 h2)
            rw [C0] at this;exact this
          · rename_i hk
            obtain ⟨fs2,v,h1,h3⟩:∃ fs2 v,O2 C (vVs C.G F') (vHp C.G H) op=some (true,vV C.G v)∧vT C.G QQ RR (dx K n m (.dr all l (trs++[⟨(match Yh F' op with | some r=>.read r | none=>.still),H.length,[]⟩])) (N8 F' dst v) H fs2 q):=by
              split at h
              · rename_i o ho;exact rQ hG (o:=o) ho h
              · obtain ⟨c,v,h1,h2,h3⟩:=Mf h;exact ⟨_,v,qL hG _ _ h1 h2,h3⟩
            refine go ?_ h3
            have:=St.read (K:=K0 C) (all:=all) (o:=⟨dst,op,ty,pos,after,guard⟩) (H:=vHp C.G H) hw hk h1
            rw [C0] at this;refine cast (congrArg (fun tr=>St (K0 C) all ⟨dst,op,ty,pos,after,guard⟩ (vVs C.G F') (vHp C.G H) tr (vV C.G v) (vHp C.G H)) ?_) this;simp only [hY,List.map_nil];congr 1;rw [aN2];cases Yh F' op<;>simp only [Option.map_some,Option.map_none,zH]
          · rename_i hk;split at h
            · rename_i c v x hx;obtain ⟨h2,h3⟩:=Bf c h;refine go ?_ h3
              have:=St.write (K:=K0 C) (all:=all) (o:=⟨dst,op,ty,pos,after,guard⟩) hw hk (lE hG _ _ _ hx h2)
              rw [C0,←aT] at this;exact this
            · exact h.elim
          · rename_i hk;split at h
            · rename_i f args hc;have hc:=rW (G:=C.G) hc
              have fin:∀ {o:Outs} {fs1:Facts},X0 C.G (E1 C f args H) o→vT C.G QQ RR (Fk fs1 o fun fs v hs=>dx K n m (.dr all l (trs++[⟨.write,H.length,hs⟩])) (N8 F' dst v) (Lz H hs) fs q)→
                  Snd (K0 C) m (vWk C.G (.dr all (⟨dst,op,ty,pos,after,guard⟩::l) trs)) (vVs C.G F') (vHp C.G H) Q:=by
                intro o fs1 ho ht;obtain ⟨fs2,v,hs,h1,h2⟩:=Cn o fs1 ht ho;refine go ?_ h2
                have:=St.call (K:=K0 C) (all:=all) (o:=⟨dst,op,ty,pos,after,guard⟩) hw hk hc h1
                rw [C0,←In] at this;exact this
              split at h
              · rename_i hi;split at h
                · rename_i fn hfn;split at h
                  · rename_i c hb;split at h
                    · exact h.elim
                    · rename_i hnm;split at h
                      · rename_i o ho;refine fin (Yq _ _ ho (fun hr=>?_) fun R hR=>?_) h
                        · refine dx_ro n _ (.code c) _ _ _ _ hr fun e F fs=>?_;unfold Rm;split
                          · trivial
                          · exact Su fun v=>rfl
                        · refine acalls_of (f:=f) (C:=C) (fn:=fn) hfn hb hnm fun r hr ρ a w hH hF=>?_
                          have:=ih H.length (.code c) (Hn fn args) H fs' _ (W8 C fn R) (fun _ _ _=>False) R (fun e F1 H1 fs1 ht=>by
                            unfold Rm at ht;split at ht
                            · exact ht.elim
                            · rename_i hne;obtain ⟨cc,v,q1,q2,q3⟩:=Mf ht;have e1:=cO hG _ _ q1 q2;cases e with
                              | exit i=>exact absurd rfl (hne i)
                              | normal=>simp only [W8];rw [e1];exact q3
                              | ret=>simp only [W8];rw [e1];exact q3) (fun b hb'=>hK.inl f fn c hi hfn hb b hb') hR
                          rw [Uu,←C0 (G:=C.G) H] at this;exact this r hr ρ a w (Nat.le_refl _) hH hF
                      · exact h.elim
                  · exact h.elim
                · exact h.elim
              · split at h
                · rename_i o ho;exact fin (hK.calls _ _ _ _ ho) h
                · exact h.elim
            · split at h
              · rename_i i args hy;have hy:=uZ (G:=C.G) hy;split at h
                · rename_i o ho;obtain ⟨fs2,v,hs,h1,h2⟩:=Cn o fs' h (hK.ylds _ _ _ _ ho);refine go ?_ h2
                  have:=St.yld (K:=K0 C) (all:=all) (o:=⟨dst,op,ty,pos,after,guard⟩) hw hy h1
                  rw [C0,←In] at this;exact this
                · exact h.elim
              · exact h.elim
        · refine go (tr:=⟨.still,H.length,[]⟩) (v:=.tup []) ?_ h
          have:=St.skip (K:=K0 C) (all:=all) (o:=⟨dst,op,ty,pos,after,guard⟩) (H:=vHp C.G H) hw
          rw [C0] at this;simp only [vV,vVs];exact this
    | code c=>
      change vT C.G QQ RR (Fb K (dx K n) m c F H fs q) at h;intro r hr ρ a w hm hH hF;have here:∀ ae,Q ae (vVs C.G F) (vHp C.G H)→AP C m ρ w Q (cD ae) a w:=fun ae hq=>⟨ae,ρ,_,_,rfl,hq,Bc.refl m ρ,hH,hF,Frm.refl ρ w⟩;cases c with
      | skip=>exact wpIn_skip (here .normal (hq _ _ _ _ h))
      | region id ops draw=>
        cases draw with
        | true=>
          obtain ⟨trs',F',H',g1,g2,g3⟩:=ih m (.dr ops.toList ops.toList []) F H fs q Q QQ RR hq trivial h
          have:=eQ (id:=id) (r:=r) (Q:=AP C m ρ w Q) (lps:=lps) g0 g1 (by simpa using g2) hH hF fun ρ' a' w' q1 q2 q3 q4=>⟨.normal,ρ',F',H',rfl,g3,Bc.of_le hH q3 hm,q1,q2,q4⟩
          rwa [Array.toArray_toList] at this
        | false=>
          have:=ih m (.ops ops.toList ops.toList) F H fs q Q QQ RR hq trivial h r ρ a w hm hH hF
          rw [Array.toArray_toList] at this;exact wpIn_region_list this
      | seq x y=>
        have hx:LpD K lps (.code x):=fun b hb=>hlp b (List.mem_append.2 (.inl hb));have hy:LpD K lps (.code y):=fun b hb=>hlp b (List.mem_append.2 (.inr hb))
        have key:=ih m (.code x) F H fs (sI (dx K n) m y q) (fun e F1 H1=>match e with
          | .normal=>∀ ρ' a' w',m≤H1.length→B6 C ρ' H1 w'→I5 ρ' F1 a'→y.wpIn (W r) 0 C.P (AP C m ρ' w' Q) a' w'
          | e=>Q e F1 H1) QQ RR (fun e F1 H1 fs1 ht=>by
            cases e with
            | normal=>exact fun ρ' a' w' q1 q2 q3=>ih m (.code y) F1 H1 fs1 q Q QQ RR hq hy ht r (Yr hr).2 ρ' a' w' q1 q2 q3
            | exit i=>exact hq _ _ _ _ ht
            | ret=>exact hq _ _ _ _ ht) hx h r (Yr hr).1 ρ a w hm hH hF
        refine wpIn_seq (Code.wpIn_mono ?_ key);rintro e a' w' ⟨ae,ρ',F',H',rfl,h2,h3,h4,h5,h6⟩;cases ae with
        | normal=>exact Code.wpIn_mono (fun e a w h=>AP.link h3 h6 h) (h2 ρ' a' w' (Dz hm hH h4 h3) h4 h5)
        | exit i=>exact ⟨.exit i,ρ',F',H',rfl,h2,h3,h4,h5,h6⟩
        | ret=>exact ⟨.ret,ρ',F',H',rfl,h2,h3,h4,h5,h6⟩
      | cond c x y=>
        have hx:LpD K lps (.code x):=fun b hb=>hlp b (List.mem_append.2 (.inl hb));have hy:LpD K lps (.code y):=fun b hb=>hlp b (List.mem_append.2 (.inr hb));simp only [Fb,Wa] at h;split at h
        · rename_i t;rw [Ld] at h;split at h
          · rename_i b hb;have hv:=hF.at t;rw [Et,hb] at hv;simp only [vV,VR] at hv
            have hs:∀ x:Bool,vB C.G b=x→vVs C.G (N8 F (some t) (.bool (.lit x)))=vVs C.G F:=fun x hx=>by
              rw [Ds];simp only [put,vV,vB];refine Ca ?_ (by simp);rw [Et,hb];simp only [vV,hx]
            rcases Cm b fs _ _ h with ⟨h1,fs1,_,h2⟩ | ⟨h1,fs1,_,h2⟩
            · rw [h1] at hv
              have:=ih m (.code x) _ H fs1 q Q QQ RR hq hx h2 r (Fm hr).1 ρ a w hm hH
              rw [hs _ h1] at this;exact wpIn_cond_true hv (this hF)
            · rw [h1] at hv
              have:=ih m (.code y) _ H fs1 q Q QQ RR hq hy h2 r (Fm hr).2 ρ a w hm hH
              rw [hs _ h1] at this;exact wpIn_cond_false hv (this hF)
          · exact h.elim
        · rename_i b;cases b with
          | true=>exact wpIn_cond_true rfl (ih m (.code x) F H fs q Q QQ RR hq hx h r (Fm hr).1 ρ a w hm hH hF)
          | false=>exact wpIn_cond_false rfl (ih m (.code y) F H fs q Q QQ RR hq hy h r (Fm hr).2 ρ a w hm hH hF)
        · exact h.elim
      | block id c=>
        have key:=ih m (.code c) F H fs (eW id q) (Mx id Q) QQ RR (fun e F1 H1 fs1 ht=>by
          cases e with
          | normal=>exact hq _ _ _ _ ht
          | ret=>exact hq _ _ _ _ ht
          | exit i=>
            simp only [eW] at ht;simp only [Mx];cases hb:(i==id) with
            | true=>rw [hb] at ht;exact hq _ _ _ _ ht
            | false=>rw [hb] at ht;exact hq _ _ _ _ ht) (fun b hb=>hlp b hb) h r (iR hr) ρ a w hm hH hF
        refine wpIn_block (Code.wpIn_mono ?_ key);rintro e a' w' ⟨ae,ρ',F',H',rfl,h2,h3⟩;cases ae with
        | normal=>exact ⟨.normal,ρ',F',H',rfl,h2,h3⟩
        | ret=>exact ⟨.ret,ρ',F',H',rfl,h2,h3⟩
        | exit i=>
          simp only [Mx] at h2;show (if i=id then AP C m ρ w Q .normal a' w' else AP C m ρ w Q (.exit i) a' w');split at h2
          · rename_i hi;rw [if_pos (by simpa using hi)];exact ⟨.normal,ρ',F',H',rfl,h2,h3⟩
          · rename_i hi;rw [if_neg (by simpa using hi)];exact ⟨.exit i,ρ',F',H',rfl,h2,h3⟩
      | loop c=>
        simp only [Fb] at h;split at h
        · rename_i hm';split at h
          · rename_i o ho;have hmem:c∈lps:=hlp c (List.mem_cons_self ..);exact hK.loops m c F H o (Nat.le_of_ble_eq_true hm') hmem ho fs.n Q (K5 (fun e F' H' ⟨fs',ht⟩=>hq _ _ _ _ ht) o fs.n (T7 o fs h)) r hr ρ a w hH hF
          · exact h.elim
        · exact h.elim
      | rangeFunc g ps as bd=>
        simp only [Fb] at h;split at h
        · rename_i hm';split at h
          · rename_i o ho;have hmem:Code.rangeFunc g ps as bd∈lps:=hlp _ (List.mem_cons_self ..);exact hK.rngs m _ F H o (Nat.le_of_ble_eq_true hm') hmem ho fs.n Q (K5 (fun e F' H' ⟨fs',ht⟩=>hq _ _ _ _ ht) o fs.n (T7 o fs h)) r hr ρ a w hH hF
          · exact h.elim
        · exact h.elim
      | exit i=>exact wpIn_exit (here (.exit i) (hq _ _ _ _ h))
      | scope c=>
        refine Kf (Code.wpIn_mono ?_ (ih m (.code c) F H fs q Q QQ RR hq (fun b hb=>hlp b hb) h r (iQ hr) ρ a w hm hH hF));rintro e a' w' h;obtain ⟨ae,ρ',F',H',rfl,h2⟩:=h;cases ae with
        | normal=>exact ⟨.normal,ρ',F',H',rfl,h2⟩
        | ret=>exact ⟨.ret,ρ',F',H',rfl,h2⟩
        | exit i=>exact ⟨.exit i,ρ',F',H',rfl,h2⟩
      | label i=>exact wpIn_label (here .normal (hq _ _ _ _ h))
      | ret=>exact wpIn_ret (here .ret (hq _ _ _ _ h))
      | _=>exact h.elim
end Go.Am
namespace Go.Am
variable {C:A3}
def f0 (n:Nat):Facts:=⟨n,[]⟩
noncomputable def D0 (K:DCfg) (fuel n0:Nat) (fn:Func) (args:List EV) (H:DHp) (keep:Nat):T:=
 dx K fuel H.length (.code (bodyOf fn)) (Hn fn args) H (f0 n0) (Rm K.P fn fun v H' _=>.ret v (H'.take keep))
noncomputable def dlaw (K:DCfg) (fuel n0:Nat) (fn:Func) (args:List EV) (H:DHp):T:=
 dx K fuel H.length (.code (bodyOf fn)) (Hn fn args) H (f0 n0) (Rm K.P fn fun v _ _=>.ret v [])
def mH (live:List Nat) (F:DFr):List EV:=live.map fun i=>F.getD i .undef
def flD (N:Nat) (live:List Nat) (vs:List EV):DFr:=(List.range N).map fun i=>(((live.zip vs).find? fun p=>Nat.beq p.1 i).map (·.2)).getD .undef
def finL (N:Nat) (live:List Nat):DK:=fun e F H _=>match Nat.beq F.length N with
 | true=>.leaf e (mH live F) H
 | false=>.fail
noncomputable def J6 (K:DCfg) (fuel n0 m:Nat) (c:Code) (N:Nat) (live:List Nat) (vs:List EV) (H:DHp):T:=
 dx K fuel m (.code c) (flD N live vs) H (f0 n0) (finL N live)
theorem lI {G:Nat→List AV} (N:Nat) (live:List Nat) (vs:List EV):vVs G (flD N live vs)=fl N live (vVs G vs):=by
 unfold flD fl fr;rw [S6,List.map_map];refine List.map_congr_left fun i _=>?_;simp only [Function.comp]
 induction live generalizing vs with
 | nil=>simp [vV]
 | cons x live ih=>
  cases vs with
  | nil=>simp [vV,vVs]
  | cons v vs=>
   simp only [vVs,List.zip_cons_cons,List.find?_cons];split
   ·rename_i h;simp only [Option.map_some,Option.getD_some]
   ·rename_i h;exact ih vs
theorem lG {G:Nat→List AV} (live:List Nat) (F:DFr):vVs G (mH live F)=Vo live (vVs G F):=by
 unfold mH Vo;rw [S6,List.map_map];refine List.map_congr_left fun i _=>?_;simp only [Function.comp,Et]
theorem D3 {K : DCfg} {fuel n0 : Nat} {f : FuncId} {fn : Func} {args : List EV} {H : DHp} {keep : Nat} {R : AV → Hp → Prop} (hK : I9 C K (loopsOf (bodyOf fn))) (hf : C.P.funcs[f]? = some fn) (hb : fn.body = some (bodyOf fn)) (hn : (fn.name == "runtime.NumGoroutine") = false)
  (h:vT C.G (fun _ _ _=>False) R (D0 K fuel n0 fn args H keep)):ACalls C f (vVs C.G args) (vHp C.G H) fun v H'=>R v (H'.take keep):=by
 refine acalls_of hf hb hn fun r hr ρ a w hH hF=>?_
 have:=bR hK fuel H.length (.code (bodyOf fn)) (Hn fn args) H (f0 n0) _ (W8 C fn fun v H'=>R v (H'.take keep)) (fun _ _ _=>False) R (fun e F1 H1 fs1 ht=>by
  unfold Rm at ht;split at ht
  ·exact ht.elim
  ·rename_i hne;obtain ⟨cc,v,q1,q2,q3⟩:=Mf ht;rw [hK.hP] at q1;have e1:=cO rfl _ _ q1 q2;have e2:vHp C.G (H1.take keep)=(vHp C.G H1).take keep:=by simp only [vHp,List.map_take]
   simp only [vT,e2] at q3;cases e with
   | exit i=>exact absurd rfl (hne i)
   | normal=>simp only [W8];rw [e1];exact q3
   | ret=>simp only [W8];rw [e1];exact q3) (fun b hb=>hb) h
 simp only [vWk,Uu] at this
 have:=this r hr ρ a w (by simp [C0]) hH hF
 rw [←C0 (G:=C.G) H] at this;exact this
theorem aT7 {K : DCfg} {fuel n0 : Nat} {f : FuncId} {fn : Func} {args : List EV} {H : DHp} {R : AV → Hp → Prop} (hK : I9 C K (loopsOf (bodyOf fn))) (hf : C.P.funcs[f]? = some fn) (hb : fn.body = some (bodyOf fn)) (hn : (fn.name == "runtime.NumGoroutine") = false)
  (h:vT C.G (fun _ _ _=>False) R (dlaw K fuel n0 fn args H)):ACalls C f (vVs C.G args) (vHp C.G H) fun v _=>R v []:=by
 refine acalls_of hf hb hn fun r hr ρ a w hH hF=>?_
 have:=bR hK fuel H.length (.code (bodyOf fn)) (Hn fn args) H (f0 n0) _ (W8 C fn fun v H'=>R v []) (fun _ _ _=>False) R (fun e F1 H1 fs1 ht=>by
  unfold Rm at ht;split at ht
  ·exact ht.elim
  ·rename_i hne;obtain ⟨cc,v,q1,q2,q3⟩:=Mf ht;rw [hK.hP] at q1;have e1:=cO rfl _ _ q1 q2;cases e with
   | exit i=>exact absurd rfl (hne i)
   | normal=>simp only [W8];rw [e1];exact q3
   | ret=>simp only [W8];rw [e1];exact q3) (fun b hb=>hb) h
 simp only [vWk,Uu] at this
 have:=this r hr ρ a w (by simp [C0]) hH hF
 rw [←C0 (G:=C.G) H] at this;exact this
theorem E2 {K:DCfg} {fuel n0 m:Nat} {c:Code} {N:Nat} {live:List Nat} {vs:List EV} {H:DHp} {Q:Ex→List AV→Hp→Prop} (hK:I9 C K (loopsOf c)) (hm:m≤H.length)
  (h:vT C.G Q (fun _ _=>False) (J6 K fuel n0 m c N live vs H)):AWp C m c (fl N live (vVs C.G vs)) (vHp C.G H) (lv N live Q):=by
 have:=bR hK fuel m (.code c) (flD N live vs) H (f0 n0) _ (lv N live Q) Q (fun _ _=>False) (fun e F1 H1 fs1 ht=>by
  unfold finL at ht;split at ht
  ·rename_i hb;simp only [vT,lG] at ht;simp only [lv,Bm,hb];exact ht
  ·exact ht.elim) (fun b hb=>hb) h
 rw [lI] at this;exact fun r hr ρ a w hH hF=>this r hr ρ a w (by simpa [C0] using hm) hH hF
abbrev DSum:=List EV→DHp→Option Outs
def Zm:List (Nat×DSum)→FuncId→List EV→DHp→Option Outs
 | [],_,_,_=>none
 | (g,s)::l,f,args,H=>match Nat.beq g f with
  | true=>s args H
  | false=>Zm l f args H
def G0 (C:A3) (f:FuncId) (s:DSum):Prop:=∀ args H o,s args H=some o→X0 C.G (E1 C f args H) o
def T4 (C:A3) (l:List (Nat×DSum)):Prop:=∀ f args H o,Zm l f args H=some o→X0 C.G (E1 C f args H) o
theorem T4.nil:T4 C []:=fun f args H o h=>by simp [Zm] at h
theorem T4.cons {g:Nat} {s:DSum} {l:List (Nat×DSum)} (h:G0 C g s) (k:T4 C l):T4 C ((g,s)::l):=by
 intro f args H o ho;simp only [Zm] at ho;split at ho
 ·rename_i hg
  have:=Nat.eq_of_beq_eq_true hg
  subst this;exact h args H o ho
 ·exact k f args H o ho
abbrev DLoop:=List EV→DHp→Option LOut
def Fs (N:Nat) (live:List Nat):LOut→LOut
 | .one e vs H=>.one e (flD N live vs) H
 | .chk b x=>.chk b (Fs N live x)
 | .tst b x y=>.tst b (Fs N live x) (Fs N live y)
 | .imp b x=>.imp b (Fs N live x)
 | .allI k=>.allI fun x=>Fs N live (k x)
 | .allN k=>.allN fun x=>Fs N live (k x)
 | .allB k=>.allB fun x=>Fs N live (k x)
 | .allL k=>.allL fun x=>Fs N live (k x)
 | .namI e k=>.namI e fun x=>Fs N live (k x)
 | .namN e k=>.namN e fun x=>Fs N live (k x)
 | .namB e k=>.namB e fun x=>Fs N live (k x)
 | .namL e k=>.namL e fun x=>Fs N live (k x)
structure DL where
 ex:Nat
 N:Nat
 live:List Nat
 S:DLoop
def Bw:List DL→Code→DFr→DHp→Option LOut
 | [],_,_,_=>none
 | d::l,c,F,H=>match Rp c with
  | some i=>match Nat.beq i d.ex with
   | true=>match Nat.beq F.length d.N with
    | true=>match d.S (mH d.live F) H with
     | some o=>some (Fs d.N d.live o)
     | none=>none
    | false=>none
   | false=>Bw l c F H
  | none=>none
theorem O4 {G:Nat→List AV} {Q:Ex→DFr→DHp→Prop} {N:Nat} {live:List Nat}:∀ (o:LOut) (n:Nat),K6 G Q n (Fs N live o)→K6 G (fun e vs H=>Q e (flD N live vs) H) n o
 | .one e F H,n,h=>h
 | .chk b x,n,h=>⟨h.1,O4 x n h.2⟩
 | .tst b x y,n,h=>⟨fun hb=>O4 x n (h.1 hb),fun hb=>O4 y n (h.2 hb)⟩
 | .imp b x,n,h=>fun hb=>O4 x n (h hb)
 | .allI f,n,h=>fun x=>O4 (f (.var n x)) (n+1) (h x)
 | .allN f,n,h=>fun x=>O4 (f (.var n x)) (n+1) (h x)
 | .allB f,n,h=>fun x=>O4 (f (.var n x)) (n+1) (h x)
 | .allL f,n,h=>fun x=>O4 (f (.var n x)) (n+1) (h x)
 | .namI e f,n,h=>O4 (f (.var n _)) (n+1) h
 | .namN e f,n,h=>O4 (f (.var n _)) (n+1) h
 | .namB e f,n,h=>O4 (f (.var n _)) (n+1) h
 | .namL e f,n,h=>O4 (f (.var n _)) (n+1) h
def Lp (m:Nat) (Q:Ex→List AV→Hp→Prop) (e:Ex) (vs'':List AV) (H'':Hp):Prop:=(∃ vs',wk vs' vs''∧Q e vs' H'')∨∃ vs' H',C8 m vs' H' vs'' H''∧Q e vs' H'
def O9 (C:A3) (M:Nat) (c:Code) (d:DL):Prop:=
 ∀ m vs H o,m≤M→d.S vs H=some o→∀ n (Q:Ex→List AV→Hp→Prop),K6 C.G (fun e vs' H'=>Q e (vVs C.G vs') (vHp C.G H')) n o→
  AWp C m (.loop c) (fl d.N d.live (vVs C.G vs)) (vHp C.G H) (lv d.N d.live (Lp m Q))
def U3 (C:A3) (M:Nat) (cs:List Code) (ls:Code→DFr→DHp→Option LOut):Prop:=∀ m c F H o,m≤M→c∈cs→ls c F H=some o→∀ n (Q:Post),K6 C.G (fun e F' H'=>Q e (vVs C.G F') (vHp C.G H')) n o→AWp C m (.loop c) (vVs C.G F) (vHp C.G H) Q
theorem U3.nil {M:Nat} {ls:Code→DFr→DHp→Option LOut}:U3 C M [] ls:=fun m c F H o _ h=>by simp at h
theorem AWp.wkd {m:Nat} {c:Code} {F:Fr} {H:Hp} {N:Nat} {live:List Nat} {Q:Ex→List AV→Hp→Prop} {Q':Post} (h:AWp C m c F H (lv N live (Lp m Q))) (hq:∀ e vs H',Q e vs H'→Q' e (fl N live vs) H'):AWp C m c F H Q':=by
 intro r hr ρ a w hH hF;refine Code.wpIn_mono ?_ (h r hr ρ a w hH hF);rintro e a' w' ⟨ae,ρ',F',H',rfl,h2,h3,h4,h5,h6⟩;obtain ⟨h7,h8⟩:=Gd h2;have hN:F'.length=N:=Nat.eq_of_beq_eq_true h7;rcases h8 with ⟨vs',h8,h9⟩ | ⟨vs',H1,h8,h9⟩
 ·exact ⟨ae,ρ',_,H',rfl,hq _ _ _ h9,h3,h4,wk_rel h5 hN h8,h6⟩
 ·obtain ⟨ρ2,g1,g2,g3,g4⟩:=h8.live (N:=N) (live:=live) h4 h5.nod (by rw [←h5.len,hN]) (by simp [Vo]) (fun j i v q1 q2=>by
   simp only [Vo,List.getElem?_map,q1,Option.map_some,Option.some.injEq] at q2;subst q2;by_cases hi:i<F'.length
   ·exact h5.val i _ (by simp [List.getD,hi])
   ·simp [List.getD,hi,VR])
  exact ⟨ae,ρ2,_,H1,rfl,hq _ _ _ h9,h3.trans g3,g1,g2,h6.trans g4⟩
def Vf (i:Nat):List DL→Option DL
 | []=>none
 | d::l=>match Nat.beq i d.ex with
  | true=>some d
  | false=>Vf i l
theorem aM {c:Code} {F:DFr} {H:DHp} {o:LOut} {i:Nat} (he:Rp c=some i):∀ (l:List DL),Bw l c F H=some o→∃ d,Vf i l=some d∧F.length=d.N∧∃ o',d.S (mH d.live F) H=some o'∧o=Fs d.N d.live o'
 | [],h=>by simp [Bw] at h
 | d::l,h=>by
  simp only [Bw,he] at h;simp only [Vf];split at h
  ·rename_i hi;split at h
   ·rename_i hN;split at h
    ·rename_i o' ho;simp at h;subst h;exact ⟨d,rfl,Nat.eq_of_beq_eq_true hN,o',ho,rfl⟩
    ·simp at h
   ·simp at h
  ·exact aM he l h
theorem U3.cons {M:Nat} {c:Code} {cs:List Code} {l:List DL} {d:DL} {i:Nat} (he:Rp c=some i) (hp:Vf i l=some d) (h:O9 C M c d) (k:U3 C M cs (Bw l)):U3 C M (c::cs) (Bw l):=by
 intro m c' F H o hm hc ho n Q hQ;rcases List.mem_cons.1 hc with rfl | hc
 ·obtain ⟨d',h1,h2,o',h3,rfl⟩:=aM he l ho;rw [hp] at h1;simp at h1;subst h1
  have:=h m _ _ _ hm h3 n (fun e vs H'=>Q e (fl d.N d.live vs) H') (by
   have:=O4 o' n hQ
   refine K5 (fun e vs H' hq=>?_) o' n this;rw [lI] at hq
   exact hq)
  have:=this.wkd (Q':=Q) fun e vs H' h=>h
  intro r hr ρ a w hH hF;refine this r hr ρ a w hH ?_
  have:=cP (live:=d.live) (N:=d.N) hF (by rw [Bm];exact h2)
  rw [lG];exact this
 ·exact k m c' F H o hm hc ho n Q hQ
theorem U3.cast {M:Nat} {cs ds:List Code} {ls:Code→DFr→DHp→Option LOut} (h:U3 C M ds ls) (e:cs=ds):U3 C M cs ls:=by rw [e];exact h
theorem lone {m m':Nat} {c:Code} {N:Nat} {live:List Nat} {vs:List AV} {H:Hp} {e:Ex} {vs':List EV} {H':DHp} {Q:Ex→List AV→Hp→Prop}
  (h:AWp C m c (fl N live vs) H (lv N live fun e' vs'' H''=>e'=e∧wk (vVs C.G vs') vs''∧H''=vHp C.G H')) (hq:Q e (vVs C.G vs') (vHp C.G H')) :
  AWp C m c (fl N live vs) H (lv N live (Lp m' Q)):=
 h.lmono fun e' vs'' H'' ⟨h1,h2,h3⟩=>.inl ⟨_,h2,by rw [h1,h3];exact hq⟩
theorem C8.pin {m m':Nat} (hm:m'≤m) {F F':Fr} {H H':Hp} (h:C8 m F H F' H'):C8 m' F H F' H':=by
 obtain ⟨θ,g1,g2,g3,g4⟩:=h.ex;exact ⟨θ,g1,by omega,fun i hi=>g3 i (by omega),g4⟩
theorem Lp.pin {m m':Nat} (hm:m'≤m) {Q:Ex→List AV→Hp→Prop} {e:Ex} {vs:List AV} {H:Hp} (h:Lp m Q e vs H):Lp m' Q e vs H:=by
 rcases h with h | ⟨vs',H',h1,h2⟩
 ·exact .inl h
 ·exact .inr ⟨vs',H',h1.pin hm,h2⟩
def sB (C:A3) (M:Nat) (c:Code) (d:DL):Prop:=
 ∀ m vs H o,m≤M→d.S vs H=some o→∀ n (Q:Ex→List AV→Hp→Prop),K6 C.G (fun e vs' H'=>Q e (vVs C.G vs') (vHp C.G H')) n o→
  AWp C m c (fl d.N d.live (vVs C.G vs)) (vHp C.G H) (lv d.N d.live (Lp m Q))
def sX:Code→Option Nat
 | .rangeFunc _ ps _ _=>some (ps.toList.headD 0)
 | _=>none
def Lx:List DL→Code→DFr→DHp→Option LOut
 | [],_,_,_=>none
 | d::l,c,F,H=>match sX c with
  | some i=>match Nat.beq i d.ex with
   | true=>match Nat.beq F.length d.N with
    | true=>match d.S (mH d.live F) H with
     | some o=>some (Fs d.N d.live o)
     | none=>none
    | false=>none
   | false=>Lx l c F H
  | none=>none
def Jb (C:A3) (M:Nat) (cs:List Code) (ls:Code→DFr→DHp→Option LOut):Prop:=∀ m c F H o,m≤M→c∈cs→ls c F H=some o→∀ n (Q:Post),K6 C.G (fun e F' H'=>Q e (vVs C.G F') (vHp C.G H')) n o→AWp C m c (vVs C.G F) (vHp C.G H) Q
theorem Jb.none {M:Nat} {cs:List Code}:Jb C M cs (Lx []):=fun m c F H o _ _ h=>by simp [Lx] at h
theorem Jb.nil {M:Nat} {ls:Code→DFr→DHp→Option LOut}:Jb C M [] ls:=fun m c F H o _ h=>by simp at h
theorem eP {c:Code} {F:DFr} {H:DHp} {o:LOut} {i:Nat} (he:sX c=some i):∀ (l:List DL),Lx l c F H=some o→∃ d,Vf i l=some d∧F.length=d.N∧∃ o',d.S (mH d.live F) H=some o'∧o=Fs d.N d.live o'
 | [],h=>by simp [Lx] at h
 | d::l,h=>by
  simp only [Lx,he] at h;simp only [Vf];split at h
  ·rename_i hi;split at h
   ·rename_i hN;split at h
    ·rename_i o' ho;simp at h;subst h;exact ⟨d,rfl,Nat.eq_of_beq_eq_true hN,o',ho,rfl⟩
    ·simp at h
   ·simp at h
  ·exact eP he l h
theorem Jb.cons {M:Nat} {c:Code} {cs:List Code} {l:List DL} {d:DL} {i:Nat} (he:sX c=some i) (hp:Vf i l=some d) (h:sB C M c d) (k:Jb C M cs (Lx l)):Jb C M (c::cs) (Lx l):=by
 intro m c' F H o hm hc ho n Q hQ;rcases List.mem_cons.1 hc with rfl | hc
 ·obtain ⟨d',h1,h2,o',h3,rfl⟩:=eP he l ho;rw [hp] at h1;simp at h1;subst h1
  have:=h m _ _ _ hm h3 n (fun e vs H'=>Q e (fl d.N d.live vs) H') (by
   have:=O4 o' n hQ
   refine K5 (fun e vs H' hq=>?_) o' n this;rw [lI] at hq
   exact hq)
  have:=this.wkd (Q':=Q) fun e vs H' h=>h
  intro r hr ρ a w hH hF;refine this r hr ρ a w hH ?_
  have:=cP (live:=d.live) (N:=d.N) hF (by rw [Bm];exact h2)
  rw [lG];exact this
 ·exact k m c' F H o hm hc ho n Q hQ
theorem U3.skip {M:Nat} {c:Code} {cs:List Code} {l:List DL} (he:Rp c=Option.none) (k:U3 C M cs (Bw l)):U3 C M (c::cs) (Bw l):=by
 intro m c' F H o hm hc ho n Q hQ;rcases List.mem_cons.1 hc with rfl | hc
 ·cases l<;>simp [Bw,he] at ho
 ·exact k m c' F H o hm hc ho n Q hQ
def Dc (P:Program) (inl:List Nat) (sums:List (Nat×DSum)) (ls:List DL) (M:Nat):DCfg:={ P:=P,inl:=iZ inl,sum:=Zm sums,loop:=Bw ls,M:=M }
theorem dgood {P:Program} {G:Nat→List AV} {B:Nat} {inl:List Nat} {sums:List (Nat×DSum)} {ls:List DL} {M:Nat} {cs:List Code} (hm:P.follows .mixedOrders=true) (hp:Sm P inl=true) (hs:T4 ⟨P,G,B⟩ sums) (hl:U3 ⟨P,G,B⟩ M cs (Bw ls)) :
  I9 ⟨P,G,B⟩ (Dc P inl sums ls M) cs:=
 ⟨rfl,hm,hs,hl,Wn hp,fun m c F H o _ _ h=>by simp [Dc] at h,fun i args H o h=>by simp [Dc] at h⟩
abbrev Df (P:Program) (fam:List (TypeId×Nat×Nat)) (inl:List Nat) (sums:List (Nat×DSum)) (ls:List DL) (M:Nat):DCfg:={ Dc P inl sums ls M with fam:=fun t=>(fam.find? fun x=>Nat.beq x.1 t).map (·.2) }
theorem dgoodf {P:Program} {fam:List (TypeId×Nat×Nat)} {G:Nat→List AV} {B:Nat} {inl:List Nat} {sums:List (Nat×DSum)} {ls:List DL} {M:Nat} {cs:List Code} (hm:P.follows .mixedOrders=true) (hp:Sm P inl=true) (hs:T4 ⟨P,G,B⟩ sums) (hl:U3 ⟨P,G,B⟩ M cs (Bw ls)) :
  I9 ⟨P,G,B⟩ (Df P fam inl sums ls M) cs:=
 ⟨rfl,hm,hs,hl,Wn hp,fun m c F H o _ _ h=>by simp [Df,Dc] at h,fun i args H o h=>by simp [Df,Dc] at h⟩
abbrev DYsum:=Nat→List EV→DHp→Option Outs
def Lj (C:A3) (y:DYsum):Prop:=∀ i args H o,y i args H=some o→X0 C.G (uY C i args H) o
def noY:DYsum:=fun _ _ _=>none
theorem Pl:Lj C noY:=fun i args H o h=>by simp [noY] at h
def Dr (P:Program) (inl:List Nat) (sums:List (Nat×DSum)) (ls rs:List DL) (y:DYsum) (M:Nat):DCfg:={ P:=P,inl:=iZ inl,sum:=Zm sums,loop:=Bw ls,M:=M,rng:=Lx rs,ysum:=y }
theorem At {P:Program} {G:Nat→List AV} {B:Nat} {inl:List Nat} {sums:List (Nat×DSum)} {ls rs:List DL} {y:DYsum} {M:Nat} {cs:List Code} (hm:P.follows .mixedOrders=true) (hp:Sm P inl=true) (hs:T4 ⟨P,G,B⟩ sums) (hl:U3 ⟨P,G,B⟩ M cs (Bw ls)) (hr:Jb ⟨P,G,B⟩ M cs (Lx rs)) (hy:Lj ⟨P,G,B⟩ y) :
  I9 ⟨P,G,B⟩ (Dr P inl sums ls rs y M) cs:=
 ⟨rfl,hm,hs,hl,Wn hp,hr,hy⟩
end Go.Am
