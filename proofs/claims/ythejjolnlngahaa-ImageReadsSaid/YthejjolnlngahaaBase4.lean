/-
  Written terms: what the abstract machine over them says of values, and The machine over written terms: a piece of code becomes a tree.
-/
import Derived.Test.YthejjolnlngahaaBase3
namespace Go.Am
open Nat renaming beq → zL
mutual
/-- whole numbers -/
inductive EI
 | lit (n:Int)
 | var (j:Nat) (x:Int)
 | bin (o:BinOp) (k:IntKind) (a b:EI)
 | conv (k:IntKind) (a:EI)
 | neg (k:IntKind) (a:EI)
 | cpl (k:IntKind) (a:EI)
 | ofN (n:EN)
 | mx (a b:EI)
 | mn (a b:EI)
 | get (l:EL) (o:EN)
 | uf (j:Nat) (f:List AV→Int) (as:List EV)
/-- counts -/
inductive EN
 | lit (n:Nat)
 | var (j:Nat) (x:Nat)
 | toN (a:EI)
 | add (a b:EN)
 | mul (a:EN) (z:Nat)
 | sub (a b:EN)
 | len (l:EL)
 | slen (s:ES)
 | rk (l:EL) (o:EN)
 | ro (l:EL) (o:EN)
 | rn (l:EL) (o:EN)
 | fk (b:Nat) (l:EL) (o:EN)
 | fo (l:EL) (o:EN)
 | fn (l:EL) (o:EN)
 | uf (j:Nat) (f:List AV→Nat) (as:List EV)
/-- truth values -/
inductive EB
 | lit (b:Bool)
 | var (j:Nat) (x:Bool)
 | cmp (o:BinOp) (a b:EI)
 | not (b:EB)
 | and (a b:EB)
 | eqB (a b:EB)
 | eqS (a b:ES)
 | isI (k:IntKind) (l:EL) (o:EN)
 | isB (l:EL) (o:EN)
 | isT (l:EL) (o:EN)
 | isR (l:EL) (o:EN)
 | get (l:EL) (o:EN)
 | leN (a b:EN)
 | eqN (a b:EN)
 | leaf (l:EL) (o:EN) (ls:List Lf)
 | u8s (l:EL)
 | cells (l:EL)
 | isF (b c:Nat) (l:EL) (o:EN)
 | isP (b c:Nat) (l:EL) (o:EN)
 | isNil (l:EL) (o:EN)
 | rows (l:EL) (ls:List EV)
 | uf (j:Nat) (f:List AV→Bool) (as:List EV)
/-- texts -/
inductive ES
 | lit (s:List UInt8)
 | var (j:Nat) (x:List UInt8)
 | app (a b:ES)
 | sub (s:ES) (lo hi:EN)
 | get (l:EL) (o:EN)
 | ofL (l:EL)
 | uf (j:Nat) (f:List AV→List UInt8) (as:List EV)
/-- cells -/
inductive EL
 | of (cs:List EV)
 | var (j:Nat) (x:List AV)
 | ro (n:EN)
 | set (l:EL) (o:EN) (v:EV)
 | app (a b:EL)
 | sub (l:EL) (o n:EN)
 | bytes (s:ES)
 | rep (n:EN) (l:EL)
 | row (l:EL) (k:EN)
 | put (l:EL) (k:EN) (v:EL)
 | uf (j:Nat) (f:List AV→List AV) (as:List EV)
/-- values -/
inductive EV
 | undef
 | bool (b:EB)
 | int (k:IntKind) (n:EI)
 | str (s:ES)
 | nilp
 | ptr (r:ER) (o:EN)
 | nils
 | slice (mb:Bool) (r:ER) (o n:EN)
 | nilf
 | func (f:FuncId) (cap:List EV)
 | agg (l:EL)
 | tup (vs:List EV)
 | yld (i:Nat)
/-- places -/
inductive ER
 | rw (i:Nat)
 | ro (n:EN)
 | fm (b c:Nat) (k:EN)
end
def Zu (o:BinOp) (k:IntKind) (x y:Int):Int:=
 match o with
 | .add=>k.wrap (x+y)
 | .sub=>k.wrap (x - y)
 | .mul=>k.wrap (x*y)
 | .quo=>k.wrap (x.tdiv y)
 | .rem=>x.tmod y
 | .and=>P1 k x y
 | .or=>Kh k x y
 | .xor=>Gw k x y
 | .andNot=>eJ k x y
 | .shl=>V7 k x y
 | .shr=>S4 k x y
 | _=>0
def Ov (o:BinOp) (x y:Int):Bool:=
 match o with
 | .eql=>x==y
 | .neq=>x != y
 | .lss=>decide (x<y)
 | .leq=>decide (x≤y)
 | .gtr=>decide (x>y)
 | .geq=>decide (x≥y)
 | _=>false
def leB (x y:Nat):Bool:=decide (x≤y)
def u8s (cs:List AV):Bool:=cs.all Om
def cellsB (cs:List AV):Bool:=cs.all isCell
def F8 (cs:List AV):List UInt8:=cs.map Tb
def A9 (s:List UInt8):List AV:=s.map fun b=>.int .u8 b.toNat
def A0 (cs:List AV) (o n:Nat):List AV:=(cs.drop o).take n
def repL (n:Nat) (cs:List AV):List AV:=(List.replicate n cs).flatten
def B1 (L:List AV) (k:Nat):List AV:=match L[k]? with | some (.agg cs)=>cs | _=>[]
def Dz (L:List AV) (k:Nat) (cs:List AV):List AV:=L.set k (.agg cs)
def Y0 (b:Nat) (cs:List AV) (o:Nat):Nat:=match cs[o]? with | some (.slice _ (.rw i) _ _)=>i - b | some (.ptr (.rw i) _)=>i - b | _=>0
def Hj (cs:List AV) (o:Nat):Nat:=match cs[o]? with | some (.slice _ (.rw _) f _)=>f | some (.ptr (.rw _) f)=>f | _=>0
def bN (cs:List AV) (o:Nat):Nat:=match cs[o]? with | some (.slice _ (.rw _) _ n)=>n | _=>0
def Zf (b c:Nat) (cs:List AV) (o:Nat):Bool:=match cs[o]? with | some (.slice true (.rw i) _ _)=>Nat.ble b i&&Nat.blt i (b+c) | _=>false
def isPA (b c:Nat) (cs:List AV) (o:Nat):Bool:=match cs[o]? with | some (.ptr (.rw i) _)=>Nat.ble b i&&Nat.blt i (b+c) | _=>false
def nG (cs:List AV) (o:Nat):Bool:=match cs[o]? with | some .nilp=>true | _=>false
open Classical in
noncomputable def Qx (l:List AV) (ls:List AV):Bool:=decide (∀ v∈ls,v=.agg l)
section
variable (G:Nat→List AV)
mutual
noncomputable def vI:EI→Int
 | .lit n=>n
 | .var _ x=>x
 | .bin o k a b=>Zu o k (vI a) (vI b)
 | .conv k a=>k.wrap (vI a)
 | .neg k a=>k.wrap (0 - vI a)
 | .cpl k a=>Zd k (vI a)
 | .ofN n=>(vN n:Int)
 | .mx a b=>if vI b>vI a then vI b else vI a
 | .mn a b=>if vI b<vI a then vI b else vI a
 | .get l o=>A2 (vL l) (vN o)
 | .uf _ f as=>f (vVs as)
termination_by structural x=>x
noncomputable def vN:EN→Nat
 | .lit n=>n
 | .var _ x=>x
 | .toN a=>(vI a).toNat
 | .add a b=>vN a+vN b
 | .mul a z=>vN a*z
 | .sub a b=>vN a - vN b
 | .len l=>(vL l).length
 | .slen s=>(vS s).length
 | .rk l o=>G0 (vL l) (vN o)
 | .ro l o=>H8 (vL l) (vN o)
 | .rn l o=>D1 (vL l) (vN o)
 | .fk b l o=>Y0 b (vL l) (vN o)
 | .fo l o=>Hj (vL l) (vN o)
 | .fn l o=>bN (vL l) (vN o)
 | .uf _ f as=>f (vVs as)
termination_by structural x=>x
noncomputable def vB:EB→Bool
 | .lit b=>b
 | .var _ x=>x
 | .cmp o a b=>Ov o (vI a) (vI b)
 | .not b=>!(vB b)
 | .and a b=>vB a&&vB b
 | .eqB a b=>vB a==vB b
 | .eqS a b=>vS a==vS b
 | .isI k l o=>isI k (vL l) (vN o)
 | .isB l o=>isB (vL l) (vN o)
 | .isT l o=>kD (vL l) (vN o)
 | .isR l o=>Ey (vL l) (vN o)
 | .get l o=>G8 (vL l) (vN o)
 | .leN a b=>leB (vN a) (vN b)
 | .eqN a b=>zL (vN a) (vN b)
 | .leaf l o ls=>G6 (vL l) (vN o) ls
 | .u8s l=>u8s (vL l)
 | .cells l=>cellsB (vL l)
 | .isF b c l o=>Zf b c (vL l) (vN o)
 | .isP b c l o=>isPA b c (vL l) (vN o)
 | .isNil l o=>nG (vL l) (vN o)
 | .rows l ls=>Qx (vL l) (vVs ls)
 | .uf _ f as=>f (vVs as)
termination_by structural x=>x
noncomputable def vS:ES→List UInt8
 | .lit s=>s
 | .var _ x=>x
 | .app a b=>vS a++vS b
 | .sub s lo hi=>((vS s).take (vN hi)).drop (vN lo)
 | .get l o=>bK (vL l) (vN o)
 | .ofL l=>F8 (vL l)
 | .uf _ f as=>f (vVs as)
termination_by structural x=>x
noncomputable def vL:EL→List AV
 | .of cs=>vVs cs
 | .var _ x=>x
 | .ro n=>G (vN n)
 | .set l o v=>G3 (vL l) (vN o) (vV v)
 | .app a b=>vL a++vL b
 | .sub l o n=>A0 (vL l) (vN o) (vN n)
 | .bytes s=>A9 (vS s)
 | .rep n l=>repL (vN n) (vL l)
 | .row l k=>B1 (vL l) (vN k)
 | .put l k v=>Dz (vL l) (vN k) (vL v)
 | .uf _ f as=>f (vVs as)
termination_by structural x=>x
noncomputable def vV:EV→AV
 | .undef=>.undef
 | .bool b=>.bool (vB b)
 | .int k n=>.int k (vI n)
 | .str s=>.str (vS s)
 | .nilp=>.nilp
 | .ptr r o=>.ptr (vR r) (vN o)
 | .nils=>.nils
 | .slice mb r o n=>.slice mb (vR r) (vN o) (vN n)
 | .nilf=>.nilf
 | .func f cap=>.func f (vVs cap)
 | .agg l=>.agg (vL l)
 | .tup vs=>.tup (vVs vs)
 | .yld i=>.yld i
termination_by structural x=>x
noncomputable def vVs:List EV→List AV
 | []=>[]
 | x::l=>vV x::vVs l
termination_by structural x=>x
noncomputable def vR:ER→Ref
 | .rw i=>.rw i
 | .ro n=>.ro (vN n)
 | .fm b _ k=>.rw (b+vN k)
termination_by structural x=>x
end
end
mutual
def Hk:EI→EI→Bool
 | .lit a,.lit b=>a==b
 | .var j _,.var i _=>zL j i
 | .bin o k a b,.bin o' k' a' b'=>o==o'&&(k==k'&&(Hk a a'&&Hk b b'))
 | .conv k a,.conv k' a'=>k==k'&&Hk a a'
 | .neg k a,.neg k' a'=>k==k'&&Hk a a'
 | .cpl k a,.cpl k' a'=>k==k'&&Hk a a'
 | .ofN a,.ofN b=>eqN a b
 | .mx a b,.mx a' b'=>Hk a a'&&Hk b b'
 | .mn a b,.mn a' b'=>Hk a a'&&Hk b b'
 | .get l o,.get l' o'=>eqN o o'&&X3 l l'
 | .uf j _ a,.uf j' _ a'=>zL j j'&&Ot a a'
 | _,_=>false
termination_by structural x=>x
def eqN:EN→EN→Bool
 | .lit a,.lit b=>zL a b
 | .var j _,.var i _=>zL j i
 | .toN a,.toN b=>Hk a b
 | .add a b,.add a' b'=>eqN a a'&&eqN b b'
 | .mul a z,.mul a' z'=>zL z z'&&eqN a a'
 | .sub a b,.sub a' b'=>eqN a a'&&eqN b b'
 | .len a,.len b=>X3 a b
 | .slen a,.slen b=>eqS a b
 | .rk l o,.rk l' o'=>eqN o o'&&X3 l l'
 | .ro l o,.ro l' o'=>eqN o o'&&X3 l l'
 | .rn l o,.rn l' o'=>eqN o o'&&X3 l l'
 | .fk b l o,.fk b' l' o'=>zL b b'&&(eqN o o'&&X3 l l')
 | .fo l o,.fo l' o'=>eqN o o'&&X3 l l'
 | .fn l o,.fn l' o'=>eqN o o'&&X3 l l'
 | .uf j _ a,.uf j' _ a'=>zL j j'&&Ot a a'
 | _,_=>false
termination_by structural x=>x
def eqB:EB→EB→Bool
 | .lit a,.lit b=>a==b
 | .var j _,.var i _=>zL j i
 | .cmp o a b,.cmp o' a' b'=>o==o'&&(Hk a a'&&Hk b b')
 | .not a,.not b=>eqB a b
 | .and a b,.and a' b'=>eqB a a'&&eqB b b'
 | .eqB a b,.eqB a' b'=>eqB a a'&&eqB b b'
 | .eqS a b,.eqS a' b'=>eqS a a'&&eqS b b'
 | .isI k l o,.isI k' l' o'=>k==k'&&(eqN o o'&&X3 l l')
 | .isB l o,.isB l' o'=>eqN o o'&&X3 l l'
 | .isT l o,.isT l' o'=>eqN o o'&&X3 l l'
 | .isR l o,.isR l' o'=>eqN o o'&&X3 l l'
 | .get l o,.get l' o'=>eqN o o'&&X3 l l'
 | .leN a b,.leN a' b'=>eqN a a'&&eqN b b'
 | .eqN a b,.eqN a' b'=>eqN a a'&&eqN b b'
 | .leaf l o _,.leaf l' o' _=>eqN o o'&&X3 l l'
 | .u8s l,.u8s l'=>X3 l l'
 | .cells l,.cells l'=>X3 l l'
 | .isF b _ l o,.isF b' _ l' o'=>zL b b'&&(eqN o o'&&X3 l l')
 | .isP b _ l o,.isP b' _ l' o'=>zL b b'&&(eqN o o'&&X3 l l')
 | .isNil l o,.isNil l' o'=>eqN o o'&&X3 l l'
 | .rows l ls,.rows l' ls'=>X3 l l'&&Ot ls ls'
 | .uf j _ a,.uf j' _ a'=>zL j j'&&Ot a a'
 | _,_=>false
termination_by structural x=>x
def eqS:ES→ES→Bool
 | .lit a,.lit b=>a==b
 | .var j _,.var i _=>zL j i
 | .app a b,.app a' b'=>eqS a a'&&eqS b b'
 | .sub s l h,.sub s' l' h'=>eqS s s'&&(eqN l l'&&eqN h h')
 | .get l o,.get l' o'=>eqN o o'&&X3 l l'
 | .ofL l,.ofL l'=>X3 l l'
 | .uf j _ a,.uf j' _ a'=>zL j j'&&Ot a a'
 | _,_=>false
termination_by structural x=>x
def X3:EL→EL→Bool
 | .of a,.of b=>Ot a b
 | .var j _,.var i _=>zL j i
 | .ro a,.ro b=>eqN a b
 | .set l o v,.set l' o' v'=>eqN o o'&&(eqV' v v'&&X3 l l')
 | .app a b,.app a' b'=>X3 a a'&&X3 b b'
 | .sub l a b,.sub l' a' b'=>X3 l l'&&(eqN a a'&&eqN b b')
 | .bytes a,.bytes b=>eqS a b
 | .rep n l,.rep n' l'=>eqN n n'&&X3 l l'
 | .row l k,.row l' k'=>eqN k k'&&X3 l l'
 | .put l k v,.put l' k' v'=>eqN k k'&&(X3 v v'&&X3 l l')
 | .uf j _ a,.uf j' _ a'=>zL j j'&&Ot a a'
 | _,_=>false
termination_by structural x=>x
def eqV':EV→EV→Bool
 | .undef,.undef=>true
 | .bool a,.bool b=>eqB a b
 | .int k a,.int k' b=>k==k'&&Hk a b
 | .str a,.str b=>eqS a b
 | .nilp,.nilp=>true
 | .ptr r o,.ptr r' o'=>eqR r r'&&eqN o o'
 | .nils,.nils=>true
 | .slice _ r o n,.slice _ r' o' n'=>eqR r r'&&(eqN o o'&&eqN n n')
 | .nilf,.nilf=>true
 | .func f c,.func f' c'=>zL f f'&&Ot c c'
 | .agg a,.agg b=>X3 a b
 | .tup a,.tup b=>Ot a b
 | .yld i,.yld j=>zL i j
 | _,_=>false
termination_by structural x=>x
def Ot:List EV→List EV→Bool
 | [],[]=>true
 | x::l,y::m=>eqV' x y&&Ot l m
 | _,_=>false
termination_by structural x=>x
def eqR:ER→ER→Bool
 | .rw i,.rw j=>zL i j
 | .ro a,.ro b=>eqN a b
 | .fm b _ k,.fm b' _ k'=>zL b b'&&eqN k k'
 | _,_=>false
termination_by structural x=>x
end
def E9 (a b:EB):EB:=
 match a with
 | .lit true=>b
 | .lit false=>.lit false
 | a=>match b with
  | .lit true=>a
  | .lit false=>.lit false
  | b=>.and a b
def Ep:EB→EB
 | .lit b=>.lit (!b)
 | .not b=>b
 | b=>.not b
def kB (a b:EB):EB:=
 match a,b with
 | .lit true,b=>b
 | .lit false,b=>Ep b
 | a,.lit true=>a
 | a,.lit false=>Ep a
 | a,b=>.eqB a b
def I3 (o:BinOp) (a b:EI):EB:=
 match a,b with
 | .lit x,.lit y=>.lit (Ov o x y)
 | a,b=>.cmp o a b
def Ds (o:BinOp) (k:IntKind) (a b:EI):EI:=
 match a,b with
 | .lit x,.lit y=>.lit (Zu o k x y)
 | a,b=>.bin o k a b
def mW (k:IntKind):EI→EI
 | .lit x=>.lit (k.wrap x)
 | a=>.conv k a
def uU (k:IntKind):EI→EI
 | .lit x=>.lit (k.wrap (0 - x))
 | a=>.neg k a
def uV (k:IntKind):EI→EI
 | .lit x=>.lit (Zd k x)
 | a=>.cpl k a
def Ks:EN→EI
 | .lit n=>.lit n
 | n=>.ofN n
def Ba:EI→EN
 | .lit n=>.lit n.toNat
 | .ofN n=>n
 | a=>.toN a
def O8 (a b:EN):EN:=
 match a,b with
 | .lit x,.lit y=>.lit (x+y)
 | a,.lit 0=>a
 | .lit 0,b=>b
 | .add a (.lit x),.lit y=>.add a (.lit (x+y))
 | a,b=>.add a b
def V5 (a:EN) (z:Nat):EN:=
 match z with
 | 1=>a
 | z=>match a with
  | .lit x=>.lit (x*z)
  | a=>.mul a z
def uT (a b:EN):EN:=
 match a,b with
 | .lit x,.lit y=>.lit (x - y)
 | a,.lit 0=>a
 | a,b=>.sub a b
def V6 (a b:EN):EB:=
 match a,b with
 | .lit x,.lit y=>.lit (Nat.ble x y)
 | .lit 0,_=>.lit true
 | a,b=>.leN a b
def kA (a b:EN):EB:=
 match a,b with
 | .lit x,.lit y=>.lit (zL x y)
 | a,b=>.eqN a b
def aZ (a b:ES):EB:=
 match a,b with
 | .lit x,.lit y=>.lit (x==y)
 | a,b=>.eqS a b
def uW (a b:ES):ES:=
 match a,b with
 | .lit x,.lit y=>.lit (x++y)
 | .lit [],b=>b
 | a,.lit []=>a
 | a,b=>.app a b
def Bb:EL→EN
 | .of cs=>.lit cs.length
 | .bytes s=>.slen s
 | .sub l o n=>.len (.sub l o n)
 | l=>.len l
def nI:EV→Bool
 | .agg _=>true
 | _=>false
def Rj (l:EL) (o:EN) (v:EV):EL:=
 match l,o with
 | .of cs,.lit n=>match v with
  | .agg (.of ds)=>.of (cs.take n++(ds++cs.drop (n+ds.length)))
  | .agg d=>.set (.of cs) (.lit n) (.agg d)
  | v=>.of (cs.set n v)
 | l,o=>.set l o v
def Gs (l:EL) (o n:EN):EL:=
 match l,o,n with
 | .of cs,.lit a,.lit b=>.of ((cs.drop a).take b)
 | l,o,n=>.sub l o n
def bA (a b:EL):EL:=
 match a,b with
 | .of cs,.of ds=>.of (cs++ds)
 | .of [],b=>b
 | a,.of []=>a
 | a,b=>.app a b
def Wy:ES→EL
 | .lit s=>.of (s.map fun b=>.int .u8 (.lit b.toNat))
 | s=>.bytes s
def aY (n:EN) (l:EL):EL:=
 match n,l with
 | .lit k,.of cs=>.of ((List.replicate k cs).flatten)
 | n,l=>.rep n l
def Zb:EN→Option Nat
 | .lit n=>some n
 | _=>none
def Ax:EL→Nat→Option (EB×EV)
 | .of cs,n=>match cs[n]? with
  | some v=>some (.lit true,v)
  | none=>none
 | .set l o v,n=>match Zb o,nI v with
  | some m,false=>match zL m n with
   | true=>some (V6 (.lit (n+1)) (Bb l),v)
   | false=>Ax l n
  | _,_=>none
 | _,_=>none
def rdI (k:IntKind) (l:EL) (o:EN):Option (EB×EI):=
 match Zb o with
 | some n=>match Ax l n with
  | some (c,.int k' e)=>if k=k' then some (c,e) else none
  | some _=>none
  | none=>some (.isI k l o,.get l o)
 | none=>some (.isI k l o,.get l o)
def rdB (l:EL) (o:EN):Option (EB×EB):=
 match Zb o with
 | some n=>match Ax l n with
  | some (c,.bool e)=>some (c,e)
  | some _=>none
  | none=>some (.isB l o,.get l o)
 | none=>some (.isB l o,.get l o)
structure DBlk where
 esz:Nat
 cells:EL
abbrev DHp:=List (Option DBlk)
abbrev DFr:=List EV
noncomputable def Rr (F:DFr) (n:Nat):EV:=
 List.rec (motive:=fun _=>Nat→EV) (fun _=>.undef) (fun x _ ih n=>Nat.rec (motive:=fun _=>EV) x (fun m _=>ih m) n) F n
noncomputable def tR (F:DFr) (n:Nat) (v:EV):DFr:=
 List.rec (motive:=fun _=>Nat→DFr) (fun _=>[]) (fun x xs ih n=>Nat.rec (motive:=fun _=>DFr) (v::xs) (fun m _=>x::ih m) n) F n
theorem Db:∀ (F:DFr) (n:Nat),Rr F n=F.getD n .undef
 | [],n=>rfl
 | x::F,0=>rfl
 | x::F,n+1=>by
  have:=Db F n
  show Rr F n=_;rw [this];rfl
theorem Qt:∀ (F:DFr) (n:Nat) (v:EV),tR F n v=F.set n v
 | [],n,v=>rfl
 | x::F,0,v=>rfl
 | x::F,n+1,v=>by
  have:=Qt F n v
  show x::tR F n v=_;rw [this];rfl
structure Facts where
 n:Nat
 l:List (EB×Bool)
inductive T
 | fail
 | chk (b:EB) (t:T)
 | tst (b:EB) (x y:T)
 | imp (b:EB) (t:T)
 | allI (j:Nat) (k:Int→T)
 | allN (j:Nat) (k:Nat→T)
 | allB (j:Nat) (k:Bool→T)
 | allL (j:Nat) (k:List AV→T)
 | namI (j:Nat) (e:EI) (k:Int→T)
 | namN (j:Nat) (e:EN) (k:Nat→T)
 | namB (j:Nat) (e:EB) (k:Bool→T)
 | namL (j:Nat) (e:EL) (k:List AV→T)
 | leaf (e:Ex) (F:List EV) (H:DHp)
 | ret (v:EV) (H:DHp)
inductive DHop
 | set (i:Nat) (b:DBlk)
 | new (b:DBlk)
 | app (j:Nat) (b:DBlk)
def DHop.act (H:DHp):DHop→DHp
 | .set i b=>H.set i (some b)
 | .new b=>H++[some b]
 | .app j b=>H.set j none++[some b]
def Ha (H:DHp):List DHop→DHp
 | []=>H
 | h::hs=>Ha (h.act H) hs
inductive Outs
 | one (v:EV) (hs:List DHop)
 | chk (b:EB) (x:Outs)
 | tst (b:EB) (x y:Outs)
 | namI (e:EI) (k:EI→Outs)
 | namN (e:EN) (k:EN→Outs)
 | namB (e:EB) (k:EB→Outs)
 | namL (e:EL) (k:EL→Outs)
inductive LOut
 | one (e:Ex) (F:DFr) (H:DHp)
 | chk (b:EB) (x:LOut)
 | tst (b:EB) (x y:LOut)
 | imp (b:EB) (x:LOut)
 | allI (k:EI→LOut)
 | allN (k:EN→LOut)
 | allB (k:EB→LOut)
 | allL (k:EL→LOut)
 | namI (e:EI) (k:EI→LOut)
 | namN (e:EN) (k:EN→LOut)
 | namB (e:EB) (k:EB→LOut)
 | namL (e:EL) (k:EL→LOut)
def nf:EB→EB×Bool
 | .not b=>match nf b with | (b,s)=>(b,!s)
 | .cmp .neq a b=>(.cmp .eql a b,false)
 | .cmp .geq a b=>(.cmp .lss a b,false)
 | .cmp .gtr a b=>(.cmp .lss b a,true)
 | .cmp .leq a b=>(.cmp .lss b a,false)
 | b=>(b,true)
def look (b:EB):List (EB×Bool)→Option Bool
 | []=>none
 | (c,v)::fs=>match eqB b c with
  | true=>some v
  | false=>look b fs
def maxO:Option Int→Int→Option Int
 | none,b=>some b
 | some a,b=>some (if a<b then b else a)
def minO:Option Int→Int→Option Int
 | none,b=>some b
 | some a,b=>some (if b<a then b else a)
def aN (a:EI):List (EB×Bool)→Option Int×Option Int
 | []=>match a with
  | .ofN _=>(some 0,none)
  | _=>(none,none)
 | (.cmp .eql b (.lit m),true)::fs=>match Hk a b with
  | true=>(some m,some m)
  | false=>aN a fs
 | (.cmp .lss b (.lit m),v)::fs=>match Hk a b,v,aN a fs with
  | true,true,(lo,hi)=>(lo,minO hi (m - 1))
  | true,false,(lo,hi)=>(maxO lo m,hi)
  | _,_,r=>r
 | (.cmp .lss (.lit m) b,v)::fs=>match Hk a b,v,aN a fs with
  | true,true,(lo,hi)=>(maxO lo (m+1),hi)
  | true,false,(lo,hi)=>(lo,minO hi m)
  | _,_,r=>r
 | _::fs=>aN a fs
def decR (o:BinOp) (r:Option Int×Option Int) (s:Option Int×Option Int):Option Bool:=
 match o with
 | .lss=>match r,s with
  | (lo,hi),(lo',hi')=>match hi,lo' with
   | some a,some b=>match decide (a<b),lo,hi' with
    | true,_,_=>some true
    | false,some c,some d=>if d≤c then some false else none
    | false,_,_=>none
   | _,_=>match lo,hi' with
    | some c,some d=>if d≤c then some false else none
    | _,_=>none
 | .eql=>match r,s with
  | (lo,hi),(lo',hi')=>match (match hi,lo' with | some a,some b=>decide (a<b) | _,_=>false)||(match hi',lo with | some a,some b=>decide (a<b) | _,_=>false) with
   | true=>some false
   | false=>match lo,hi,lo',hi' with
    | some a,some b,some c,some d=>if a=b∧c=d∧a=c then some true else none
    | _,_,_,_=>none
 | _=>none
def Wl (fs:List (EB×Bool)):EI→Option Int×Option Int
 | .lit n=>(some n,some n)
 | a=>aN a fs
def decN (fs:List (EB×Bool)) (b:EB):Option Bool:=
 match look b fs with
 | some v=>some v
 | none=>match b with
  | .cmp .eql x y=>match Hk x y with
   | true=>some true
   | false=>decR .eql (Wl fs x) (Wl fs y)
  | .cmp .lss x y=>match Hk x y with
   | true=>some false
   | false=>decR .lss (Wl fs x) (Wl fs y)
  | .eqS x y=>match eqS x y with
   | true=>some true
   | false=>none
  | .leN x y=>match eqN x y with
   | true=>some true
   | false=>none
  | .eqN x y=>match eqN x y with
   | true=>some true
   | false=>none
  | _=>none
def dec (fs:Facts) (b:EB):Option Bool:=
 match nf b with
 | (b,s)=>match decN fs.l b with
  | some v=>some (v==s)
  | none=>none
def Iy (fs:Facts) (b:EB) (v:Bool):Facts:=
 match nf b with
 | (b,s)=>⟨fs.n,(b,v==s)::fs.l⟩
def fresh (fs:Facts):Facts:=⟨fs.n+1,fs.l⟩
def Bz (b:EB) (t:T):T:=
 match b with
 | .lit true=>t
 | .lit false=>.fail
 | .and a b=>Bz a (Bz b t)
 | b=>.chk b t
def Ah (fs:Facts) (b:EB) (x y:Facts→T):T:=
 match b with
 | .lit true=>x fs
 | .lit false=>y fs
 | .not b=>Ah fs b y x
 | .and a b=>Ah fs a (fun fs=>Ah fs b x y) y
 | .eqB a b=>Ah fs a (fun fs=>Ah fs b x y) (fun fs=>Ah fs b y x)
 | b=>match dec fs b with
  | some true=>.chk b (x fs)
  | some false=>.chk (.not b) (y fs)
  | none=>.tst b (x (Iy fs b true)) (y (Iy fs b false))
def aT (o:Option (EB×EV)) (k:EV→T):T:=match o with | some (c,v)=>Bz c (k v) | none=>.fail
def kH:Value→EV
 | .bool b=>.bool (.lit b)
 | .int k n=>.int k (.lit n)
 | .string s=>.str (.lit s.data.toList)
 | .pointer none=>.nilp
 | .slice none 0 0=>.nils
 | .nilFunc=>.nilf
 | _=>.undef
def vZ:Value→EV
 | .agg cs=>.agg (.of (cs.toList.map kH))
 | v=>kH v
noncomputable def evD (F:DFr):Operand→EV
 | .tmp t=>Rr F t
 | .const v=>vZ v
 | .global _=>.undef
 | .func f=>.func f []
def binIntD (op:BinOp) (k:IntKind) (x y:EI):Option (EB×EV):=
 match op with
 | .add=>some (.lit true,.int k (Ds .add k x y))
 | .sub=>some (.lit true,.int k (Ds .sub k x y))
 | .mul=>some (.lit true,.int k (Ds .mul k x y))
 | .quo=>some (Ep (I3 .eql y (.lit 0)),.int k (Ds .quo k x y))
 | .rem=>some (Ep (I3 .eql y (.lit 0)),.int k (Ds .rem k x y))
 | .and=>some (.lit true,.int k (Ds .and k x y))
 | .or=>some (.lit true,.int k (Ds .or k x y))
 | .xor=>some (.lit true,.int k (Ds .xor k x y))
 | .andNot=>some (.lit true,.int k (Ds .andNot k x y))
 | .eql=>some (.lit true,.bool (I3 .eql x y))
 | .neq=>some (.lit true,.bool (Ep (I3 .eql x y)))
 | .lss=>some (.lit true,.bool (I3 .lss x y))
 | .leq=>some (.lit true,.bool (I3 .leq x y))
 | .gtr=>some (.lit true,.bool (I3 .gtr x y))
 | .geq=>some (.lit true,.bool (I3 .geq x y))
 | _=>none
def Vo (op:BinOp) (k:IntKind) (x y:EI):Option (EB×EV):=
 match op with
 | .shl=>some (I3 .leq (.lit 0) y,.int k (Ds .shl k x y))
 | .shr=>some (I3 .leq (.lit 0) y,.int k (Ds .shr k x y))
 | _=>none
def Iv:ES→EN
 | .lit s=>.lit s.length
 | s=>.slen s
def fS (op:BinOp) (x y:ES):Option (EB×EV):=
 match op with
 | .add=>some (V6 (O8 (Iv x) (Iv y)) (.lit 9223372036854775807),.str (uW x y))
 | .eql=>some (.lit true,.bool (aZ x y))
 | .neq=>some (.lit true,.bool (Ep (aZ x y)))
 | _=>none
def Iz (op:BinOp) (c:Bool) (b:EB):Option (EB×EV):=
 match op with
 | .eql=>some (.lit c,.bool b)
 | .neq=>some (.lit c,.bool (Ep b))
 | _=>none
def Eo (P:Program) (t:TypeId) (l:EL) (o:EN):Option (EB×EV):=
 match P.underlying t with
 | some (.int k)=>match rdI k l o with
  | some (c,e)=>some (c,.int k e)
  | none=>none
 | some .bool=>match rdB l o with
  | some (c,e)=>some (c,.bool e)
  | none=>none
 | some (.struct _)=>match I0 P t with
  | some z=>some (V6 (O8 o (.lit z)) (Bb l),.agg (Gs l o (.lit z)))
  | none=>none
 | some (.array _ _)=>match I0 P t with
  | some z=>some (V6 (O8 o (.lit z)) (Bb l),.agg (Gs l o (.lit z)))
  | none=>none
 | some _=>match Zb o with
  | some n=>Ax l n
  | none=>none
 | none=>none
def Xj (P:Program) (rec:TypeId→EV→EV→Option (EB×EB)) (xs ys:EL):List Field→Option (EB×EB)
 | []=>some (.lit true,.lit true)
 | f::fs=>
  if f.name ≠ "_" then
   match Eo P f.type xs (.lit f.offset),Eo P f.type ys (.lit f.offset) with
   | some (c1,a),some (c2,b)=>
    match rec f.type a b,Xj P rec xs ys fs with
    | some (c3,r),some (c4,s)=>some (E9 c1 (E9 c2 (E9 c3 c4)),E9 r s)
    | _,_=>none
   | _,_=>none
  else Xj P rec xs ys fs
def bU (P:Program) (rec:TypeId→EV→EV→Option (EB×EB)) (e:TypeId) (z:Nat) (xs ys:EL):List Nat→Option (EB×EB)
 | []=>some (.lit true,.lit true)
 | i::is=>
   match Eo P e xs (.lit (i*z)),Eo P e ys (.lit (i*z)) with
   | some (c1,a),some (c2,b)=>
    match rec e a b,bU P rec e z xs ys is with
    | some (c3,r),some (c4,s)=>some (E9 c1 (E9 c2 (E9 c3 c4)),E9 r s)
    | _,_=>none
   | _,_=>none
def fJ (P:Program):Nat→TypeId→EV→EV→Option (EB×EB)
 | 0,_,_,_=>none
 | n+1,t,x,y=>
  match P.underlying t with
  | some (.int _)=>match x,y with
   | .int k a,.int k' b=>if k=k' then some (.lit true,I3 .eql a b) else none
   | _,_=>none
  | some .bool=>match x,y with
   | .bool a,.bool b=>some (.lit true,kB a b)
   | _,_=>none
  | some .string=>match x,y with
   | .str a,.str b=>some (.lit true,aZ a b)
   | _,_=>none
  | some (.struct fs)=>match x,y with
   | .agg xs,.agg ys=>match P.stoodInHeld t with
    | true=>none
    | false=>Xj P (fJ P n) xs ys fs.toList
   | _,_=>none
  | some (.array m e)=>match x,y with
   | .agg xs,.agg ys=>match I0 P e with
    | some z=>bU P (fJ P n) e z xs ys (List.range m)
    | none=>none
   | _,_=>none
  | _=>none
def eqA1 (P:Program) (t:TypeId) (as:List AV):Bool:=match as with
 | [x,y]=>match Su P 10 t x y with
  | some (c,_)=>c
  | none=>false
 | _=>false
def eqA2 (P:Program) (t:TypeId) (as:List AV):Bool:=match as with
 | [x,y]=>match Su P 10 t x y with
  | some (_,b)=>b
  | none=>false
 | _=>false
def vE:EL→Bool
 | .of _=>true
 | _=>false
def eqAD (P:Program) (t:TypeId) (xs ys:EL):Option (EB×EB):=
 match vE xs||vE ys||(match I0 P t with | some z=>Nat.ble z 8 | none=>false) with
 | true=>fJ P 10 t (.agg xs) (.agg ys)
 | false=>some (.uf (100000+t) (eqA1 P t) [.agg xs,.agg ys],.uf (200000+t) (eqA2 P t) [.agg xs,.agg ys])
def binD (P:Program) (op:BinOp) (t:TypeId) (x y:EV):Option (EB×EV):=
 match x,y with
 | .int k a,.int k' b=>
  match op with
  | .shl | .shr=>Vo op k a b
  | _=>if k=k' then binIntD op k a b else none
 | .str a,.str b=>fS op a b
 | .bool a,.bool b=>Iz op (Xb (P.underlying t)) (kB a b)
 | .ptr _ _,.nilp=>Iz op (Jo (P.underlying t)) (.lit false)
 | .nilp,.ptr _ _=>Iz op (Jo (P.underlying t)) (.lit false)
 | .nilp,.nilp=>Iz op (Jo (P.underlying t)) (.lit true)
 | .slice false _ _ _,.nils=>Iz op (Ih (P.underlying t)) (.lit false)
 | .nils,.nils=>Iz op (Ih (P.underlying t)) (.lit true)
 | .func _ _,.nilf=>Iz op (Li (P.underlying t)) (.lit false)
 | .nilf,.nilf=>Iz op (Li (P.underlying t)) (.lit true)
 | .agg xs,.agg ys=>
  match P.eqGuardType P.depth t with
  | true=>none
  | false=>match eqAD P t xs ys with
   | some (c,b)=>match op with
    | .eql=>some (c,.bool b)
    | .neq=>some (c,.bool (Ep b))
    | _=>none
   | none=>none
 | _,_=>none
def unD (op:UnOp) (x:EV):Option (EB×EV):=
 match op,x with
 | .neg,.int k n=>some (.lit true,.int k (uU k n))
 | .xor,.int k n=>some (.lit true,.int k (uV k n))
 | .not,.bool b=>some (.lit true,.bool (Ep b))
 | _,_=>none
def wB (P:Program) (src dst:TypeId) (x:EV):Option (EB×EV):=
 match P.underlying src,P.underlying dst,x with
 | some _,some (.int k),.int _ n=>some (.lit true,.int k (mW k n))
 | some _,some .string,.str s=>some (.lit true,.str s)
 | _,_,_=>none
def nY (P:Program) (s:TypeId) (x:EV) (f:Nat):Option (EB×EV):=
 match P.underlying s,x with
 | some (.struct fs),.ptr r off=>
  match fs[f]? with
  | some fd=>
   match I0 P fd.type with
   | some 0=>none
   | some _=>some (.lit true,.ptr r (O8 off (.lit fd.offset)))
   | none=>none
  | none=>none
 | _,_=>none
def nJ (P:Program) (t:TypeId) (x i:EV):Option (EB×EV):=
 match i with
 | .int _ i=>
  match P.underlying t,x with
  | some (.array len e),.ptr r off=>
   match I0 P e with
   | some z=>some (E9 (I3 .leq (.lit 0) i) (I3 .lss i (.lit len)),.ptr r (O8 (V5 (Ba i) z) off))
   | none=>none
  | some (.slice e),.slice _ r off len=>
   match I0 P e with
   | some z=>some (E9 (I3 .leq (.lit 0) i) (I3 .lss i (Ks len)),.ptr r (O8 (V5 (Ba i) z) off))
   | none=>none
  | _,_=>none
 | _=>none
def Ju (x:Option EV) (d:EI):Option EI:=
 match x with
 | none=>some d
 | some (.int _ i)=>some i
 | some _=>none
def lJ (P:Program) (t:TypeId) (x:EV) (lo hi:Option EV):Option (EB×EV):=
 match P.underlying t,x with
 | some (.slice e),.slice mb r off len=>
  match I0 P e,Ju lo (.lit 0),Ju hi (Ks len) with
  | some z,some l,some h=>some (E9 (I3 .leq (.lit 0) l) (E9 (I3 .leq l h) (I3 .leq h (Ks len))),.slice mb r (O8 (V5 (Ba l) z) off) (uT (Ba h) (Ba l)))
  | _,_,_=>none
 | some (.slice e),.nils=>
  match I0 P e,Ju lo (.lit 0),Ju hi (.lit 0) with
  | some _,some l,some h=>some (E9 (I3 .leq (.lit 0) l) (E9 (I3 .leq l h) (I3 .leq h (.lit 0))),.nils)
  | _,_,_=>none
 | some .string,.str s=>
  match Ju lo (.lit 0),Ju hi (Ks (Iv s)) with
  | some l,some h=>some (E9 (I3 .leq (.lit 0) l) (E9 (I3 .leq l h) (I3 .leq h (Ks (Iv s)))),.str (.sub s (Ba l) (Ba h)))
  | _,_=>none
 | _,_=>none
def Z7:EV→EL
 | .agg cs=>cs
 | v=>.of [v]
def bI:EV→Bool
 | .undef=>false
 | _=>true
def Xa:EV→Bool
 | .undef | .agg _ | .tup _=>false
 | _=>true
def Mv:EL→EB
 | .of cs=>.lit (cs.all Xa)
 | .sub l o n=>.cells (.sub l o n)
 | l=>.cells l
def Ku (v:EV):EB:=
 match v with
 | .agg l=>Mv l
 | v=>.lit (Xa v)
def Ph (v:EV) (z:Nat):EB:=
 match v with
 | .agg l=>kA (Bb l) (.lit z)
 | _=>.lit (zL 1 z)
def Ru (place:Nat→Option (Nat×Nat)) (cells:EL):List (Nat×EV)→Option (EB×EL)
 | []=>some (.lit true,cells)
 | (i,v)::rest=>
  match place i with
  | none=>none
  | some (off,size)=>
   match Ru place (Rj cells (.lit off) v) rest with
   | none=>none
   | some (c,r)=>match bI v with
    | true=>some (E9 (Ph v size) (E9 (V6 (.lit (off+size)) (Bb cells)) c),r)
    | false=>none
def Ki (P:Program) (t:TypeId):Option EV:=
 match P.info? t with
 | some i=>match i.zero with
  | some z=>some (vZ z)
  | none=>none
 | none=>none
def oQ (P:Program) (t:TypeId) (parts:List (Nat×EV)):Option (EB×EV):=
 match P.underlying t,Ki P t with
 | some (.struct fs),some (.agg z)=>
  match Ia P fs.toList with
  | some ps=>
   match Ru (fun i=>ps[i]?) z parts with
   | some (c,cs)=>some (c,.agg cs)
   | none=>none
  | none=>none
 | some (.array _ e),some (.agg z)=>
  match I0 P e with
  | some n=>
   match Ru (fun i=>some (i*n,n)) z parts with
   | some (c,cs)=>some (c,.agg cs)
   | none=>none
  | none=>none
 | _,_=>none
def lenD (P:Program) (t:TypeId) (x:EV):Option (EB×EV):=
 match P.underlying t,x with
 | some .string,.str s=>some (.lit true,.int .i64 (Ks (Iv s)))
 | some (.array n _),_=>some (.lit true,.int .i64 (.lit n))
 | some (.slice _),.slice _ _ _ n=>some (.lit true,.int .i64 (Ks n))
 | some (.slice _),.nils=>some (.lit true,.int .i64 (.lit 0))
 | _,_=>none
def capD (P:Program) (t:TypeId) (x:EV):Option (EB×EV):=
 match P.underlying t,x with
 | some (.slice _),.nils=>some (.lit true,.int .i64 (.lit 0))
 | _,_=>none
def maxD (x y:EV):Option (EB×EV):=
 match x,y with
 | .int k a,.int k' b=>if k=k' then some (.lit true,.int k (.mx a b)) else none
 | _,_=>none
def minD (x y:EV):Option (EB×EV):=
 match x,y with
 | .int k a,.int k' b=>if k=k' then some (.lit true,.int k (.mn a b)) else none
 | _,_=>none
def uQ (c a b:EV):Option (EB×EV):=
 match c with
 | .bool (.lit true)=>some (.lit true,a)
 | .bool (.lit false)=>some (.lit true,b)
 | _=>none
def Ud (x:EV):Option (EB×EV):=
 match x with
 | .ptr r o=>some (.lit true,.ptr r o)
 | .func f c=>some (.lit true,.func f c)
 | .slice m r o n=>some (.lit true,.slice m r o n)
 | _=>none
noncomputable def jX (P:Program) (F:DFr) (op:Op):Option (EB×EV):=
 match op with
 | .move x=>some (.lit true,evD F x)
 | .assign x=>some (.lit true,evD F x)
 | .pick c a b=>uQ (evD F c) (evD F a) (evD F b)
 | .nilCheck x=>Ud (evD F x)
 | .binOp op t x y _=>binD P op t (evD F x) (evD F y)
 | .unOp op _ x=>unD op (evD F x)
 | .convert s d x=>wB P s d (evD F x)
 | .fieldAddr s x f=>nY P s (evD F x) f
 | .indexAddr t x i=>nJ P t (evD F x) (evD F i)
 | .slice t x lo hi none=>lJ P t (evD F x) (lo.map (evD F)) (hi.map (evD F))
 | .build t parts=>oQ P t (parts.toList.map fun p=>(p.1,evD F p.2))
 | .extract x i=>match evD F x with
  | .tup vs=>match vs[i]? with
   | some v=>some (.lit true,v)
   | none=>none
  | _=>none
 | .makeFunc (.func f) first cap=>if first.size=0 then some (.lit true,.func f (cap.toList.map (evD F))) else none
 | .call { callee:=.builtin .len,args,argTypes }=>
  match args.toList,argTypes.toList with
  | [x],[t]=>lenD P t (evD F x)
  | _,_=>none
 | .call { callee:=.builtin .cap,args,argTypes }=>
  match args.toList,argTypes.toList with
  | [x],[t]=>capD P t (evD F x)
  | _,_=>none
 | .call { callee:=.builtin .max,args,.. }=>
  match args.toList with
  | [x,y]=>maxD (evD F x) (evD F y)
  | _=>none
 | .call { callee:=.builtin .min,args,.. }=>
  match args.toList with
  | [x,y]=>minD (evD F x) (evD F y)
  | _=>none
 | _=>none
def bJ (b:DBlk):Bool:=zL b.esz 4294967291
def Bw (z:Nat):Nat→DHp→Nat→Option (List EV)
 | _,_,0=>some []
 | j,some ⟨z',.row l (.lit i)⟩::H,n+1=>match zL z z'&&zL i j with
  | true=>match Bw z (j+1) H n with
   | some ls=>some (.agg l::ls)
   | none=>none
  | false=>none
 | _,_,_+1=>none
def Xi (H:DHp) (b c:Nat):Option (Nat×EL×List EV):=
 match H.drop b with
 | some ⟨z,.row l (.lit _)⟩::_=>match zL z 4294967291 with
  | true=>none
  | false=>match Bw z 0 (H.drop b) c with
   | some ls=>some (z,l,ls)
   | none=>none
 | _=>none
def Xf (b c z:Nat) (l:EL):List DHop:=(List.range c).map fun j=>.set (b+j) ⟨z,.row l (.lit j)⟩
def Io (H:DHp):ER→Option (EB×EL)
 | .rw i=>match H[i]? with
  | some (some b)=>match bJ b with
   | true=>none
   | false=>some (.lit true,b.cells)
  | _=>none
 | .ro n=>some (.lit true,.ro n)
 | .fm b c k=>match Xi H b c with
  | some (_,l,ls)=>some (E9 (V6 (O8 k (.lit 1)) (.lit c)) (.rows l ls),.row l k)
  | none=>none
def vA (l:Lf) (cs:EL) (off:EN):EV:=
 match l with
 | .int k=>.int k (.get cs off)
 | .bool=>.bool (.get cs off)
 | .str=>.str (.get cs off)
 | .sl=>.slice true (.ro (.rk cs off)) (.ro cs off) (.rn cs off)
def Pv (cs:EL):EN→List Lf→List EV
 | _,[]=>[]
 | off,l::ls=>vA l cs off::Pv cs (O8 off (.lit 1)) ls
def mN (P:Program) (t:TypeId) (cs:EL) (off:EN):Option (EB×EV):=
 match P.underlying t with
 | some (.int k)=>some (.isI k cs off,.int k (.get cs off))
 | some .bool=>some (.isB cs off,.bool (.get cs off))
 | some .string=>some (.isT cs off,.str (.get cs off))
 | some (.slice _)=>some (.isR cs off,.slice true (.ro (.rk cs off)) (.ro cs off) (.rn cs off))
 | some (.struct _)=>match I0 P t,Wz P 10 t with
  | some z,some ls=>match zL ls.length z with
   | true=>some (.leaf cs off ls,.agg (.of (Pv cs off ls)))
   | false=>none
  | _,_=>none
 | some (.array _ _)=>match I0 P t,Wz P 10 t with
  | some z,some ls=>match zL ls.length z with
   | true=>some (.leaf cs off ls,.agg (.of (Pv cs off ls)))
   | false=>none
  | _,_=>none
 | _=>none
def zG (P:Program) (r:ER) (t:TypeId) (cs:EL) (off:EN):Option (EB×EV):=
 match r with
 | .rw _=>Eo P t cs off
 | .ro _=>mN P t cs off
 | .fm _ _ _=>Eo P t cs off
def kC (P:Program) (H:DHp) (t:TypeId) (r:ER) (off:EN):Option (EB×EV):=
 match Io H r with
 | some (c0,cs)=>match zG P r t cs off with
  | some (c,v)=>some (E9 c0 c,v)
  | none=>none
 | none=>none
def vD (cs:List AV) (o:Nat):Bool:=match cs[o]? with | some (.slice true (.ro _) _ _)=>true | _=>false
def isRXU:List AV→Bool:=fun vs=>match vs with
 | [.agg cs,.int _ o]=>vD cs o.toNat
 | _=>false
inductive FL where
 | int (k:IntKind)
 | bool
 | sl (b c:Nat)
def famFs (rec:TypeId→Option (List FL)):Nat→List Field→Option (List FL)
 | _,[]=>some []
 | acc,f::fs=>
  match zL f.offset acc with
  | true=>match rec f.type with
   | some a=>match famFs rec (acc+a.length) fs with
    | some b=>some (a++b)
    | none=>none
   | none=>none
  | false=>none
def famLs (P:Program) (fam:TypeId→Option (Nat×Nat)):Nat→TypeId→Option (List FL)
 | 0,_=>none
 | n+1,t=>
  match P.underlying t with
  | some (.int k)=>some [.int k]
  | some .bool=>some [.bool]
  | some (.slice _)=>match fam t with
   | some (b,c)=>some [.sl b c]
   | none=>none
  | some (.struct fs)=>famFs (famLs P fam n) 0 fs.toList
  | _=>none
def Xh (l:EL) (o:EN):FL→EV
 | .int k=>.int k (.get l o)
 | .bool=>.bool (.get l o)
 | .sl b c=>match c with
  | 0=>.slice true (.ro (.rk l o)) (.ro l o) (.rn l o)
  | _=>.slice true (.fm b c (.fk b l o)) (.fo l o) (.fn l o)
def Xg (l:EL) (o:EN):FL→EB
 | .int k=>.isI k l o
 | .bool=>.isB l o
 | .sl b c=>match c with
  | 0=>.uf 1099 isRXU [.agg l,.int .i64 (.ofN o)]
  | _=>.isF b c l o
def bR (l:EL):EN→List FL→List EV
 | _,[]=>[]
 | o,f::fs=>Xh l o f::bR l (O8 o (.lit 1)) fs
def kE (l:EL):EN→List FL→EB
 | _,[]=>.lit true
 | o,f::fs=>E9 (Xg l o f) (kE l (O8 o (.lit 1)) fs)
inductive FamR where
 | val (c:EB) (v:EV)
 | ptr (n c:EB) (v:EV)
def nZ (fam:TypeId→Option (Nat×Nat)) (P:Program) (t:TypeId) (cs:EL) (off:EN):Option FamR:=
 match fam t with
 | none=>none
 | some (b,c)=>match P.underlying t with
  | some (.struct _)=>match vE cs with
   | true=>none
   | false=>match I0 P t,famLs P fam 10 t with
    | some z,some ls=>match zL ls.length z&&Nat.ble 1 z with
     | true=>some (.val (kE cs off ls) (.agg (.of (bR cs off ls))))
     | false=>none
    | _,_=>none
  | some (.slice _)=>match Eo P t cs off with
   | some _=>none
   | none=>some (.val (Xg cs off (.sl b c)) (Xh cs off (.sl b c)))
  | some (.pointer _)=>match Eo P t cs off with
   | some _=>none
   | none=>some (.ptr (.isNil cs off) (.isP b c cs off) (.ptr (.fm b c (.fk b cs off)) (.fo cs off)))
  | _=>none
noncomputable def oE (fam:TypeId→Option (Nat×Nat)) (P:Program) (F:DFr) (H:DHp) (op:Op):Option (EB×FamR):=
 match op with
 | .load t a=>match evD F a with
  | .ptr r off=>match r with
   | .ro _=>none
   | r=>match Io H r with
    | some (c0,cs)=>match nZ fam P t cs off with
     | some x=>some (c0,x)
     | none=>none
    | none=>none
  | _=>none
 | .field t x f=>
  match P.underlying t,evD F x with
  | some (.struct fs),.agg cs=>match fs[f]? with
   | some fd=>match nZ fam P fd.type cs (.lit fd.offset) with
    | some x=>some (.lit true,x)
    | none=>none
   | none=>none
  | _,_=>none
 | .index t x i=>
  match P.underlying t,evD F x,evD F i with
  | some (.array len e),.agg cs,.int _ i=>match I0 P e with
   | some z=>match nZ fam P e cs (V5 (Ba i) z) with
    | some x=>some (E9 (I3 .leq (.lit 0) i) (I3 .lss i (.lit len)),x)
    | none=>none
   | none=>none
  | _,_,_=>none
 | _=>none
def fB (fs:Facts) (o:EB×FamR) (k:Facts→EV→T):T:=
 match o with
 | (c0,.val c v)=>Bz c0 (Bz c (k fs v))
 | (c0,.ptr n c v)=>Bz c0 (Ah fs n (fun fs=>k fs .nilp) (fun fs=>Bz c (k fs v)))
def xL (cs:EL) (off n:EN):EB×EV:=
 (E9 (V6 (O8 off n) (Bb cs)) (.u8s (Gs cs off n)),.str (.ofL (Gs cs off n)))
noncomputable def jV (P:Program) (F:DFr) (H:DHp) (op:Op):Option (EB×EV):=
 match op with
 | .load t a=>match evD F a with
  | .ptr r off=>kC P H t r off
  | _=>none
 | .field t x f=>
  match P.underlying t,evD F x with
  | some (.struct fs),.agg cs=>match fs[f]? with
   | some fd=>Eo P fd.type cs (.lit fd.offset)
   | none=>none
  | _,_=>none
 | .index t x i=>
  match P.underlying t,evD F x,evD F i with
  | some (.array len e),.agg cs,.int _ i=>match I0 P e with
   | some z=>match Eo P e cs (V5 (Ba i) z) with
    | some (c,v)=>some (E9 (I3 .leq (.lit 0) i) (E9 (I3 .lss i (.lit len)) c),v)
    | none=>none
   | none=>none
  | _,_,_=>none
 | .convert s d x=>
  match W3 P s&&Z0 P d,evD F x with
  | true,.nils=>some (.lit true,.str (.lit []))
  | true,.slice _ r off n=>match Io H r with
   | some (c0,cs)=>match xL cs off n with
    | (c,v)=>some (E9 c0 c,v)
   | none=>none
  | _,_=>none
 | _=>none
noncomputable def Wg (F:DFr) (op:Op):Option ER:=
 match op with
 | .load _ a=>match evD F a with
  | .ptr r _=>some r
  | _=>none
 | .convert _ _ x=>match evD F x with
  | .slice _ r _ _=>some r
  | _=>none
 | _=>none
def T7 (H:DHp):ER:=.rw H.length
def srcD (H:DHp) (z:Nat) (x:EV):Option (EB×EN×EL):=
 match x with
 | .nils=>some (.lit true,.lit 0,.of [])
 | .slice _ r off m=>match Io H r with
  | some (c0,cs)=>some (E9 c0 (E9 (V6 (O8 off (V5 m z)) (Bb cs)) (Mv (Gs cs off (V5 m z)))),m,Gs cs off (V5 m z))
  | none=>none
 | .str s=>match zL z 1 with
  | true=>some (.lit true,Iv s,Wy s)
  | false=>none
 | _=>none
def Rm (z:Option EV) (n:Nat):Bool:=match z with
 | some v=>match Z7 v with
  | .of cs=>zL cs.length n
  | _=>false
 | none=>false
def Xr (P:Program) (H:DHp) (t:TypeId) (s x:EV):Option (EB×EV×DHop):=
 match P.underlying t with
 | some (.slice e)=>
  match P.info? e,Ki P e with
  | some i,some zv=>
   match Ea i.size&&(Nat.ble 1 i.bytes&&Rm (some zv) i.size) with
   | false=>none
   | true=>
   match srcD H i.size x with
   | some (c,m,xs)=>
    match s with
    | .nils=>some (E9 c (V6 (V5 m i.bytes) (.lit 140737488355328)),.slice true (T7 H) (.lit 0) m,.new ⟨i.size,xs⟩)
    | .slice mb (.rw j) (.lit 0) (.lit 0)=>
     match H[j]? with
     | some (some b)=>match zL b.esz i.size with
      | true=>some (E9 c (V6 (V5 m i.bytes) (.lit 140737488355328)),.slice mb (T7 H) (.lit 0) m,.app j ⟨i.size,xs⟩)
      | false=>none
     | _=>none
    | .slice mb (.rw j) (.lit 0) (.mul n 1)=>
     match H[j]? with
     | some (some b)=>match zL b.esz i.size with
      | true=>some (E9 c (E9 (V6 (V5 (O8 n m) i.bytes) (.lit 140737488355328)) (V6 (V5 n i.size) (Bb b.cells))),.slice mb (T7 H) (.lit 0) (O8 n m),.app j ⟨i.size,bA (Gs b.cells (.lit 0) (V5 n i.size)) xs⟩)
      | false=>none
     | _=>none
    | .slice mb (.rw j) (.lit 0) n=>
     match H[j]? with
     | some (some b)=>match zL b.esz i.size with
      | true=>some (E9 c (E9 (V6 (V5 (O8 n m) i.bytes) (.lit 140737488355328)) (kA (Bb b.cells) (V5 n i.size))),.slice mb (T7 H) (.lit 0) (O8 n m),.app j ⟨i.size,bA b.cells xs⟩)
      | false=>none
     | _=>none
    | _=>none
   | none=>none
  | _,_=>none
 | _=>none
def Wx (l:EL) (o:EN) (v:EV) (z:Nat):EL:=
 match v with
 | .agg d=>match vE d,l,o with
  | false,.of cs,.lit 0=>match zL cs.length z with
   | true=>d
   | false=>Rj l o v
  | _,_,_=>Rj l o v
 | v=>Rj l o v
def Vq (z:Nat) (as:List AV):Int:=match as with
 | [.int _ n]=>n*z
 | _=>0
def Mu (P:Program) (H:DHp) (t:TypeId) (s x:EV):Option (EB×EV×DHop):=
 match P.underlying t,s,x with
 | some (.slice e),.nils,.int .i64 n=>
  match P.info? e,Ki P e with
  | some i,some zv=>match Ea i.size&&(Nat.ble 1 i.bytes&&(Rm (some zv) i.size&&Nat.ble 1 i.size)) with
   | true=>some (E9 (I3 .leq (.lit 0) n) (I3 .leq (mkBigD n i.bytes) (.lit 140737488355328)),.slice true (T7 H) (.lit 0) (Ba n),.new ⟨i.size,aY (Ba n) (Z7 zv)⟩)
   | false=>none
  | _,_=>none
 | _,_,_=>none
where
 mkBigD (c:EI) (z:Nat):EI:=match c with
  | .lit n=>.lit (n*z)
  | c=>.uf (300000+z) (Vq z) [.int .i64 c]
def oP (P:Program) (H:DHp) (t:TypeId) (x:EV):Option (EB×EV×DHop):=
 match P.underlying t,x with
 | some (.slice e),.slice _ (.rw j) off n=>
  match I0 P e,Ki P e,H[j]? with
  | some z,some zv,some (some b)=>match bJ b||!(Rm (some zv) z&&Nat.ble 1 z) with
   | true=>none
   | false=>some (E9 (V6 (.lit 1) n) (E9 (Mv (Z7 zv)) (V6 (O8 off (V5 n z)) (Bb b.cells))),.tup [],.set j ⟨b.esz,Rj b.cells off (.agg (aY n (Z7 zv)))⟩)
  | _,_,_=>none
 | _,_=>none
noncomputable def Ox (P:Program) (F:DFr) (H:DHp) (op:Op):Option (EB×EV×DHop):=
 match op with
 | .store t a x=>
  match evD F a,I0 P t with
  | .ptr (.rw i) off,some z=>match H[i]? with
   | some (some b)=>match bJ b with
    | true=>none
    | false=>some (E9 (Ku (evD F x)) (E9 (Ph (evD F x) z) (V6 (O8 off (.lit z)) (Bb b.cells))),.tup [],.set i ⟨b.esz,Wx b.cells off (evD F x) z⟩)
   | _=>none
  | _,_=>none
 | .alloc e=>match Ki P e with
  | some z=>some (.lit true,.ptr (T7 H) (.lit 0),.new ⟨1,Z7 z⟩)
  | none=>none
 | .box _ x=>match bI (evD F x) with
  | true=>some (.lit true,.ptr (T7 H) (.lit 0),.new ⟨1,Z7 (evD F x)⟩)
  | false=>none
 | .buildSlice t n parts=>
  match P.underlying t with
  | some (.slice e)=>match I0 P e,Ki P e with
   | some z,some zv=>
    match Z7 zv with
    | .of cs=>
     match Ea z&&(Nat.ble (n*z) 16777216&&zL cs.length z) with
     | true=>match Ru (fun i=>some (i*z,z)) (.of ((List.replicate n cs).flatten)) (parts.toList.map fun p=>(p.1,evD F p.2)) with
      | some (c,cs)=>some (c,.slice false (T7 H) (.lit 0) (.lit n),.new ⟨z,cs⟩)
      | none=>none
     | false=>none
    | _=>none
   | _,_=>none
  | _=>none
 | .makeSlice t l c=>
  match P.underlying t,evD F l,evD F c with
  | some (.slice e),.int _ l,.int _ c=>match P.info? e,Ki P e with
   | some i,some zv=>match Ea i.size&&(Rm (some zv) i.size&&Nat.ble 1 i.size) with
    | true=>some (E9 (I3 .leq (.lit 0) l) (E9 (I3 .leq l c) (E9 (I3 .leq (mkBig c i.bytes) (.lit 140737488355328)) (I3 .leq c (.lit 140737488355328)))),.slice false (T7 H) (.lit 0) (Ba l),.new ⟨i.size,aY (Ba l) (Z7 zv)⟩)
    | false=>none
   | _,_=>none
  | _,_,_=>none
 | .convert s d x=>
  match Z0 P s&&W3 P d,evD F x with
  | true,.str s=>some (V6 (Iv s) (.lit 140737488355328),.slice false (T7 H) (.lit 0) (Iv s),.new ⟨1,Wy s⟩)
  | false,.slice mb (.rw i) off n=>match W3 P s&&zL s d with
   | true=>match H[i]? with
    | some (some b)=>match bJ b with
     | true=>none
     | false=>some (V6 (.lit 1) n,.slice mb (.rw i) off n,.set i b)
    | _=>none
   | false=>none
  | _,_=>none
 | .call { callee:=.builtin .append,args,argTypes }=>
  match args.toList,argTypes.toList with
  | [s,x],[t,u]=>match P.underlying u with
   | some (.slice _)=>Xr P H t (evD F s) (evD F x)
   | some .string=>Xr P H t (evD F s) (evD F x)
   | some (.int _)=>Mu P H t (evD F s) (evD F x)
   | _=>none
  | _,_=>none
 | .call { callee:=.builtin .clear,args,argTypes }=>
  match args.toList,argTypes.toList with
  | [x],[t]=>oP P H t (evD F x)
  | _,_=>none
 | _=>none
where
 mkBig (c:EI) (z:Nat):EI:=match c with
  | .lit n=>.lit (n*z)
  | c=>.uf (300000+z) (Vq z) [.int .i64 c]
noncomputable def cQ (P:Program) (F:DFr) (H:DHp) (op:Op):Option (EB×List DHop):=
 match op with
 | .store t a x=>
  match evD F a,I0 P t with
  | .ptr (.fm b c k) off,some z=>match Xi H b c with
   | some (z0,l,ls)=>some (E9 (V6 (O8 k (.lit 1)) (.lit c)) (E9 (.rows l ls) (E9 (V6 (O8 k (.lit 1)) (.len l)) (E9 (Ku (evD F x)) (E9 (Ph (evD F x) z) (V6 (O8 off (.lit z)) (Bb (.row l k))))))),Xf b c z0 (.put l k (Wx (.row l k) off (evD F x) z)))
   | none=>none
  | _,_=>none
 | _=>none
noncomputable def Sb (F:DFr) (op:Op):Option (FuncId×List EV):=
 match op with
 | .call { callee:=.value f,args,.. }=>match evD F f with
  | .func g cap=>some (g,args.toList.map (evD F)++cap)
  | _=>none
 | _=>none
noncomputable def cN (F:DFr) (op:Op):Option (Nat×List EV):=
 match op with
 | .call { callee:=.value f,args,.. }=>match evD F f with
  | .yld i=>some (i,args.toList.map (evD F))
  | _=>none
 | _=>none
noncomputable def dF (P:Program) (F:DFr) (H:DHp):ResultVar→Option (EB×EV)
 | .tmp t=>some (.lit true,Rr F t)
 | .cell a t=>match Rr F a with
  | .ptr r off=>kC P H t r off
  | _=>none
noncomputable def Pm (P:Program) (F:DFr) (H:DHp):List ResultVar→Option (EB×List EV)
 | []=>some (.lit true,[])
 | x::xs=>match dF P F H x with
  | some (c,v)=>match Pm P F H xs with
   | some (d,r)=>some (E9 c d,v::r)
   | none=>none
  | none=>none
noncomputable def resD (P:Program) (fn:Func) (F:DFr) (H:DHp):Option (EB×EV):=
 match Pm P F H fn.results.toList with
 | some (c,[v])=>some (c,v)
 | some (c,vs)=>some (c,.tup vs)
 | none=>none
inductive DTrK where
 | still
 | read (r:ER)
 | write
structure cK where
 kd:DTrK
 len:Nat
 hs:List DHop
def Pd (i:Nat) (len:Nat):List DHop→Bool
 | []=>false
 | .set j _::hs=>j==i||Pd i len hs
 | .new _::hs=>len==i||Pd i (len+1) hs
 | .app j _::hs=>j==i||(len==i||Pd i (len+1) hs)
def Pc (r:ER) (len:Nat) (hs:List DHop):Bool:=
 match r with
 | .rw i=>Pd i len hs
 | .ro _=>false
 | .fm _ _ _=>true
def fU (x y:cK):Bool:=
 match x.kd,y.kd with
 | .write,.write=>false
 | .write,.read r=>!Pc r x.len x.hs
 | .read r,.write=>!Pc r y.len y.hs
 | _,_=>true
def fL (all:List Oper) (trs:List cK):Bool:=
 let ms:=Er all []
 Qc 0 all&&(List.range all.length).all fun j=>(List.range j).all fun i=>
  (ms.getD j 0).testBit i ||
  (match all[i]?,all[j]?,trs[i]?,trs[j]? with
   | some x,some y,some a,some b=>Qh all x y&&fU a b
   | _,_,_,_=>false)
def Bq:Bool→Nat→DHp→Option (List DHop)
 | false,_,[]=>some []
 | true,_,[]=>none
 | false,i,some b::H'=>match Bq false (i+1) H' with
  | some hs=>some (.new b::hs)
  | none=>none
 | true,i,some b::H'=>match Bq false (i+1) H' with
  | some hs=>some (.app (i - 1) b::hs)
  | none=>none
 | false,i,none::H'=>match Bq true (i+1) H' with
  | some hs=>some (.new ⟨0,.of []⟩::hs)
  | none=>none
 | true,i,none::H'=>match Bq true (i+1) H' with
  | some hs=>some (.app (i - 1) ⟨0,.of []⟩::hs)
  | none=>none
def Ja:Nat→DHp→DHp→Option (List DHop)
 | i,[],H'=>Bq false i H'
 | i,_::H,some b::H'=>match Ja (i+1) H H' with
  | some hs=>some (.set i b::hs)
  | none=>none
 | i,none::H,none::H'=>Ja (i+1) H H'
 | _,_,_=>none
inductive jB where
 | code (c:Code)
 | ops (all l:List Oper)
 | dr (all l:List Oper) (trs:List cK)
structure DCfg where
 P:Program
 inl:FuncId→Bool
 sum:FuncId→List EV→DHp→Option Outs
 loop:Code→DFr→DHp→Option LOut
 M:Nat
 rng:Code→DFr→DHp→Option LOut:=fun _ _ _=>none
 ysum:Nat→List EV→DHp→Option Outs:=fun _ _ _=>none
 /-- which types' slices and pointers lie in which family (where it begins,how many rows it nM);which structs are to be read field by field -/
 fam:TypeId→Option (Nat×Nat):=fun _=>none
abbrev DK:=Ex→DFr→DHp→Facts→T
abbrev DRec:=Nat→jB→DFr→DHp→Facts→DK→T
def Cd (K:DCfg) (rec:Code→Bool) (o:Oper):Bool:=
 match kdOf K.P o.op with
 | .pure=>true
 | .read=>true
 | .write=>false
 | .call=>match o.op with
  | .call { callee:=.value (.func g),.. }=>K.inl g&&(match K.P.funcs[g]? with
   | some fn=>match fn.body with
    | some c=>rec c
    | none=>true
   | none=>true)
  | _=>false
def R7 (K:DCfg) (rec:Code→Bool):Code→Bool
 | .skip=>true
 | .region _ ops _=>ops.toList.all (Cd K rec)
 | .seq a b=>R7 K rec a&&R7 K rec b
 | .cond _ a b=>R7 K rec a&&R7 K rec b
 | .block _ c=>R7 K rec c
 | .loop _=>false
 | .exit _=>true
 | .scope c=>R7 K rec c
 | .label _=>true
 | .ret=>true
 | _=>false
def P4 (K:DCfg):Nat→Code→Bool
 | 0,_=>false
 | d+1,c=>R7 K (P4 K d) c
def De (fn:Func) (args:List EV):DFr:=args++List.replicate (fn.ntmps - args.length) (.tup [])
noncomputable def K5 (F:DFr) (d:Option Tmp) (v:EV):DFr:=
 match d with
 | some d=>tR F d v
 | none=>F
noncomputable def Me (P:Program) (fn:Func) (Q:EV→DHp→Facts→T) (e:Ex) (F:DFr) (H:DHp) (fs:Facts):T:=
 match e with
 | .exit _=>.fail
 | _=>aT (resD P fn F H) fun v=>Q v H fs
def Cx (fs:Facts) (o:Outs) (k:Facts→EV→List DHop→T):T:=
 match o with
 | .one v hs=>k fs v hs
 | .chk b x=>Bz b (Cx fs x k)
 | .tst b x y=>Ah fs b (fun fs=>Cx fs x k) (fun fs=>Cx fs y k)
 | .namI e f=>.namI fs.n e fun x=>Cx (fresh fs) (f (.var fs.n x)) k
 | .namN e f=>.namN fs.n e fun x=>Cx (fresh fs) (f (.var fs.n x)) k
 | .namB e f=>.namB fs.n e fun x=>Cx (fresh fs) (f (.var fs.n x)) k
 | .namL e f=>.namL fs.n e fun x=>Cx (fresh fs) (f (.var fs.n x)) k
def Y9 (fs:Facts) (o:LOut) (k:Facts→Ex→DFr→DHp→T):T:=
 match o with
 | .one e F H=>k fs e F H
 | .chk b x=>Bz b (Y9 fs x k)
 | .tst b x y=>Ah fs b (fun fs=>Y9 fs x k) (fun fs=>Y9 fs y k)
 | .imp b x=>.imp b (Y9 (Iy fs b true) x k)
 | .allI f=>.allI fs.n fun x=>Y9 (fresh fs) (f (.var fs.n x)) k
 | .allN f=>.allN fs.n fun x=>Y9 (fresh fs) (f (.var fs.n x)) k
 | .allB f=>.allB fs.n fun x=>Y9 (fresh fs) (f (.var fs.n x)) k
 | .allL f=>.allL fs.n fun x=>Y9 (fresh fs) (f (.var fs.n x)) k
 | .namI e f=>.namI fs.n e fun x=>Y9 (fresh fs) (f (.var fs.n x)) k
 | .namN e f=>.namN fs.n e fun x=>Y9 (fresh fs) (f (.var fs.n x)) k
 | .namB e f=>.namB fs.n e fun x=>Y9 (fresh fs) (f (.var fs.n x)) k
 | .namL e f=>.namL fs.n e fun x=>Y9 (fresh fs) (f (.var fs.n x)) k
def I5 (ro:Bool) (H:DHp):T→Option Outs
 | .ret v H'=>match ro with
  | true=>some (.one v [])
  | false=>match Ja 0 H H' with
   | some hs=>some (.one v hs)
   | none=>none
 | .chk b t=>match I5 ro H t with
  | some o=>some (.chk b o)
  | none=>none
 | .tst b x y=>match I5 ro H x,I5 ro H y with
  | some o,some p=>some (.tst b o p)
  | _,_=>none
 | _=>none
noncomputable def Hq (K:DCfg) (rec:DRec) (m:Nat) (all l:List Oper) (dst:Option Tmp) (op:Op) (F:DFr) (H:DHp) (fs:Facts) (Q:DK):T:=
 match kdOf K.P op with
 | .pure=>aT (jX K.P F op) fun v=>rec m (.ops all l) (K5 F dst v) H fs Q
 | .read=>match oE K.fam K.P F H op with
  | some o=>fB fs o fun fs v=>rec m (.ops all l) (K5 F dst v) H fs Q
  | none=>aT (jV K.P F H op) fun v=>rec m (.ops all l) (K5 F dst v) H fs Q
 | .write=>match Ox K.P F H op with
  | some (c,v,h)=>Bz c (rec m (.ops all l) (K5 F dst v) (h.act H) fs Q)
  | none=>match cQ K.P F H op with
   | some (c,hs)=>Bz c (rec m (.ops all l) (K5 F dst (.tup [])) (Ha H hs) fs Q)
   | none=>.fail
 | .call=>match Sb F op with
  | some (f,args)=>match K.inl f with
   | true=>match K.P.funcs[f]? with
    | some fn=>match fn.body with
     | some c => match fn.name == "runtime.NumGoroutine" with
      | true=>.fail
      | false=>rec H.length (.code c) (De fn args) H fs (Me K.P fn fun v H' fs=>rec m (.ops all l) (K5 F dst v) H' fs Q)
     | none=>.fail
    | none=>.fail
   | false=>match K.sum f args H with
    | some o=>Cx fs o fun fs v hs=>rec m (.ops all l) (K5 F dst v) (Ha H hs) fs Q
    | none=>.fail
  | none=>match cN F op with
   | some (i,args)=>match K.ysum i args H with
    | some o=>Cx fs o fun fs v hs=>rec m (.ops all l) (K5 F dst v) (Ha H hs) fs Q
    | none=>.fail
   | none=>.fail
noncomputable def Mo (fs:Facts) (all:List Oper) (guard:Option (Nat×Bool)) (F:DFr) (go skip:DFr→Facts→T):T:=
 match guard with
 | none=>go F fs
 | some (j,want)=>
  match (all[j]?).bind (·.dst) with
  | some t=>
   match Rr F t with
   | .bool b=>Ah fs b
     (fun fs=>match want with | true=>go (K5 F (some t) (.bool (.lit true))) fs | false=>skip (K5 F (some t) (.bool (.lit true))) fs)
     (fun fs=>match want with | true=>skip (K5 F (some t) (.bool (.lit false))) fs | false=>go (K5 F (some t) (.bool (.lit false))) fs)
   | .tup []=>skip F fs
   | _=>.fail
  | none=>.fail
noncomputable def Lt (K:DCfg) (rec:DRec) (m:Nat) (all l:List Oper) (F:DFr) (H:DHp) (fs:Facts) (Q:DK):T:=
 match l with
 | []=>Q .normal F H fs
 | ⟨dst,op,_,_,_,guard⟩::l=>
  Mo fs all guard F (fun F fs=>Hq K rec m all l dst op F H fs Q) (fun F fs=>rec m (.ops all l) (K5 F dst (.tup [])) H fs Q)
noncomputable def Th (K:DCfg) (rec:DRec) (m:Nat) (all l:List Oper) (trs:List cK) (dst:Option Tmp) (op:Op) (F:DFr) (H:DHp) (fs:Facts) (Q:DK):T:=
  match kdOf K.P op with
  | .pure=>aT (jX K.P F op) fun v=>rec m (.dr all l (trs++[⟨.still,H.length,[]⟩])) (K5 F dst v) H fs Q
  | .read=>match oE K.fam K.P F H op with
    | some o=>fB fs o fun fs v=>rec m (.dr all l (trs++[⟨(match Wg F op with | some r=>.read r | none=>.still),H.length,[]⟩])) (K5 F dst v) H fs Q
    | none => aT  (jV    K.P F H op) fun v => rec m (.dr all l (trs ++ [⟨(match Wg    F op with | some r => .read r | none => .still), H.length, []⟩])) (K5   F dst v) H fs Q
  | .write => match Ox     K.P F H op with
    | some (c,v,h)=>Bz c (rec m (.dr all l (trs++[⟨.write,H.length,[h]⟩])) (K5 F dst v) (h.act H) fs Q)
    | none => .fail
  | .call=>match Sb F op with
    | some (f,args)=>match K.inl f with
      | true=>match K.P.funcs[f]? with
        | some fn=>match fn.body with
          | some c => match fn.name == "runtime.NumGoroutine" with
            | true=>.fail
            | false=>match I5 (P4 K 20 c) H (rec H.length (.code c) (De fn args) H fs (Me K.P fn fun v H' _=>.ret v H')) with
              | some o=>Cx fs o fun fs v hs=>rec m (.dr all l (trs++[⟨.write,H.length,hs⟩])) (K5 F dst v) (Ha H hs) fs Q
              | none=>.fail
          | none=>.fail
        | none=>.fail
      | false=>match K.sum f args H with
        | some o=>Cx fs o fun fs v hs=>rec m (.dr all l (trs++[⟨.write,H.length,hs⟩])) (K5 F dst v) (Ha H hs) fs Q
        | none=>.fail
    | none=>match cN F op with
      | some (i,args)=>match K.ysum i args H with
        | some o=>Cx fs o fun fs v hs=>rec m (.dr all l (trs++[⟨.write,H.length,hs⟩])) (K5 F dst v) (Ha H hs) fs Q
        | none=>.fail
      | none=>.fail
noncomputable def Hr (K:DCfg) (rec:DRec) (m:Nat) (all l:List Oper) (trs:List cK) (F:DFr) (H:DHp) (fs:Facts) (Q:DK):T:=
 match l with
 | []=>match fL all trs with
  | true=>Q .normal F H fs
  | false=>.fail
 | ⟨dst,op,_,_,_,guard⟩::l=>
  Mo fs all guard F (fun F fs=>Th K rec m all l trs dst op F H fs Q) (fun F fs=>rec m (.dr all l (trs++[⟨.still,H.length,[]⟩])) (K5 F dst (.tup [])) H fs Q)
noncomputable def Fm (_K:DCfg) (rec:DRec) (m:Nat) (c:Operand) (x y:Code) (F:DFr) (H:DHp) (fs:Facts) (Q:DK):T:=
 match c with
 | .tmp t=>match Rr F t with
  | .bool b=>Ah fs b (fun fs=>rec m (.code x) (K5 F (some t) (.bool (.lit true))) H fs Q) (fun fs=>rec m (.code y) (K5 F (some t) (.bool (.lit false))) H fs Q)
  | _=>.fail
 | .const (.bool b)=>match b with
  | true=>rec m (.code x) F H fs Q
  | false=>rec m (.code y) F H fs Q
 | _=>.fail
def Wc (rec:DRec) (m:Nat) (b:Code) (Q:DK):DK:=fun e F H fs=>match e with
 | .normal=>rec m (.code b) F H fs Q
 | e=>Q e F H fs
def Ms (id:Nat) (Q:DK):DK:=fun e F H fs=>match e with
 | .exit i=>match i==id with
  | true=>Q .normal F H fs
  | false=>Q (.exit i) F H fs
 | e=>Q e F H fs
noncomputable def Y6 (K:DCfg) (rec:DRec) (m:Nat) (c:Code) (F:DFr) (H:DHp) (fs:Facts) (Q:DK):T:=
 match c with
 | .skip=>Q .normal F H fs
 | .region _ ops draw=>match draw with
  | true=>rec m (.dr ops.toList ops.toList []) F H fs Q
  | false=>rec m (.ops ops.toList ops.toList) F H fs Q
 | .seq a b=>rec m (.code a) F H fs (Wc rec m b Q)
 | .cond c x y=>Fm K rec m c x y F H fs Q
 | .block id c=>rec m (.code c) F H fs (Ms id Q)
 | .loop c=>match Nat.ble m K.M with
  | true=>match K.loop c F H with
   | some o=>Y9 fs o fun fs e F H=>Q e F H fs
   | none=>.fail
  | false=>.fail
 | .rangeFunc g ps as bd=>match Nat.ble m K.M with
  | true=>match K.rng (.rangeFunc g ps as bd) F H with
   | some o=>Y9 fs o fun fs e F H=>Q e F H fs
   | none=>.fail
  | false=>.fail
 | .exit id=>Q (.exit id) F H fs
 | .scope c=>rec m (.code c) F H fs Q
 | .label _=>Q .normal F H fs
 | .ret=>Q .ret F H fs
 | _=>.fail
noncomputable def aX2 (K:DCfg) (rec:DRec) (m:Nat) (w:jB) (F:DFr) (H:DHp) (fs:Facts) (Q:DK):T:=
 match w with
 | .ops all l=>Lt K rec m all l F H fs Q
 | .dr all l trs=>Hr K rec m all l trs F H fs Q
 | .code c=>Y6 K rec m c F H fs Q
noncomputable def dx (K:DCfg):Nat→DRec
 | 0=>fun _ _ _ _ _ _=>.fail
 | n+1=>aX2 K (dx K n)
section
variable {G:Nat→List AV}
theorem Q8 (l:List EV):vVs G l=l.map (vV G):=by
 induction l with
 | nil=>rfl
 | cons x l ih=>simp only [vVs,ih,List.map_cons]
theorem O7 (l:List EV):(vVs G l).length=l.length:=by rw [Q8,List.length_map]
theorem cT (l:List EV) (n:Nat):(vVs G l)[n]?=(l[n]?).map (vV G):=by rw [Q8,zA0]
theorem Qm (l m:List EV):vVs G (l++m)=vVs G l++vVs G m:=by simp only [Q8,List.map_append]
theorem U2 (F:List EV) (t:Nat):(vVs G F).getD t .undef=vV G (F.getD t .undef):=by
 simp only [List.getD,cT];cases F[t]?<;>simp [vV]
theorem pZ (F:List EV) (t:Nat) (v:EV):vVs G (F.set t v)=(vVs G F).set t (vV G v):=by simp only [Q8,List.map_set]
theorem Ym (a b:EB):vB G (E9 a b)=(vB G a&&vB G b):=by
 unfold E9;split
 ·simp [vB]
 ·simp [vB]
 ·split
  ·simp [vB]
  ·simp [vB]
  ·simp [vB]
theorem Cq (a:EB):vB G (Ep a)=!(vB G a):=by
 unfold Ep;split<;>simp [vB]
theorem kZ (a b:EB):vB G (kB a b)=(vB G a==vB G b):=by
 unfold kB;split<;>simp [vB,Cq]
theorem W5 (o:BinOp) (a b:EI):vB G (I3 o a b)=Ov o (vI G a) (vI G b):=by
 unfold I3;split<;>simp [vB,vI]
theorem Qn (o:BinOp) (k:IntKind) (a b:EI):vI G (Ds o k a b)=Zu o k (vI G a) (vI G b):=by
 unfold Ds;split<;>simp [vI]
theorem xD (k:IntKind) (a:EI):vI G (mW k a)=k.wrap (vI G a):=by
 unfold mW;split<;>simp [vI]
theorem aE7 (k:IntKind) (a:EI):vI G (uU k a)=k.wrap (0 - vI G a):=by
 unfold uU;split<;>simp [vI]
theorem aE8 (k:IntKind) (a:EI):vI G (uV k a)=Zd k (vI G a):=by
 unfold uV;split<;>simp [vI]
theorem Es (n:EN):vI G (Ks n)=(vN G n:Int):=by
 unfold Ks;split<;>simp [vI,vN]
theorem Cn (n:EI):vN G (Ba n)=(vI G n).toNat:=by
 unfold Ba;split<;>simp [vI,vN]
theorem L4 (a b:EN):vN G (O8 a b)=vN G a+vN G b:=by
 unfold O8;split<;>simp [vN];omega
theorem U3 (a:EN) (z:Nat):vN G (V5 a z)=vN G a*z:=by
 unfold V5;split
 ·simp
 ·split<;>simp [vN]
theorem Jf (a:EN) (z:Nat):vN G (V5 a z)=Uf (vN G a) z:=by
 rw [U3];unfold Uf;split<;>simp
theorem aE6 (a b:EN):vN G (uT a b)=vN G a - vN G b:=by
 unfold uT;split<;>simp [vN]
theorem A8 {x y:Nat}:leB x y=true↔x≤y:=by unfold leB;exact decide_eq_true_iff
theorem O5 (a b:EN):vB G (V6 a b)=leB (vN G a) (vN G b):=by
 unfold V6;split
 ·simp only [vB,vN];rename_i x y;cases hb:x.ble y with
  | true=>exact (A8.2 (zA2 hb)).symm
  | false=>
   cases hl:leB x y with
   | false=>rfl
   | true=>rw [Nat.ble_eq_true_of_le (A8.1 hl)] at hb;simp at hb
 ·simp only [vB,vN];exact (A8.2 (zA8 _)).symm
 ·simp only [vB]
theorem kY (a b:EN):vB G (kA a b)=Nat.beq (vN G a) (vN G b):=by
 unfold kA;split<;>simp [vB,vN]
theorem kX (a b:ES):vB G (aZ a b)=(vS G a==vS G b):=by
 unfold aZ;split<;>simp [vB,vS]
theorem aE5 (a b:ES):vS G (uW a b)=vS G a++vS G b:=by
 unfold uW;split<;>simp [vS]
theorem Cm (s:ES):vN G (Iv s)=(vS G s).length:=by
 unfold Iv;split<;>simp [vS,vN]
theorem W4 (l:EL):vN G (Bb l)=(vL G l).length:=by
 unfold Bb;split<;>simp [vN,vL,O7,A9]
theorem Lw {cs:List AV} {o:Nat} {v:AV} (h:∀ l,v≠.agg l):G3 cs o v=cs.set o v:=by
 unfold G3;split
 ·rename_i l;exact absurd rfl (h l)
 ·rfl
theorem xC {v:EV} {l:List AV} (h:vV G v=.agg l):∃ d,v=.agg d∧vL G d=l:=by
 cases v<;>simp [vV] at h;exact ⟨_,rfl,h⟩
theorem Lo (l:EL) (o:EN) (v:EV):vL G (Rj l o v)=G3 (vL G l) (vN G o) (vV G v):=by
 unfold Rj;split
 ·split
  ·simp only [vL,vN,vV,G3,gJ,Q8,List.map_append,List.map_take,List.map_drop,List.length_map]
  ·simp only [vL,vN,vV]
  ·rename_i cs n v h1 h2;rw [Lw]
   ·simp only [vL,pZ,vN]
   ·intro l he;obtain ⟨d,rfl,_⟩:=xC he;exact h2 d rfl
 ·simp only [vL]
theorem Co (l:EL) (o n:EN):vL G (Gs l o n)=((vL G l).drop (vN G o)).take (vN G n):=by
 unfold Gs;split<;>simp [vL,vN,A0,Q8,List.map_take,List.map_drop]
theorem gD (a b:EL):vL G (bA a b)=vL G a++vL G b:=by
 unfold bA;split<;>simp [vL,Qm,vVs]
theorem Zz (s:ES):vL G (Wy s)=(vS G s).map fun b=>.int .u8 b.toNat:=by
 unfold Wy;split
 ·simp only [vL,Q8,List.map_map,vS];congr 1
 ·simp only [vL,A9]
theorem Yl (n:EN) (l:EL):vL G (aY n l)=(List.replicate (vN G n) (vL G l)).flatten:=by
 unfold aY;split
 ·simp only [vL,Q8,vN,List.map_flatten,List.map_replicate]
 ·simp only [vL,repL]
theorem notAgg {v:EV} (h:nI v=false):∀ l,vV G v≠.agg l:=by
 intro l he;obtain ⟨d,rfl,_⟩:=xC he;simp [nI] at h
theorem Nt {o:EN} {n:Nat} (h:Zb o=some n):o=.lit n:=by
 unfold Zb at h;split at h
 ·simp at h;rw [h]
 ·simp at h
theorem Ra:∀ (l:EL) (n:Nat) (c:EB) (v:EV),Ax l n=some (c,v)→vB G c=true→(vL G l)[n]?=some (vV G v)
 | .of cs,n,c,v,h,_=>by
  simp only [Ax] at h;split at h
  ·rename_i w hn;simp only [zN,xH] at h;obtain ⟨_,rfl⟩:=h;simp only [vL,cT,hn,Option.map_some]
  ·simp at h
 | .set l o w,n,c,v,h,hc=>by
  simp only [Ax] at h;split at h
  ·rename_i m ho ha
   have:=Nt ho;subst this
   have hs:vL G (.set l (.lit m) w)=(vL G l).set m (vV G w):=by
    simp only [vL,vN];exact Lw (notAgg ha)
   rw [hs];split at h
   ·rename_i hm;have hm:=rG hm;subst hm;simp only [zN,xH] at h;obtain ⟨rfl,rfl⟩:=h;rw [O5,W4] at hc;have hc:m+1≤(vL G l).length:=A8.1 hc;rw [List.getElem?_set_self (by omega)]
   ·rename_i hm;have hne:m≠n:=fun he=>by rw [he] at hm;simp at hm
    rw [List.getElem?_set_ne hne];exact Ra l n c v h hc
  ·simp at h
 | .var ..,_,_,_,h,_=>by simp [Ax] at h
 | .ro ..,_,_,_,h,_=>by simp [Ax] at h
 | .app ..,_,_,_,h,_=>by simp [Ax] at h
 | .sub ..,_,_,_,h,_=>by simp [Ax] at h
 | .bytes ..,_,_,_,h,_=>by simp [Ax] at h
 | .rep ..,_,_,_,h,_=>by simp [Ax] at h
 | .uf ..,_,_,_,h,_=>by simp [Ax] at h
theorem rdI_ok {k:IntKind} {l:EL} {o:EN} {c:EB} {e:EI} (h:rdI k l o=some (c,e)) (hc:vB G c=true):isI k (vL G l) (vN G o)=true∧A2 (vL G l) (vN G o)=vI G e:=by
 have gen:some (EB.isI k l o,EI.get l o)=some (c,e)→isI k (vL G l) (vN G o)=true∧A2 (vL G l) (vN G o)=vI G e:=fun h=>by
  simp only [zN,xH] at h;obtain ⟨rfl,rfl⟩:=h;exact ⟨by simpa only [vB] using hc,by simp only [vI]⟩
 unfold rdI at h;split at h
 ·rename_i n ho
  have:=Nt ho;subst this
  split at h
  ·rename_i c' k' e' hr;split at h
   ·rename_i hk;subst hk;simp only [zN,xH] at h;obtain ⟨rfl,rfl⟩:=h
    have:=Ra l n _ _ hr hc
    simp only [vV] at this;simp [isI,A2,vN,this]
   ·simp at h
  ·simp at h
  ·exact gen h
 ·exact gen h
theorem rdB_ok {l:EL} {o:EN} {c:EB} {e:EB} (h:rdB l o=some (c,e)) (hc:vB G c=true):isB (vL G l) (vN G o)=true∧G8 (vL G l) (vN G o)=vB G e:=by
 have gen:some (EB.isB l o,EB.get l o)=some (c,e)→isB (vL G l) (vN G o)=true∧G8 (vL G l) (vN G o)=vB G e:=fun h=>by
  simp only [zN,xH] at h;obtain ⟨rfl,rfl⟩:=h;exact ⟨by simpa only [vB] using hc,by simp only [vB]⟩
 unfold rdB at h;split at h
 ·rename_i n ho
  have:=Nt ho;subst this
  split at h
  ·rename_i c' e' hr;simp only [zN,xH] at h;obtain ⟨rfl,rfl⟩:=h
   have:=Ra l n _ _ hr hc
   simp only [vV] at this;simp [isB,G8,vN,this]
  ·simp at h
  ·exact gen h
 ·exact gen h
theorem vV_dCell (v:Value):vV G (kH v)=Y8 v:=by
 unfold kH Y8
 split<;>simp [vV,vB,vI,vS]
theorem qA (v:Value):vV G (vZ v)=D7 v:=by
 unfold vZ D7;split
 ·simp only [vV,vL,Q8,List.map_map];congr 2;funext x;exact vV_dCell x
 ·rename_i h;cases v<;>first | exact vV_dCell _ | exact absurd rfl (h _)
theorem vV_evD (F:DFr) (x:Operand):vV G (evD F x)=ev (vVs G F) x:=by
 cases x with
 | tmp t=>simp only [evD,Db,ev,U2]
 | const v=>simp only [evD,ev,qA]
 | global g=>simp only [evD,ev,vV]
 | func f=>simp only [evD,ev,vV,vVs]
def Wo (G:Nat→List AV) (o:Option (EB×EV)) (p:Option (Bool×AV)):Prop:=∀ c v,o=some (c,v)→vB G c=true→p=some (true,vV G v)
theorem Wo.none {p:Option (Bool×AV)}:Wo G none p:=fun c v h=>by simp at h
theorem Wo.some {c:EB} {v:EV} {p:Option (Bool×AV)} (h:vB G c=true→p=some (true,vV G v)):Wo G (some (c,v)) p:=fun c' v' he hc=>by
 simp only [zN,xH] at he;obtain ⟨rfl,rfl⟩:=he;exact h hc
theorem aD0 {op:BinOp} {k:IntKind} {x y:EI}:Wo G (binIntD op k x y) (Vp op k (vI G x) (vI G y)):=by
 have nz:vB G (Ep (I3 .eql y (.lit 0)))=true→(!(vI G y==0))=true:=fun h=>by
  simpa only [Cq,W5,Ov,vI] using h
 cases op<;>simp only [binIntD,Vp]<;>first
  | exact Wo.none
  | (refine Wo.some fun hc=>?_;rw [nz hc];simp only [vV,Qn,Zu];done)
  | (refine Wo.some fun hc=>?_;simp only [vV,Qn,Zu,Cq,W5,Ov];done)
  | (refine Wo.some fun hc=>?_;simp only [vV,Qn,Zu,Cq,W5,Ov];rfl)
theorem Yg {op:BinOp} {k:IntKind} {x y:EI}:Wo G (Vo op k x y) (Mt op k (vI G x) (vI G y)):=by
 have nz:vB G (I3 .leq (.lit 0) y)=true→decide (0≤vI G y)=true:=fun h=>by
  rw [W5] at h;exact yI (zR h)
 cases op<;>simp only [Vo,Mt]<;>first
  | exact Wo.none
  | (refine Wo.some fun hc=>?_;rw [nz hc];simp only [vV,Qn,Zu];done)
theorem aC9 {op:BinOp} {x y:ES}:Wo G (fS op x y) (Vn op (vS G x) (vS G y)):=by
  cases op<;>simp only [fS,Vn]<;>first
    | exact Wo.none
    | (refine Wo.some fun hc => ?_
       rw [O5,L4,Cm,Cm] at hc;simp only [vV,aE5,zN,xH,and_true]
       exact hc)
    | (refine Wo.some fun hc=>?_;simp only [vV,kX,Cq];done)
theorem Gc {op:BinOp} {c:Bool} {b:EB}:Wo G (Iz op c b) (Fa op c (vB G b)):=by
 cases op<;>simp only [Iz,Fa]<;>first
  | exact Wo.none
  | (refine Wo.some fun hc=>?_;simp only [vB] at hc;subst hc;simp only [vV,Cq];done)
def We (G:Nat→List AV) (o:Option (EB×EB)) (p:Option (Bool×Bool)):Prop:=∀ c b,o=some (c,b)→vB G c=true→p=some (true,vB G b)
theorem Fu {P:Program} {t:TypeId} {l:EL} {o:EN}:Wo G (Eo P t l o) (V4 P t (vL G l) (vN G o)):=by
 have agg:∀ z,vB G (V6 (O8 o (.lit z)) (Bb l))=true→decide (vN G o+z≤(vL G l).length)=true:=fun z h=>by
  rw [O5,L4,W4] at h;exact h
 have any:∀ n,Zb o=some n→∀ c v,Ax l n=some (c,v)→vB G c=true→(match (vL G l)[vN G o]? with | some v=>some (true,v) | none=>none)=some (true,vV G v):=fun n ho c v h hc=>by
  have:=Nt ho;subst this
  have:=Ra l n c v h hc
  simp only [vN,this]
 intro c v h hc;unfold Eo at h;unfold V4;split at h
 ·rename_i k hu;simp only [hu];split at h
  ·rename_i c' e hr;simp only [zN,xH] at h;obtain ⟨rfl,rfl⟩:=h;obtain ⟨h1,h2⟩:=rdI_ok hr hc;simp only [h1,h2,vV]
  ·simp at h
 ·rename_i hu;simp only [hu];split at h
  ·rename_i c' e hr;simp only [zN,xH] at h;obtain ⟨rfl,rfl⟩:=h;obtain ⟨h1,h2⟩:=rdB_ok hr hc;simp only [h1,h2,vV]
  ·simp at h
 ·rename_i fs hu;simp only [hu];split at h
  ·rename_i z hz;simp only [zN,xH] at h;obtain ⟨rfl,rfl⟩:=h;simp only [hz,agg z hc,vV,Co,vN]
  ·simp at h
 ·rename_i n e hu;simp only [hu];split at h
  ·rename_i z hz;simp only [zN,xH] at h;obtain ⟨rfl,rfl⟩:=h;simp only [hz,agg z hc,vV,Co,vN]
  ·simp at h
 ·rename_i d h1 h2 h3 h4 hu;simp only [hu];split at h
  ·rename_i n ho
   have:=any n ho c v h hc
   cases d<;>first
    | exact this
    | exact absurd hu (h1 _)
    | exact absurd hu h2
    | exact absurd hu (h3 _)
    | exact absurd hu (h4 _ _)
  ·simp at h
 ·simp at h
end
section
variable {G:Nat→List AV}
theorem P6 {a b:Bool} (h:(a&&b)=true):a=true∧b=true:=by simpa using h
theorem C4 {a b:EB} (h:vB G (E9 a b)=true):vB G a=true∧vB G b=true:=by
 rw [Ym] at h;exact P6 h
theorem fK {P:Program} {recD:TypeId→EV→EV→Option (EB×EB)} {rec:TypeId→AV→AV→Option (Bool×Bool)} (hr:∀ t x y,We G (recD t x y) (rec t (vV G x) (vV G y))) {xs ys:EL} :
    ∀ fs,We G (Xj P recD xs ys fs) (Rw P rec (vL G xs) (vL G ys) fs)
  | [] => fun c b h _ => by
    simp only [Xj,zN,xH] at h;obtain ⟨rfl,rfl⟩:=h;simp only [Rw,vB]
  | f::fs=>fun c b h hc=>by
    unfold Xj at h;unfold Rw;split at h
    · rename_i hn;rw [if_pos hn];split at h
      · rename_i c1 a c2 b' h1 h2;split at h
        · rename_i c3 r c4 s h3 h4;simp only [zN,xH] at h;obtain ⟨rfl,rfl⟩:=h;obtain ⟨g1,hc⟩:=C4 hc;obtain ⟨g2,hc⟩:=C4 hc;obtain ⟨g3,g4⟩:=C4 hc;have e1:=Fu _ _ h1 g1;have e2:=Fu _ _ h2 g2;have e3:=hr _ _ _ _ _ h3 g3;have e4:=fK hr fs _ _ h4 g4;simp only [vN] at e1 e2;simp only [e1,e2,e3,e4,Ym,Bool.and_self]
        · simp at h
      · simp at h
    · rename_i hn;rw [if_neg hn];exact fK hr fs _ _ h hc
theorem sK {P:Program} {recD:TypeId→EV→EV→Option (EB×EB)} {rec:TypeId→AV→AV→Option (Bool×Bool)} (hr:∀ t x y,We G (recD t x y) (rec t (vV G x) (vV G y))) {e:TypeId} {z:Nat} {xs ys:EL} :
  ∀ is,We G (bU P recD e z xs ys is) (Ve P rec e z (vL G xs) (vL G ys) is)
 | []=>fun c b h _=>by
  simp only [bU,zN,xH] at h;obtain ⟨rfl,rfl⟩:=h;simp only [Ve,vB]
 | i::is=>fun c b h hc=>by
  unfold bU at h;unfold Ve;split at h
  ·rename_i c1 a c2 b' h1 h2;split at h
   ·rename_i c3 r c4 s h3 h4;simp only [zN,xH] at h;obtain ⟨rfl,rfl⟩:=h;obtain ⟨g1,hc⟩:=C4 hc;obtain ⟨g2,hc⟩:=C4 hc;obtain ⟨g3,g4⟩:=C4 hc;have e1:=Fu _ _ h1 g1;have e2:=Fu _ _ h2 g2;have e3:=hr _ _ _ _ _ h3 g3;have e4:=sK hr is _ _ h4 g4;simp only [vN] at e1 e2;simp only [e1,e2,e3,e4,Ym,Bool.and_self]
   ·simp at h
  ·simp at h
theorem oF {P:Program}:∀ n t x y,We G (fJ P n t x y) (Su P n t (vV G x) (vV G y))
 | 0,t,x,y=>fun c b h=>by simp [fJ] at h
 | n+1,t,x,y=>fun c b h hc=>by
  unfold fJ at h;unfold Su;split at h
  ·rename_i k hu;simp only [hu];split at h
   ·split at h
    ·rename_i hk;subst hk;simp only [zN,xH] at h;obtain ⟨rfl,rfl⟩:=h;simp only [vV,W5,Ov,decide_true]
    ·simp at h
   ·simp at h
  ·rename_i hu;simp only [hu];split at h
   ·simp only [zN,xH] at h;obtain ⟨rfl,rfl⟩:=h;simp only [vV,kZ]
   ·simp at h
  ·rename_i hu;simp only [hu];split at h
   ·simp only [zN,xH] at h;obtain ⟨rfl,rfl⟩:=h;simp only [vV,kX]
   ·simp at h
  ·rename_i fs hu;simp only [hu];split at h
   ·split at h
    ·simp at h
    ·rename_i hs;simp only [vV,hs];exact fK (fun t x y=>oF n t x y) _ _ _ h hc
   ·simp at h
  ·rename_i m e hu;simp only [hu];split at h
   ·split at h
    ·rename_i z hz;simp only [vV,hz];exact sK (fun t x y=>oF n t x y) _ _ _ h hc
    ·simp at h
   ·simp at h
  ·simp at h
theorem aB3 {P:Program} {t:TypeId} {xs ys:EL}:We G (eqAD P t xs ys) (Su P 10 t (.agg (vL G xs)) (.agg (vL G ys))):=by
 intro c b h hc;unfold eqAD at h;split at h
 ·have:=oF 10 t (.agg xs) (.agg ys) c b h hc
  simpa only [vV] using this
 ·simp only [zN,xH] at h;obtain ⟨rfl,rfl⟩:=h;simp only [vB,vVs,vV,eqA1] at hc;simp only [vB,vVs,vV,eqA2];split at hc
  ·rename_i c' b' he;simp only [he,hc]
  ·simp at hc
theorem bin_wo {P:Program} {op:BinOp} {t:TypeId} {x y:EV}:Wo G (binD P op t x y) (T9 P op t (vV G x) (vV G y)):=by
 intro c v h hc;unfold binD at h;split at h
 ·rename_i k a k' b;split at h
  ·simp only [vV,T9];exact Yg _ _ h hc
  ·simp only [vV,T9];exact Yg _ _ h hc
  ·rename_i h1 h2;split at h
   ·rename_i hk;subst hk
    have:=aD0 _ _ h hc
    simp only [vV,T9]
    cases op<;>first
     | exact absurd rfl h1
     | exact absurd rfl h2
     | (rw [if_pos trivial];exact this)
     | (rw [if_pos rfl];exact this)
   ·simp at h
 ·simp only [vV,T9];exact aC9 _ _ h hc
 ·have:=Gc _ _ h hc
  simp only [vV,T9];rw [kZ] at this;exact this
 ·simp only [vV,T9];exact Gc _ _ h hc
 ·simp only [vV,T9];exact Gc _ _ h hc
 ·simp only [vV,T9];exact Gc _ _ h hc
 ·simp only [vV,T9];exact Gc _ _ h hc
 ·simp only [vV,T9];exact Gc _ _ h hc
 ·simp only [vV,T9];exact Gc _ _ h hc
 ·simp only [vV,T9];exact Gc _ _ h hc
 ·rename_i xs ys;simp only [vV,T9];split at h
  ·simp at h
  ·rename_i hg;simp only [hg];split at h
   ·rename_i c' b he;split at h
    ·simp only [zN,xH] at h;obtain ⟨rfl,rfl⟩:=h;simp only [aB3 _ _ he hc,Fa,vV]
    ·simp only [zN,xH] at h;obtain ⟨rfl,rfl⟩:=h;simp only [aB3 _ _ he hc,Fa,vV,Cq]
    ·simp at h
   ·simp at h
 ·simp at h
theorem un_wo {op:UnOp} {x:EV}:Wo G (unD op x) (lA op (vV G x)):=by
 intro c v h hc;unfold unD at h
 split at h<;>first
  | (simp only [zN,xH] at h;obtain ⟨rfl,rfl⟩:=h;simp only [vV,lA,aE7,aE8,Cq];done)
  | (simp at h;done)
theorem bD4 {P:Program} {s d:TypeId} {x:EV}:Wo G (wB P s d x) (Qe P s d (vV G x)):=by
 intro c v h hc;unfold wB at h;split at h
 ·rename_i h1 h2;simp only [zN,xH] at h;obtain ⟨rfl,rfl⟩:=h;simp only [vV,Qe,h1,h2,xD]
 ·rename_i h1 h2;simp only [zN,xH] at h;obtain ⟨rfl,rfl⟩:=h;simp only [vV,Qe,h1,h2]
 ·simp at h
theorem aO3 {P:Program} {s:TypeId} {x:EV} {f:Nat}:Wo G (nY P s x f) (Qb P s (vV G x) f):=by
 intro c v h hc;unfold nY at h;split at h
 ·rename_i fs r off hu;simp only [vV,Qb,hu];split at h
  ·rename_i fd hf;simp only [hf];split at h
   ·simp at h
   ·rename_i z h0 hz;simp only [zN,xH] at h;obtain ⟨rfl,rfl⟩:=h;simp only [hz];cases z with
    | zero=>exact absurd rfl h0
    | succ z=>simp only [vV,L4,vN]
   ·simp at h
  ·simp at h
 ·simp at h
theorem bH {P:Bool} {i l:EI} {z:Int} (hz:vI G l=z) (h:vB G (E9 (I3 .leq (.lit 0) i) (I3 .lss i l))=true):(decide (0≤vI G i)&&decide (vI G i<z))=true:=by
 obtain ⟨h1,h2⟩:=C4 h;rw [W5] at h1 h2;rw [hz] at h2;simp only [vI] at h1;rw [zO];exact ⟨yI (zR h1),yI (zR h2)⟩
theorem aN9 {P:Program} {t:TypeId} {x i:EV}:Wo G (nJ P t x i) (Lj P t (vV G x) (vV G i)):=by
 intro c v h hc;unfold nJ at h;split at h
 ·split at h
  ·rename_i len e r off hu;simp only [vV,Lj,hu];split at h
   ·rename_i z hz;simp only [zN,xH] at h;obtain ⟨rfl,rfl⟩:=h;simp only [hz,bH (P:=true) (z:=len) (by simp only [vI]) hc,vV,L4,Jf,Cn]
   ·simp at h
  ·rename_i e mb r off len hu;simp only [vV,Lj,hu];split at h
   ·rename_i z hz;simp only [zN,xH] at h;obtain ⟨rfl,rfl⟩:=h;simp only [hz,bH (P:=true) (z:=(vN G len:Int)) (Es _) hc,vV,L4,Jf,Cn]
   ·simp at h
  ·simp at h
 ·simp at h
theorem Ip {x:Option EV} {d:EI} {e:EI} (h:Ju x d=some e):Y3 (x.map (vV G)) (vI G d)=some (vI G e):=by
 unfold Ju at h;split at h
 ·simp at h;subst h;rfl
 ·simp at h;subst h;simp only [Option.map_some,vV,Y3]
 ·simp at h
theorem Zc {a b c:EI} {z:Int} (hz:vI G c=z) (h:vB G (E9 (I3 .leq (.lit 0) a) (E9 (I3 .leq a b) (I3 .leq b c)))=true):(decide (0≤vI G a)&&(decide (vI G a≤vI G b)&&decide (vI G b≤z)))=true:=by
 obtain ⟨h1,h⟩:=C4 h;obtain ⟨h2,h3⟩:=C4 h;rw [W5] at h1 h2 h3;rw [hz] at h3;simp only [vI] at h1;rw [zO,zO];exact ⟨yI (zR h1),yI (zR h2),yI (zR h3)⟩
theorem aH0 {P:Program} {t:TypeId} {x:EV} {lo hi:Option EV}:Wo G (lJ P t x lo hi) (Hs P t (vV G x) (lo.map (vV G)) (hi.map (vV G))):=by
 intro c v h hc;unfold lJ at h;split at h
 ·rename_i e mb r off len hu;simp only [vV,Hs,hu];split at h
  ·rename_i z l hh hz hl hh';simp only [zN,xH] at h;obtain ⟨rfl,rfl⟩:=h;have e1:=Ip (G:=G) hl;have e2:=Ip (G:=G) hh';rw [Es] at e2;simp only [vI] at e1;simp only [hz,e1,e2,Zc (z:=(vN G len:Int)) (Es _) hc,vV,L4,Jf,Cn,aE6]
  ·simp at h
 ·rename_i e hu;simp only [vV,Hs,hu];split at h
  ·rename_i z l hh hz hl hh';simp only [zN,xH] at h;obtain ⟨rfl,rfl⟩:=h;have e1:=Ip (G:=G) hl;have e2:=Ip (G:=G) hh';simp only [vI] at e1 e2;simp only [hz,e1,e2,Zc (z:=0) (by simp only [vI]) hc,vV]
  ·simp at h
 ·rename_i s hu;simp only [vV,Hs,hu];split at h
  ·rename_i l hh hl hh';simp only [zN,xH] at h;obtain ⟨rfl,rfl⟩:=h;have e1:=Ip (G:=G) hl;have e2:=Ip (G:=G) hh';rw [Es,Cm] at e2;simp only [vI] at e1;simp only [e1,e2,Zc (z:=((vS G s).length:Int)) (by rw [Es,Cm]) hc,vV,vS,Cn]
  ·simp at h
 ·simp at h
theorem Y5 (v:EV):vL G (Z7 v)=C1 (vV G v):=by
 unfold Z7 C1;cases v<;>simp [vL,vVs,vV]
theorem nF {v:EV} (h:bI v=true):Gv (vV G v)=true:=by
 cases v<;>simp [bI] at h<;>simp [vV,Gv]
theorem isCell_ok (v:EV):isCell (vV G v)=Xa v:=by
 cases v<;>simp [vV,isCell,Xa]
theorem Sf (l:EL):vB G (Mv l)=(vL G l).all isCell:=by
 unfold Mv;split
 ·simp only [vB,vL,Q8,List.all_map];congr 1;funext x;simp [isCell_ok]
 ·simp only [vB,cellsB]
 ·simp only [vB,cellsB]
theorem Ur (v:EV):vB G (Ku v)=true→(C1 (vV G v)).all isCell=true:=by
 intro h;unfold Ku at h;split at h
 ·rw [Sf] at h;simpa only [vV,C1] using h
 ·rename_i hn;simp only [vB] at h
  have:C1 (vV G v)=[vV G v]:=by
   cases v<;>simp [vV,C1];exact absurd rfl (hn _)
  rw [this];simp [isCell_ok,h]
theorem Ji {v:EV} {z:Nat} (h:vB G (Ph v z)=true):O3 (vV G v)=z:=by
 unfold Ph at h;split at h
 ·rw [kY,W4] at h;simp only [vN] at h;simp only [vV,O3];exact rG h
 ·rename_i hn;simp only [vB] at h
  have:=rG h
  subst this;cases v<;>simp [vV,O3];exact absurd rfl (hn _)
theorem Xe {place:Nat→Option (Nat×Nat)}:∀ (parts:List (Nat×EV)) (cells:EL) (c:EB) (r:EL),Ru place cells parts=some (c,r)→vB G c=true→
  Dg place (vL G cells) (parts.map fun p=>(p.1,vV G p.2))=some (true,vL G r)
 | [],cells,c,r,h,_=>by
  simp only [Ru,zN,xH] at h;obtain ⟨rfl,rfl⟩:=h;simp only [List.map_nil,Dg]
 | (i,v)::rest,cells,c,r,h,hc=>by
  unfold Ru at h;simp only [List.map_cons,Dg];split at h
  ·simp at h
  ·rename_i off size hp;simp only [hp];split at h
   ·simp at h
   ·rename_i c' r' hf;split at h
    ·rename_i hk;simp only [zN,xH] at h;obtain ⟨rfl,rfl⟩:=h;obtain ⟨g1,hc⟩:=C4 hc;obtain ⟨g2,g3⟩:=C4 hc
     have:=Xe rest _ _ _ hf g3
     rw [Lo] at this;simp only [vN] at this;rw [O5,W4] at g2;simp only [vN] at g2;have e1:=Ji g1;have e2:decide (off+size≤(vL G cells).length)=true:=g2;simp only [this,nF hk,e1,e2,beq_self_eq_true,Bool.and_self]
    ·simp at h
theorem Fg {P:Program} {t:TypeId} {z:EV} (h:Ki P t=some z):Y4 P t=some (vV G z):=by
 unfold Ki at h;unfold Y4;split at h
 ·rename_i i hi;simp only [hi];split at h
  ·rename_i z' hz;simp at h;subst h;simp only [hz,qA]
  ·simp at h
 ·simp at h
theorem aQ5 {P:Program} {t:TypeId} {parts:List (Nat×EV)}:Wo G (oQ P t parts) (Lm P t (parts.map fun p=>(p.1,vV G p.2))):=by
 intro c v h hc;unfold oQ at h;split at h
 ·rename_i fs z hu hz;have hz:=Fg (G:=G) hz;simp only [vV] at hz;simp only [Lm,hu,hz];split at h
  ·rename_i ps hps;simp only [hps];split at h
   ·rename_i c' cs hf;simp only [zN,xH] at h;obtain ⟨rfl,rfl⟩:=h;simp only [Xe _ _ _ _ hf hc,vV]
   ·simp at h
  ·simp at h
 ·rename_i n e z hu hz;have hz:=Fg (G:=G) hz;simp only [vV] at hz;simp only [Lm,hu,hz];split at h
  ·rename_i n hn;simp only [hn];split at h
   ·rename_i c' cs hf;simp only [zN,xH] at h;obtain ⟨rfl,rfl⟩:=h;simp only [Xe _ _ _ _ hf hc,vV]
   ·simp at h
  ·simp at h
 ·simp at h
theorem len_wo {P:Program} {t:TypeId} {x:EV}:Wo G (lenD P t x) (Nu P t (vV G x)):=by
 intro c v h hc;unfold lenD at h;split at h
 ·rename_i s hu;simp only [zN,xH] at h;obtain ⟨rfl,rfl⟩:=h;simp only [vV,Nu,hu,Es,Cm]
 ·rename_i n e hu;simp only [zN,xH] at h;obtain ⟨rfl,rfl⟩:=h;simp only [Nu,hu,vV,vI]
 ·rename_i e mb r o n hu;simp only [zN,xH] at h;obtain ⟨rfl,rfl⟩:=h;simp only [vV,Nu,hu,Es]
 ·rename_i e hu;simp only [zN,xH] at h;obtain ⟨rfl,rfl⟩:=h;simp only [vV,Nu,hu,vI]
 ·simp at h
theorem cap_wo {P:Program} {t:TypeId} {x:EV}:Wo G (capD P t x) (cE P t (vV G x)):=by
 intro c v h hc;unfold capD at h;split at h
 ·rename_i e hu;simp only [zN,xH] at h;obtain ⟨rfl,rfl⟩:=h;simp only [vV,cE,hu,vI]
 ·simp at h
theorem max_wo {x y:EV}:Wo G (maxD x y) (bD (vV G x) (vV G y)):=by
 intro c v h hc;unfold maxD at h;split at h
 ·split at h
  ·rename_i hk;subst hk;simp only [zN,xH] at h;obtain ⟨rfl,rfl⟩:=h;simp only [vV,bD,if_pos,vI]
  ·simp at h
 ·simp at h
theorem min_wo {x y:EV}:Wo G (minD x y) (bB (vV G x) (vV G y)):=by
 intro c v h hc;unfold minD at h;split at h
 ·split at h
  ·rename_i hk;subst hk;simp only [zN,xH] at h;obtain ⟨rfl,rfl⟩:=h;simp only [vV,bB,if_pos,vI]
  ·simp at h
 ·simp at h
theorem aZ7 {c a b:EV}:Wo G (uQ c a b) (Tw (vV G c) (vV G a) (vV G b)):=by
 intro c' v h hc;unfold uQ at h
 split at h<;>first
  | (simp only [zN,xH] at h;obtain ⟨rfl,rfl⟩:=h;simp only [vV,vB,Tw];done)
  | (simp at h;done)
theorem pN {x:EV}:Wo G (Ud x) (Kr (vV G x)):=by
 intro c' v h hc;unfold Ud at h
 split at h<;>first
  | (simp only [zN,xH] at h;obtain ⟨rfl,rfl⟩:=h;simp only [vV,Kr];done)
  | (simp at h;done)
theorem zK {v:EV} {w:AV} (h:vV G v=w):Wo G (some (.lit true,v)) (some (true,w)):=Wo.some fun _=>by rw [h]
theorem mY {F:DFr} (l:List Operand):(l.map (ev (vVs G F)))=vVs G (l.map (evD F)):=by
 rw [Q8 (List.map (evD F) l),List.map_map];congr 1;funext x;simp [vV_evD]
theorem omap_ev {F:DFr} (x:Option Operand):x.map (ev (vVs G F))=(x.map (evD F)).map (vV G):=by
 cases x<;>simp [vV_evD]
theorem dM {P:Program} {F:DFr} {op:Op}:Wo G (jX P F op) (G5 P (vVs G F) op):=by
 intro c v h hc;unfold jX at h;split at h
 ·exact zK (vV_evD F _) _ _ h hc
 ·exact zK (vV_evD F _) _ _ h hc
 ·simp only [G5,←vV_evD];exact aZ7 _ _ h hc
 ·simp only [G5,←vV_evD];exact pN _ _ h hc
 ·simp only [G5,←vV_evD];exact bin_wo _ _ h hc
 ·simp only [G5,←vV_evD];exact un_wo _ _ h hc
 ·simp only [G5,←vV_evD];exact bD4 _ _ h hc
 ·simp only [G5,←vV_evD];exact aO3 _ _ h hc
 ·simp only [G5,←vV_evD];exact aN9 _ _ h hc
 ·simp only [G5,←vV_evD,omap_ev];exact aH0 _ _ h hc
 ·rename_i t parts;simp only [G5]
  have:=aQ5 _ _ h hc
  rw [List.map_map] at this;rw [←this];congr 1;refine List.map_congr_left fun p _=>?_;simp [vV_evD]
 ·simp only [G5,←vV_evD];split at h
  ·rename_i vs he;split at h
   ·rename_i v' hv;simp only [zN,xH] at h;obtain ⟨rfl,rfl⟩:=h;simp only [he,vV,cT,hv,Option.map_some]
   ·simp at h
  ·simp at h
 ·rename_i f first cap;simp only [G5];split at h
  ·rename_i h0;simp only [zN,xH] at h;obtain ⟨rfl,rfl⟩:=h;rw [if_pos h0,mY];simp only [vV]
  ·simp at h
 ·simp only [G5];split at h
  ·rename_i x t h1 h2;simp only [h1,h2,←vV_evD];exact len_wo _ _ h hc
  ·simp at h
 ·simp only [G5];split at h
  ·rename_i x t h1 h2;simp only [h1,h2,←vV_evD];exact cap_wo _ _ h hc
  ·simp at h
 ·simp only [G5];split at h
  ·rename_i x y h1;simp only [h1,←vV_evD];exact max_wo _ _ h hc
  ·simp at h
 ·simp only [G5];split at h
  ·rename_i x y h1;simp only [h1,←vV_evD];exact min_wo _ _ h hc
  ·simp at h
 ·simp at h
end
section
variable {G:Nat→List AV}
noncomputable def C6 (G:Nat→List AV) (b:DBlk):Blk:=⟨b.esz,vL G b.cells⟩
noncomputable def B8 (G:Nat→List AV) (H:DHp):Hp:=H.map (Option.map (C6 G))
noncomputable def I6 (G:Nat→List AV):DHop→Hop
 | .set i b=>.set i (C6 G b)
 | .new b=>.new (C6 G b)
 | .app j b=>.app j (C6 G b)
theorem E2 (H:DHp):(B8 G H).length=H.length:=by simp [B8]
theorem aV6 (H:DHp) (i:Nat):(B8 G H)[i]?=(H[i]?).map (Option.map (C6 G)):=by simp [B8]
theorem G4 {H:DHp} {i:Nat} {b:DBlk} (h:H[i]?=some (some b)):(B8 G H)[i]?=some (some (C6 G b)):=by rw [aV6,h];rfl
theorem Qo (H:DHp) (h:DHop):B8 G (h.act H)=(I6 G h).act (B8 G H):=by
 cases h<;>simp [DHop.act,Hop.act,I6,B8,List.map_set]
theorem W0:∀ (hs:List DHop) (H:DHp),B8 G (Ha H hs)=acts (B8 G H) (hs.map (I6 G))
 | [],H=>rfl
 | h::hs,H=>by simp only [Ha,List.map_cons,acts,W0 hs,Qo]
open Classical in
theorem gR {l ls:List AV}:Qx l ls=true↔∀ v∈ls,v=.agg l:=by unfold Qx;exact decide_eq_true_iff
theorem bQ (z:Nat):∀ (c j:Nat) (H:DHp) (ls:List EV),Bw z j H c=some ls→ls.length=c∧∀ i,i<c→∃ l,H[i]?=some (some ⟨z,.row l (.lit (j+i))⟩)∧ls[i]?=some (.agg l)
 | 0,j,H,ls,h=>by
  have:Bw z j H 0=some []:=by unfold Bw;rfl
  rw [this] at h;simp only [zN] at h;subst h;exact ⟨rfl,fun i hi=>by omega⟩
 | c+1,j,[],ls,h=>by simp [Bw] at h
 | c+1,j,none::H,ls,h=>by simp [Bw] at h
 | c+1,j,some ⟨z',l0⟩::H,ls,h=>by
  cases l0 with
  | row l k=>cases k with
   | lit i0=>
    simp only [Bw] at h;split at h
    ·rename_i hb;split at h
     ·rename_i ls' h1;simp only [zN] at h;subst h;rw [zO] at hb;have e1:=rG hb.1;have e2:=rG hb.2;subst e1;subst e2;obtain ⟨g1,g2⟩:=bQ z c (i0+1) H ls' h1;refine ⟨by simp [g1],fun i hi=>?_⟩;cases i with
      | zero=>exact ⟨l,by simp,by simp⟩
      | succ i=>
       obtain ⟨l2,q1,q2⟩:=g2 i (by omega);exact ⟨l2,by rw [show i0+(i+1)=i0+1+i by omega];simpa using q1,by simpa using q2⟩
     ·simp at h
    ·simp at h
   | _=>simp [Bw] at h
  | _=>simp [Bw] at h
theorem Zp {H:DHp} {b c z:Nat} {l:EL} {ls:List EV} (h:Xi H b c=some (z,l,ls)):Nat.beq z 4294967291=false∧ls.length=c∧∀ i,i<c→∃ l',H[b+i]?=some (some ⟨z,.row l' (.lit i)⟩)∧ls[i]?=some (.agg l'):=by
 unfold Xi at h;split at h
 ·split at h
  ·simp at h
  ·rename_i hz;split at h
   ·rename_i ls' h1;simp only [zN,xH] at h;obtain ⟨rfl,rfl,rfl⟩:=h;obtain ⟨g1,g2⟩:=bQ _ _ _ _ _ h1;refine ⟨hz,g1,fun i hi=>?_⟩;obtain ⟨l',q1,q2⟩:=g2 i hi;rw [List.getElem?_drop] at q1;exact ⟨l',by simpa using q1,q2⟩
   ·simp at h
 ·simp at h
theorem vVs_get? {ls:List EV} {i:Nat} {x:EV} (h:ls[i]?=some x):(vVs G ls)[i]?=some (vV G x):=by rw [Q8,zA0,h];rfl
theorem bP {H:DHp} {b c z:Nat} {l:EL} {ls:List EV} (h:Xi H b c=some (z,l,ls)) (hr:Qx (vL G l) (vVs G ls)=true) {i:Nat} (hi:i<c):(B8 G H)[b+i]?=some (some ⟨z,B1 (vL G l) i⟩):=by
 obtain ⟨_,g1,g2⟩:=Zp h;obtain ⟨l',q1,q2⟩:=g2 i hi;have e:=gR.1 hr _ (zA1 (vVs_get? (G:=G) q2));simp only [vV,AV.agg.injEq] at e;rw [G4 q1];simp only [C6,vL,vN,e]
theorem Kx {C:A1} (hG:C.G=G) {H:DHp} {r:ER} {c0:EB} {l:EL} (h:Io H r=some (c0,l)) (hc:vB G c0=true):E5 C (B8 G H) (vR G r)=some (vL G l):=by
 unfold Io at h;split at h
 ·split at h
  ·rename_i b hb;split at h
   ·simp at h
   rename_i hr;simp only [zN,xH] at h;obtain ⟨rfl,rfl⟩:=h;have hr:isRec (C6 G b)=false:=hr;simp only [vR,E5,G4 hb,hr];simp only [C6]
  ·simp at h
 ·simp only [zN,xH] at h;obtain ⟨rfl,rfl⟩:=h;simp only [vR,E5,vL,hG]
 ·rename_i b c k;split at h
  ·rename_i z l' ls hf;simp only [zN,xH] at h;obtain ⟨rfl,rfl⟩:=h;obtain ⟨g1,g2⟩:=C4 hc;rw [O5,L4] at g1;simp only [vN] at g1;have g1:=A8.1 g1;simp only [vB] at g2;have hr:isRec ⟨z,B1 (vL G l') (vN G k)⟩=false:=(Zp hf).1;simp only [vR,E5,bP hf g2 (show vN G k<c by omega),hr,vL]
  ·simp at h
theorem aO9 (l:Lf) (cs:EL) (off:EN):vV G (vA l cs off)=Nv l (vL G cs) (vN G off):=by
 cases l<;>simp only [vA,Nv,vV,vI,vB,vS,vR,vN]
theorem Vh (cs:EL):∀ (ls:List Lf) (off:EN),vVs G (Pv cs off ls)=An (vL G cs) (vN G off) ls
 | [],off=>by simp only [Pv,An,vVs]
 | l::ls,off=>by
  simp only [Pv,An,vVs,aO9,Vh cs ls,L4,vN]
theorem aK9 {P:Program} {t:TypeId} {cs:EL} {off:EN}:Wo G (mN P t cs off) (jY P t (vL G cs) (vN G off)):=by
 intro c v h hc;unfold mN at h;unfold jY;split at h
 ·rename_i k hu;simp only [hu];simp only [zN,xH] at h;obtain ⟨rfl,rfl⟩:=h;simp only [vB] at hc;simp only [hc,vV,vI]
 ·rename_i hu;simp only [hu];simp only [zN,xH] at h;obtain ⟨rfl,rfl⟩:=h;simp only [vB] at hc;simp only [hc,vV,vB]
 ·rename_i hu;simp only [hu];simp only [zN,xH] at h;obtain ⟨rfl,rfl⟩:=h;simp only [vB] at hc;simp only [hc,vV,vS]
 ·rename_i e hu;simp only [hu];simp only [zN,xH] at h;obtain ⟨rfl,rfl⟩:=h;simp only [vB] at hc;simp only [hc,vV,vR,vN]
 ·rename_i fs hu;simp only [hu];split at h
  ·rename_i z ls hz hl;simp only [hz,hl];split at h
   ·rename_i hb;simp only [zN,xH] at h;obtain ⟨rfl,rfl⟩:=h;simp only [vB] at hc;simp only [hb,hc,vV,vL,Vh,Bool.and_self]
   ·simp at h
  ·simp at h
 ·rename_i n e hu;simp only [hu];split at h
  ·rename_i z ls hz hl;simp only [hz,hl];split at h
   ·rename_i hb;simp only [zN,xH] at h;obtain ⟨rfl,rfl⟩:=h;simp only [vB] at hc;simp only [hb,hc,vV,vL,Vh,Bool.and_self]
   ·simp at h
  ·simp at h
 ·simp at h
theorem rU {C:A1} (hG:C.G=G) {H:DHp} {t:TypeId} {r:ER} {off:EN}:Wo G (kC C.P H t r off) (Kt C (B8 G H) t (vR G r) (vN G off)):=by
 intro c v h hc;unfold kC at h;unfold Kt;split at h
 ·rename_i c0 cs hcs;split at h
  ·rename_i c1 v1 hp;simp only [zN,xH] at h;obtain ⟨rfl,rfl⟩:=h;obtain ⟨g1,g2⟩:=C4 hc;rw [Kx hG hcs g1];unfold zG at hp;split at hp
   ·simp only [vR,Np];exact Fu _ _ hp g2
   ·simp only [vR,Np];exact aK9 _ _ hp g2
   ·simp only [vR,Np];exact Fu _ _ hp g2
  ·simp at h
 ·simp at h
theorem zZ {b c o:Nat} {cs:List AV} (h:Zf b c cs o=true):cs[o]?=some (.slice true (.rw (b+Y0 b cs o)) (Hj cs o) (bN cs o))∧Y0 b cs o<c:=by
 unfold Zf at h;split at h
 ·rename_i i f n he;rw [zO] at h;have h1:=zA2 h.1;have h2:i<b+c:=Nat.blt_eq ▸ h.2;have e1:Y0 b cs o=i - b:=by unfold Y0;rw [he]
  have e2:Hj cs o=f:=by unfold Hj;rw [he]
  have e3:bN cs o=n:=by unfold bN;rw [he]
  rw [e1,e2,e3,he,show b+(i - b)=i by omega];exact ⟨rfl,by omega⟩
 ·simp at h
theorem zY {b c o:Nat} {cs:List AV} (h:isPA b c cs o=true):cs[o]?=some (.ptr (.rw (b+Y0 b cs o)) (Hj cs o))∧Y0 b cs o<c:=by
 unfold isPA at h;split at h
 ·rename_i i f he;rw [zO] at h;have h1:=zA2 h.1;have h2:i<b+c:=Nat.blt_eq ▸ h.2;have e1:Y0 b cs o=i - b:=by unfold Y0;rw [he]
  have e2:Hj cs o=f:=by unfold Hj;rw [he]
  rw [e1,e2,he,show b+(i - b)=i by omega];exact ⟨rfl,by omega⟩
 ·simp at h
theorem zX {cs:List AV} {o:Nat} (h:vD cs o=true):cs[o]?=some (.slice true (.ro (G0 cs o)) (H8 cs o) (D1 cs o)):=by
 unfold vD at h;split at h
 ·rename_i k f n he;unfold G0 H8 D1;rw [he]
 ·simp at h
theorem pR {o:Nat} {cs:List AV} (h:nG cs o=true):cs[o]?=some .nilp:=by
 unfold nG at h;split at h
 ·assumption
 ·simp at h
theorem oB {l:EL} {o:EN} {f:FL} (h:vB G (Xg l o f)=true):(vL G l)[vN G o]?=some (vV G (Xh l o f)):=by
 cases f with
 | int k=>
  simp only [Xg,vB] at h;simp only [Xh,vV,vI];exact Ii h
 | bool=>
  simp only [Xg,vB] at h;simp only [Xh,vV,vB];unfold isB at h;unfold G8;split at h
  ·rename_i b he;rw [he]
  ·simp at h
 | sl b c=>
  cases c with
  | zero=>
   have h:vD (vL G l) ((vN G o:Nat):Int).toNat=true:=h;rw [Int.toNat_natCast] at h;exact zX h
  | succ c=>
   simp only [Xg,vB] at h;simp only [Xh,vV,vR,vN];exact (zZ h).1
theorem sI:∀ (fs:List FL) {l:EL} {o:EN},vB G (kE l o fs)=true→vVs G (bR l o fs)=((vL G l).drop (vN G o)).take fs.length∧vN G o+fs.length≤max (vN G o) (vL G l).length
 | [],l,o,_=>by simp [bR,vVs];omega
 | f::fs,l,o,h=>by
  simp only [kE] at h;obtain ⟨h1,h2⟩:=C4 h;have e1:=oB h1;obtain ⟨e2,e3⟩:=sI fs h2;rw [L4] at e2 e3;simp only [vN] at e2 e3;have hlt:vN G o<(vL G l).length:=(zP.1 e1).1;refine ⟨?_,by simp only [List.length_cons];omega⟩;simp only [bR,vVs,e2];rw [List.drop_eq_getElem_cons hlt,List.length_cons,List.take_succ_cons];rw [xW hlt] at e1;simp only [zN] at e1;rw [e1]
def WoF (G:Nat→List AV) (x:FamR) (p:Option (Bool×AV)):Prop:=
 match x with
 | .val c v=>vB G c=true→p=some (true,vV G v)
 | .ptr n c v=>(vB G n=true→p=some (true,.nilp))∧(vB G c=true→p=some (true,vV G v))
theorem fD {fam:TypeId→Option (Nat×Nat)} {P:Program} {t:TypeId} {cs:EL} {off:EN} {x:FamR} (h:nZ fam P t cs off=some x):WoF G x (V4 P t (vL G cs) (vN G off)):=by
 unfold nZ at h;split at h
 ·simp at h
 ·rename_i b c hf;split at h
  ·rename_i fs hu;split at h
   ·simp at h
   ·split at h
    ·rename_i z ls hz hl;split at h
     ·rename_i hb;rw [zO] at hb;have hz1:=zA2 hb.2;have hb:=rG hb.1;simp only [zN] at h;subst h;intro hc;obtain ⟨e1,e2⟩:=sI ls hc;have hle:vN G off+z≤(vL G cs).length:=by omega
      unfold V4;simp only [hu,hz,vV,vL,e1,hb];rw [yI hle]
     ·simp at h
    ·simp at h
  ·rename_i e hu;split at h
   ·simp at h
   ·simp only [zN] at h;subst h;intro hc
    have:=oB hc
    unfold V4;simp only [hu,this]
  ·rename_i e hu;split at h
   ·simp at h
   ·simp only [zN] at h;subst h;refine ⟨fun hc=>?_,fun hc=>?_⟩
    ·simp only [vB] at hc;unfold V4;simp only [hu,pR hc]
    ·simp only [vB] at hc;unfold V4;simp only [hu,(zY hc).1,vV,vR,vN]
  ·simp at h
theorem dG {C:A1} (hG:C.G=G) {F:DFr} {H:DHp} {op:Op}:Wo G (jV C.P F H op) (M7 C (vVs G F) (B8 G H) op):=by
 intro c v h hc;unfold jV at h;split at h
 ·simp only [M7,←vV_evD];split at h
  ·rename_i r off he;simp only [he,vV];exact rU hG _ _ h hc
  ·simp at h
 ·simp only [M7,←vV_evD];split at h
  ·rename_i fs cs hu he;simp only [hu,he,vV];split at h
   ·rename_i fd hf;simp only [hf]
    have:=Fu _ _ h hc
    simpa only [vN] using this
   ·simp at h
  ·simp at h
 ·simp only [M7,←vV_evD];split at h
  ·rename_i len e cs k i hu he hi;simp only [hu,he,hi,vV];split at h
   ·rename_i z hz;simp only [hz];split at h
    ·rename_i c' v' hp;simp only [zN,xH] at h;obtain ⟨rfl,rfl⟩:=h;obtain ⟨g1,hc⟩:=C4 hc;obtain ⟨g2,g3⟩:=C4 hc
     have:=Fu _ _ hp g3
     rw [Jf,Cn] at this;rw [W5] at g1 g2;have g1:decide (0≤vI G i)=true:=yI (by have:=zR g1;simpa only [vI] using this);have g2:decide (vI G i<len)=true:=yI (by have:=zR g2;simpa only [vI] using this);simp only [this,g1,g2,Bool.and_self]
    ·simp at h
   ·simp at h
  ·simp at h
 ·simp only [M7,←vV_evD];split at h
  ·rename_i h1 he;simp only [zN,xH] at h;obtain ⟨rfl,rfl⟩:=h;simp only [h1,he,vV,vS]
  ·rename_i mb r off n h1 he;simp only [h1,he,vV];split at h
   ·rename_i c0 cs hcs;simp only [xL,zN,xH] at h;obtain ⟨rfl,rfl⟩:=h;obtain ⟨g0,hc⟩:=C4 hc;rw [Kx hG hcs g0];obtain ⟨g1,g2⟩:=C4 hc;rw [O5,L4,W4] at g1;simp only [vB,Co,u8s] at g2;have g1:decide (vN G off+vN G n≤(vL G cs).length)=true:=g1;simp only [tO,g1,g2,Bool.and_self,vV,vS,Co,F8]
   ·simp at h
  ·simp at h
 ·simp at h
theorem Xm {C:A1} (hG:C.G=G) {H:DHp} {z:Nat} {x:EV} {c:EB} {m:EN} {xs:EL} (h:srcD H z x=some (c,m,xs)) (hc:vB G c=true) :
  Yr C (B8 G H) z (vV G x)=some (true,vN G m,vL G xs):=by
 unfold srcD at h;split at h
 ·simp only [zN,xH] at h;obtain ⟨rfl,rfl,rfl⟩:=h;simp only [vV,Yr,vN,vL,vVs]
 ·rename_i mb r off m';split at h
  ·rename_i c0 cs hcs;simp only [zN,xH] at h;obtain ⟨rfl,rfl,rfl⟩:=h;obtain ⟨g0,hc⟩:=C4 hc;obtain ⟨g1,g2⟩:=C4 hc;rw [O5,L4,U3,W4] at g1;rw [Sf,Co,U3] at g2;simp only [vV,Yr,Kx hG hcs g0];have g1:decide (vN G off+vN G m'*z≤(vL G cs).length)=true:=g1;simp only [g1,g2,Bool.and_self,Co,U3]
  ·simp at h
 ·rename_i s;split at h
  ·rename_i hz;have hz:=rG hz;subst hz;simp only [zN,xH] at h;obtain ⟨rfl,rfl,rfl⟩:=h;simp only [vV,Yr,Cm,Zz,decide_true]
  ·simp at h
 ·simp at h
theorem Rl {v:EV} {n:Nat} (h:Rm (some v) n=true):(C1 (vV G v)).length=n:=by
 unfold Rm at h;simp only at h;rw [←Y5];split at h
 ·rename_i cs he;rw [he];simp only [vL,O7];exact rG h
 ·simp at h
def Ww (G:Nat→List AV) (o:Option (EB×EV×DHop)) (p:Option (Bool×AV×Hop)):Prop:=∀ c v h,o=some (c,v,h)→vB G c=true→p=some (true,vV G v,I6 G h)
theorem iW {C:A1} (hG:C.G=G) {H:DHp} {t:TypeId} {s x:EV}:Ww G (Xr C.P H t s x) (Iq C (B8 G H) t (vV G s) (vV G x)):=by
 intro c v hp h hc;unfold Xr at h;unfold Iq;split at h
 rotate_left
 ·simp at h
 rename_i e hu;simp only [hu];split at h
 rotate_left
 ·simp at h
 rename_i i zv hi hz;have hz:=Fg (G:=G) hz;simp only [hi,hz];split at h
 ·simp at h
 rename_i hb;obtain ⟨hok,hb⟩:=P6 hb;obtain ⟨hb1,hb2⟩:=P6 hb;have hlen:((C1 (vV G zv)).length==i.size)=true:=by rw [Rl hb2];simp
 have hby:decide (1≤i.bytes)=true:=yI (zA2 hb1);split at h
 rotate_left
 ·simp at h
 rename_i c' m xs hs;split at h
 ·simp only [zN,xH] at h;obtain ⟨rfl,rfl,rfl⟩:=h;obtain ⟨g1,g2⟩:=C4 hc;have e1:=Xm hG hs g1;rw [O5,U3] at g2;simp only [vN] at g2;have g2:decide (vN G m*i.bytes≤140737488355328)=true:=g2;simp only [e1,vV,g2,hby,hlen,hok,Bool.and_self,T7,vR,vN,here,E2,I6,C6]
 ·rename_i mb j;split at h
  ·rename_i b hj;split at h
   ·rename_i hez;have hez:=rG hez;simp only [zN,xH] at h;obtain ⟨rfl,rfl,rfl⟩:=h;obtain ⟨g1,g2⟩:=C4 hc;have e1:=Xm hG hs g1;rw [O5,U3] at g2;simp only [vN] at g2;have g2:decide (vN G m*i.bytes≤140737488355328)=true:=g2;have hr:∀ l,isRec ⟨i.size,l⟩=false:=fun l=>Ic hok;have g4:decide (0*i.size≤(vL G b.cells).length)=true:=yI (by omega)
    simp only [hr,Bool.not_false,e1,vV,vR,vN,G4 hj,C6,g2,hby,hlen,hez,beq_self_eq_true,Bool.and_self,T7,here,E2,I6,Nat.zero_add,Nat.zero_mul,List.take_zero,List.nil_append,zA8,decide_true]
   ·simp at h
  ·simp at h
 ·rename_i mb j n;split at h
  ·rename_i b hj;split at h
   ·rename_i hez;have hez:=rG hez;simp only [zN,xH] at h;obtain ⟨rfl,rfl,rfl⟩:=h;obtain ⟨g1,hc⟩:=C4 hc;obtain ⟨g2,g3⟩:=C4 hc;have e1:=Xm hG hs g1;rw [O5,U3,L4] at g2;simp only [vN] at g2;rw [O5,W4,U3] at g3;have g2:decide ((vN G n+vN G m)*i.bytes≤140737488355328)=true:=g2;have hr:∀ l,isRec ⟨i.size,l⟩=false:=fun l=>Ic hok;have g4:decide (vN G n*i.size≤(vL G b.cells).length)=true:=g3
    simp only [hr,Bool.not_false,e1,vV,vR,vN,Nat.mul_one,G4 hj,C6,g2,hby,hlen,hez,g4,beq_self_eq_true,Bool.and_self,T7,here,E2,I6,gD,Co,L4,U3,A0,List.drop_zero]
   ·simp at h
  ·simp at h
 ·rename_i mb j n _ _;split at h
  ·rename_i b hj;split at h
   ·rename_i hez;have hez:=rG hez;simp only [zN,xH] at h;obtain ⟨rfl,rfl,rfl⟩:=h;obtain ⟨g1,hc⟩:=C4 hc;obtain ⟨g2,g3⟩:=C4 hc;have e1:=Xm hG hs g1;rw [O5,U3,L4] at g2;simp only [vN] at g2;rw [kY,W4,U3] at g3;have g3:=rG g3;have g2:decide ((vN G n+vN G m)*i.bytes≤140737488355328)=true:=g2;have hr:∀ l,isRec ⟨i.size,l⟩=false:=fun l=>Ic hok;have g4:decide (vN G n*i.size≤(vL G b.cells).length)=true:=yI (by omega)
    have g5:(vL G b.cells).take (vN G n*i.size)=vL G b.cells:=List.take_of_length_le (by omega);simp only [hr,Bool.not_false,e1,vV,vR,vN,G4 hj,C6,g2,hby,hlen,hez,g4,g5,beq_self_eq_true,Bool.and_self,T7,here,E2,I6,gD,L4]
   ·simp at h
  ·simp at h
 ·simp at h
theorem Zy {l:EL} {o:EN} {v:EV} {z:Nat} (hz:O3 (vV G v)=z):vL G (Wx l o v z)=G3 (vL G l) (vN G o) (vV G v):=by
 unfold Wx;split
 ·rename_i d;split
  ·rename_i cs _;split
   ·rename_i hb;have hb:=rG hb;simp only [vV,O3] at hz;simp only [vV,G3,gJ,vL,vN,List.take_zero,List.nil_append,Nat.zero_add];rw [List.drop_of_length_le (by rw [O7];omega),List.append_nil]
   ·exact Lo _ _ _
  ·exact Lo _ _ _
 ·exact Lo _ _ _
theorem wI {C:A1} {H:DHp} {t:TypeId} {s x:EV}:Ww G (Mu C.P H t s x) (Qg C (B8 G H) t (vV G s) (vV G x)):=by
 intro c v hp h hc;unfold Mu at h;unfold Qg;split at h
 rotate_left
 ·simp at h
 rename_i e n hu;simp only [hu,vV];split at h
 rotate_left
 ·simp at h
 rename_i i zv hi hz;simp only [hi,Fg (G:=G) hz];split at h
 rotate_left
 ·simp at h
 rename_i hb;obtain ⟨hok,hb⟩:=P6 hb;obtain ⟨hb0,hb⟩:=P6 hb;obtain ⟨hb1,hb2⟩:=P6 hb;simp only [zN,xH] at h;obtain ⟨rfl,rfl,rfl⟩:=h;obtain ⟨g1,g3⟩:=C4 hc;rw [W5] at g1 g3
 have ebig:vI G (Mu.mkBigD n i.bytes)=vI G n*i.bytes:=by
  unfold Mu.mkBigD
  split<;>simp [vI,vVs,vV,Vq]
 rw [ebig] at g3;simp only [vI] at g1 g3;have g1:decide (0≤vI G n)=true:=yI (zR g1);have g3:decide (vI G n*i.bytes≤140737488355328)=true:=yI (zR g3);have g0:decide (1≤i.bytes)=true:=yI (zA2 hb0);have g5:decide ((C1 (vV G zv)).length=i.size)=true:=yI (Rl hb1);have g6:decide (1≤i.size)=true:=yI (zA2 hb2);simp only [hok,g0,g1,g3,g5,g6,Bool.and_self,vV,T7,vR,vN,here,E2,I6,C6,Yl,Y5,Cn]
theorem aP8 {C:A1} {H:DHp} {t:TypeId} {x:EV}:Ww G (oP C.P H t x) (Vk C (B8 G H) t (vV G x)):=by
 intro c v hp h hc;unfold oP at h;unfold Vk;split at h
 rotate_left
 ·simp at h
 rename_i e mb j off n hu;simp only [hu,vV,vR];split at h
 rotate_left
 ·simp at h
 rename_i z zv b hz hzv hj;split at h
 ·simp at h
 rename_i hr;rw [Bool.or_eq_false_iff] at hr;obtain ⟨hr,hb⟩:=hr;have hr:isRec (C6 G b)=false:=hr;have hb:(Rm (some zv) z&&Nat.ble 1 z)=true:=by simpa using hb
 obtain ⟨hb1,hb2⟩:=P6 hb;simp only [hz,Fg (G:=G) hzv,G4 hj,hr,Bool.not_false,Bool.true_and];simp only [zN,xH] at h;obtain ⟨rfl,rfl,rfl⟩:=h;obtain ⟨g1,hc⟩:=C4 hc;obtain ⟨g2,g3⟩:=C4 hc;rw [O5] at g1 g3;rw [Sf,Y5] at g2;rw [L4,U3,W4] at g3;simp only [vN] at g1;have g1:decide (1≤vN G n)=true:=g1;have g3:decide (vN G off+vN G n*z≤(vL G b.cells).length)=true:=g3;have g5:decide ((C1 (vV G zv)).length=z)=true:=yI (Rl hb1)
 have g6:decide (1≤z)=true:=yI (zA2 hb2);simp only [g1,g2,g5,g6,C6,vV,vVs,I6,Lo,G3,Yl,Y5];have g7:=zR g3;simp only [g7,decide_true,Bool.and_self]
theorem Yk {C:A1} (hG:C.G=G) {F:DFr} {H:DHp} {op:Op}:Ww G (Ox C.P F H op) (H7 C (vVs G F) (B8 G H) op):=by
 intro c v hp h hc;unfold Ox at h;split at h
 ·-- store
  simp only [H7,←vV_evD];split at h
  ·rename_i i off z he hz;simp only [he,hz,vV,vR];split at h
   ·rename_i b hb;split at h
    ·simp at h
    rename_i hr;have hr:∀ l,isRec ⟨b.esz,l⟩=false:=fun _=>hr;simp only [zN,xH] at h;obtain ⟨rfl,rfl,rfl⟩:=h;obtain ⟨g1,hc⟩:=C4 hc;obtain ⟨g2,g3⟩:=C4 hc;rw [O5,L4,W4] at g3;simp only [vN] at g3;have g3:decide (vN G off+z≤(vL G b.cells).length)=true:=g3;simp only [hr,Bool.not_false,G4 hb,C6,Ur _ g1,Ji g2,g3,beq_self_eq_true,Bool.and_self,vV,vVs,I6,Zy (Ji g2)]
   ·simp at h
  ·simp at h
 ·-- alloc
  simp only [H7];split at h
  ·rename_i z hz;simp only [Fg (G:=G) hz];simp only [zN,xH] at h;obtain ⟨rfl,rfl,rfl⟩:=h;simp only [vV,T7,vR,vN,here,E2,I6,C6,Y5]
  ·simp at h
 ·-- box
  simp only [H7,←vV_evD];split at h
  ·rename_i hk;simp only [zN,xH] at h;obtain ⟨rfl,rfl,rfl⟩:=h;simp only [nF hk,vV,T7,vR,vN,here,E2,I6,C6,Y5]
  ·simp at h
 ·-- buildSlice
  rename_i t n parts;simp only [H7];split at h
  rotate_left
  ·simp at h
  rename_i e hu;simp only [hu];split at h
  rotate_left
  ·simp at h
  rename_i z zv hz hzv;simp only [hz,Fg (G:=G) hzv];split at h
  rotate_left
  ·simp at h
  rename_i cs hcs;split at h
  rotate_left
  ·simp at h
  rename_i hb;obtain ⟨hok,hb⟩:=P6 hb;obtain ⟨hb1,hb2⟩:=P6 hb;have e0:C1 (vV G zv)=vVs G cs:=by rw [←Y5,hcs];simp only [vL]
  have e1:(vVs G cs).length=z:=by rw [O7];exact rG hb2
  split at h
  ·rename_i c' cs' hf;simp only [zN,xH] at h;obtain ⟨rfl,rfl,rfl⟩:=h
   have:=Xe _ _ _ _ hf hc
   have e2:vL G (.of (List.replicate n cs).flatten)=(List.replicate n (C1 (vV G zv))).flatten:=by
    simp only [vL,e0,Q8,List.map_flatten,List.map_replicate]
   rw [e2,List.map_map] at this
   have e3:(List.map ((fun p:Nat×EV=>(p.1,vV G p.2)) ∘ fun p:Nat×Operand=>(p.1,evD F p.2)) parts.toList)=List.map (fun p=>(p.1,ev (vVs G F) p.2)) parts.toList:=by
    refine List.map_congr_left fun p _=>?_;simp [vV_evD]
   rw [e3] at this;have hb1:decide (n*z≤16777216)=true:=yI (zA2 hb1);rw [e0] at this;simp only [hok,e0,this,e1,hb1,decide_true,Bool.and_self,vV,T7,vR,vN,here,E2,I6,C6]
  ·simp at h
 ·-- makeSlice
  simp only [H7,←vV_evD];split at h
  rotate_left
  ·simp at h
  rename_i e k l k' c' hu hl hc';simp only [hu,hl,hc',vV];split at h
  rotate_left
  ·simp at h
  rename_i i zv hi hz;simp only [hi,Fg (G:=G) hz];split at h
  rotate_left
  ·simp at h
  rename_i hb;obtain ⟨hok,hb⟩:=P6 hb;obtain ⟨hb1,hb2⟩:=P6 hb;simp only [zN,xH] at h;obtain ⟨rfl,rfl,rfl⟩:=h;obtain ⟨g1,hc⟩:=C4 hc;obtain ⟨g2,hc⟩:=C4 hc;obtain ⟨g3,g4⟩:=C4 hc;rw [W5] at g1 g2 g3 g4
  have ebig:vI G (Ox.mkBig c' i.bytes)=vI G c'*i.bytes:=by
   unfold Ox.mkBig
   split<;>simp [vI,vVs,vV,Vq]
  rw [ebig] at g3;simp only [vI] at g1 g3 g4;have g1:decide (0≤vI G l)=true:=yI (zR g1);have g2:decide (vI G l≤vI G c')=true:=yI (zR g2);have g3:decide (vI G c'*i.bytes≤140737488355328)=true:=yI (zR g3);have g4:decide (vI G c'≤140737488355328)=true:=yI (zR g4);have g5:decide ((C1 (vV G zv)).length=i.size)=true:=yI (Rl hb1);have g6:decide (1≤i.size)=true:=yI (zA2 hb2)
  simp only [hok,g1,g2,g3,g4,g5,g6,Bool.and_self,vV,T7,vR,vN,here,E2,I6,C6,Yl,Y5,Cn]
 ·-- convert
  simp only [H7,←vV_evD];split at h
  ·rename_i s h1 he;simp only [h1,he,vV];simp only [zN,xH] at h;obtain ⟨rfl,rfl,rfl⟩:=h;rw [O5,Cm] at hc;simp only [vN] at hc;have hc:decide ((vS G s).length≤140737488355328)=true:=hc;simp only [hc,vV,T7,vR,vN,here,E2,I6,C6,Cm,Zz]
  ·rename_i mb i off n h1 he;simp only [h1,he,vV,vR];split at h
   ·rename_i h2;simp only [h2];split at h
    ·rename_i b hb;split at h
     ·simp at h
     rename_i hr;have hr:isRec (C6 G b)=false:=hr;simp only [G4 hb,hr,Bool.not_false,Bool.true_and];simp only [zN,xH] at h;obtain ⟨rfl,rfl,rfl⟩:=h;rw [O5] at hc;simp only [vN] at hc;have hc:Nat.ble 1 (vN G n)=true:=Nat.ble_eq_true_of_le (A8.1 hc);simp only [hc,vV,vR,I6]
    ·simp at h
   ·simp at h
  ·simp at h
 ·-- append
  simp only [H7];split at h
  rotate_left
  ·simp at h
  rename_i s x t u h1 h2;simp only [h1,h2,←vV_evD];split at h
  ·rename_i e hu;simp only [hu];exact iW hG _ _ _ h hc
  ·rename_i hu;simp only [hu];exact iW hG _ _ _ h hc
  ·rename_i k hu;simp only [hu];exact wI _ _ _ h hc
  ·simp at h
 ·-- clear
  simp only [H7];split at h
  rotate_left
  ·simp at h
  rename_i x t h1 h2;simp only [h1,h2,←vV_evD];exact aP8 _ _ _ h hc
 ·simp at h
theorem aA9 {C:A1} (hG:C.G=G) {fam:TypeId→Option (Nat×Nat)} {F:DFr} {H:DHp} {op:Op} {c0:EB} {x:FamR} (h:oE fam C.P F H op=some (c0,x)) (h0:vB G c0=true):WoF G x (M7 C (vVs G F) (B8 G H) op):=by
 unfold oE at h;split at h
 ·rename_i t a;simp only [M7,←vV_evD];split at h
  ·rename_i r off he;simp only [he,vV];split at h
   ·simp at h
   ·rename_i hr;split at h
    ·rename_i c1 cs hcs;split at h
     ·rename_i y hp;simp only [zN,xH] at h;obtain ⟨rfl,rfl⟩:=h
      have hl:Kt C (B8 G H) t (vR G r) (vN G off)=V4 C.P t (vL G cs) (vN G off):=by
       unfold Kt;rw [Kx hG hcs h0];cases r with
       | rw i=>simp only [vR,Np]
       | ro n=>exact absurd rfl (hr n)
       | fm b c k=>simp only [vR,Np]
      rw [hl];exact fD hp
     ·simp at h
    ·simp at h
  ·simp at h
 ·simp only [M7,←vV_evD];split at h
  ·rename_i fs cs hu he;simp only [hu,he,vV];split at h
   ·rename_i fd hf;simp only [hf];split at h
    ·rename_i y hp;simp only [zN,xH] at h;obtain ⟨rfl,rfl⟩:=h
     have:=fD (G:=G) hp
     simpa only [vN] using this
    ·simp at h
   ·simp at h
  ·simp at h
 ·simp only [M7,←vV_evD];split at h
  ·rename_i len e cs k i hu he hi;simp only [hu,he,hi,vV];split at h
   ·rename_i z hz;simp only [hz];split at h
    ·rename_i y hp;simp only [zN,xH] at h;obtain ⟨rfl,rfl⟩:=h;obtain ⟨g1,g2⟩:=C4 h0
     have:=fD (G:=G) hp
     rw [Jf,Cn] at this;rw [W5] at g1 g2;have g1:decide (0≤vI G i)=true:=yI (by have:=zR g1;simpa only [vI] using this);have g2:decide (vI G i<len)=true:=yI (by have:=zR g2;simpa only [vI] using this);cases y with
     | val c v=>exact fun hc=>by simp only [this hc,g1,g2,Bool.and_self]
     | ptr n c v=>exact ⟨fun hc=>by simp only [this.1 hc,g1,g2,Bool.and_self],fun hc=>by simp only [this.2 hc,g1,g2,Bool.and_self]⟩
    ·simp at h
   ·simp at h
  ·simp at h
 ·simp at h
theorem iX (b:Nat) (f:Nat→Blk):∀ (c:Nat) (H:Hp),(acts H ((List.range c).map fun j=>Hop.set (b+j) (f j))).length=H.length∧∀ i,(acts H ((List.range c).map fun j=>Hop.set (b+j) (f j)))[i]?=if b≤i∧i<b+c∧i<H.length then some (some (f (i - b))) else H[i]?
 | 0,H=>⟨by simp [acts],fun i=>by rw [if_neg (by omega)];simp [acts]⟩
 | c+1,H=>by
  have app:∀ (hs ks:List Hop) (H:Hp),acts H (hs++ks)=acts (acts H hs) ks:=by
   intro hs
   induction hs with
   | nil=>intro ks H;rfl
   | cons h hs ih=>intro ks H;exact ih ks _
  obtain ⟨h1,h2⟩:=iX b f c H;rw [List.range_succ,List.map_append,app];simp only [List.map_cons,List.map_nil,acts,Hop.act];refine ⟨by rw [List.length_set,h1],fun i=>?_⟩;rw [zA5,h1];by_cases e:b+c=i
  ·subst e;rw [if_pos rfl];by_cases hl:b+c<H.length
   ·rw [if_pos hl,if_pos (by omega),show b+c - b=c by omega]
   ·rw [if_neg hl,if_neg (by omega),zA3 (by omega)]
  ·rw [if_neg e,h2];by_cases hi:b≤i∧i<b+c∧i<H.length
   ·rw [if_pos hi,if_pos (by omega)]
   ·rw [if_neg hi,if_neg (by omega)]
theorem vM {H:DHp} {b c z:Nat} {l l2:EL} {ls:List EV} {k:Nat} {N:List AV} (hf:Xi H b c=some (z,l,ls)) (hr:Qx (vL G l) (vVs G ls)=true) (hk:k<c) (hkl:k<(vL G l).length) (h2:vL G l2=Dz (vL G l) k N) :
  acts (B8 G H) ((Xf b c z l2).map (I6 G))=(B8 G H).set (b+k) (some ⟨z,N⟩):=by
 have e0:(Xf b c z l2).map (I6 G)=(List.range c).map fun j=>Hop.set (b+j) ⟨z,B1 (Dz (vL G l) k N) j⟩:=by
  unfold Xf;rw [List.map_map];refine List.map_congr_left fun j _=>?_;simp only [Function.comp,I6,C6,vL,vN,h2]
 rw [e0];obtain ⟨h1,h3⟩:=iX b (fun j=>⟨z,B1 (Dz (vL G l) k N) j⟩) c (B8 G H);refine List.ext_getElem? fun i=>?_;rw [h3,zA5]
 have hput:∀ j,B1 (Dz (vL G l) k N) j=if k=j then N else B1 (vL G l) j:=fun j=>by
  unfold B1 Dz;rw [zA5];by_cases e:k=j
  ·subst e;rw [if_pos rfl,if_pos rfl,if_pos hkl]
  ·rw [if_neg e,if_neg e]
 by_cases hi:b≤i∧i<b+c∧i<(B8 G H).length
 ·rw [if_pos hi,hput];by_cases e:b+k=i
  ·subst e;rw [if_pos rfl,if_pos (by omega),if_pos hi.2.2]
  ·rw [if_neg e,if_neg (by omega)]
   have:=bP hf hr (i:=i - b) (by omega)
   rw [show b+(i - b)=i by omega] at this;rw [this]
 ·rw [if_neg hi];by_cases e:b+k=i
  ·subst e
   have:=bP hf hr hk
   have:=(zP.1 this).1
   omega
  ·rw [if_neg e]
theorem fZ {C:A1} (hG:C.G=G) {F:DFr} {H:DHp} {op:Op} {c:EB} {hs:List DHop} (h:cQ C.P F H op=some (c,hs)) (hc:vB G c=true) :
  ∃ hp,H7 C (vVs G F) (B8 G H) op=some (true,.tup [],hp)∧hp.act (B8 G H)=acts (B8 G H) (hs.map (I6 G)):=by
 unfold cQ at h;split at h
 ·rename_i t a x;simp only [H7,←vV_evD];split at h
  ·rename_i b cc k off z he hz;simp only [he,hz,vV,vR];split at h
   ·rename_i z0 l ls hf;simp only [zN,xH] at h;obtain ⟨rfl,rfl⟩:=h;obtain ⟨g1,hc⟩:=C4 hc;obtain ⟨g2,hc⟩:=C4 hc;obtain ⟨g3,hc⟩:=C4 hc;obtain ⟨g4,hc⟩:=C4 hc;obtain ⟨g5,g6⟩:=C4 hc;rw [O5,L4] at g1 g3;simp only [vN] at g1 g3;have g1:=A8.1 g1;have g3:=A8.1 g3;simp only [vB] at g2;rw [O5,L4,W4] at g6;simp only [vN,vL] at g6;have g6:decide (vN G off+z≤(B1 (vL G l) (vN G k)).length)=true:=g6;have hr:∀ l',isRec ⟨z0,l'⟩=false:=fun _=>(Zp hf).1
    refine ⟨.set (b+vN G k) ⟨z0,G3 (B1 (vL G l) (vN G k)) (vN G off) (vV G (evD F x))⟩,?_,?_⟩
    ·simp only [bP hf g2 (show vN G k<cc by omega),hr,Bool.not_false,Ur _ g4,Ji g5,g6,beq_self_eq_true,Bool.and_self]
    ·rw [vM (k:=vN G k) (N:=G3 (B1 (vL G l) (vN G k)) (vN G off) (vV G (evD F x))) hf g2 (by omega) (by omega) (by simp only [vL,Zy (Ji g5)])];rfl
   ·simp at h
  ·simp at h
 ·simp at h
theorem Xp {F:DFr} {op:Op} {f:FuncId} {args:List EV} (h:Sb F op=some (f,args)):callOp (vVs G F) op=some (f,vVs G args):=by
 unfold Sb at h;split at h
 ·simp only [callOp,←vV_evD];split at h
  ·rename_i g cap he;simp only [zN,xH] at h;obtain ⟨rfl,rfl⟩:=h;simp only [he,vV,Qm,mY]
  ·simp at h
 ·simp at h
theorem kO {F:DFr} {op:Op} {i:Nat} {args:List EV} (h:cN F op=some (i,args)):yldOp (vVs G F) op=some (i,vVs G args):=by
 unfold cN at h;split at h
 ·simp only [yldOp,←vV_evD];split at h
  ·rename_i g he;simp only [zN,xH] at h;obtain ⟨rfl,rfl⟩:=h;simp only [he,vV,mY]
  ·simp at h
 ·simp at h
theorem yV {C:A1} (hG:C.G=G) {F:DFr} {H:DHp} (x:ResultVar):Wo G (dF C.P F H x) (Tn C (vVs G F) (B8 G H) x):=by
 intro c v h hc;unfold dF at h;unfold Tn;split at h
 ·simp only [zN,xH] at h;obtain ⟨rfl,rfl⟩:=h;simp only [Db,U2]
 ·simp only [U2];simp only [Db] at h;split at h
  ·rename_i r off he;simp only [he,vV];exact rU hG _ _ h hc
  ·simp at h
theorem Tp {C:A1} (hG:C.G=G) {F:DFr} {H:DHp}:∀ (xs:List ResultVar) (c:EB) (vs:List EV),Pm C.P F H xs=some (c,vs)→vB G c=true→Gm C (vVs G F) (B8 G H) xs=some (true,vVs G vs)
 | [],c,vs,h,_=>by
  simp only [Pm,zN,xH] at h;obtain ⟨rfl,rfl⟩:=h;simp only [Gm,vVs]
 | x::xs,c,vs,h,hc=>by
  unfold Pm at h;split at h
  ·rename_i c1 v h1;split at h
   ·rename_i d r h2;simp only [zN,xH] at h;obtain ⟨rfl,rfl⟩:=h;obtain ⟨g1,g2⟩:=C4 hc;simp only [Gm,yV hG x _ _ h1 g1,Tp hG xs _ _ h2 g2,Bool.and_self,vVs]
   ·simp at h
  ·simp at h
theorem aM {C:A1} (hG:C.G=G) {fn:Func} {F:DFr} {H:DHp}:Wo G (resD C.P fn F H) (Kb C fn (vVs G F) (B8 G H)):=by
 intro c v h hc;unfold resD at h;unfold Kb;split at h
 ·rename_i c' v' hr;simp only [zN,xH] at h;obtain ⟨rfl,rfl⟩:=h;simp only [Tp hG _ _ _ hr hc,vVs]
 ·rename_i c' vs hn hr;simp only [zN,xH] at h;obtain ⟨rfl,rfl⟩:=h;rw [Tp hG _ _ _ hr hc];cases vs with
  | nil=>simp only [vVs,vV]
  | cons x l=>cases l with
   | nil=>exact absurd rfl (hn _)
   | cons y l=>simp only [vVs,vV]
 ·simp at h
end
section
variable {G:Nat→List AV}
def vT (G:Nat→List AV) (Q:Ex→List AV→Hp→Prop) (R:AV→Hp→Prop):T→Prop
 | .fail=>False
 | .chk b t=>vB G b=true∧vT G Q R t
 | .tst b x y=>(vB G b=true→vT G Q R x)∧(vB G b=false→vT G Q R y)
 | .imp b t=>vB G b=true→vT G Q R t
 | .allI _ k=>∀ x,vT G Q R (k x)
 | .allN _ k=>∀ x,vT G Q R (k x)
 | .allB _ k=>∀ x,vT G Q R (k x)
 | .allL _ k=>∀ x,vT G Q R (k x)
 | .namI _ e k=>∀ x,x=vI G e→vT G Q R (k x)
 | .namN _ e k=>∀ x,x=vN G e→vT G Q R (k x)
 | .namB _ e k=>∀ x,x=vB G e→vT G Q R (k x)
 | .namL _ e k=>∀ x,x=vL G e→vT G Q R (k x)
 | .leaf e F H=>Q e (vVs G F) (B8 G H)
 | .ret v H=>R (vV G v) (B8 G H)
section
variable {Q:Ex→List AV→Hp→Prop} {R:AV→Hp→Prop}
theorem Q9:∀ (b:EB) {t:T},vT G Q R (Bz b t)→vB G b=true∧vT G Q R t
 | .lit true,t,h=>⟨rfl,h⟩
 | .lit false,t,h=>h.elim
 | .and a b,t,h=>by
  simp only [Bz] at h;obtain ⟨h1,h⟩:=Q9 a h;obtain ⟨h2,h⟩:=Q9 b h;exact ⟨by simp [vB,h1,h2],h⟩
 | .var ..,t,h=>h
 | .cmp ..,t,h=>h
 | .not ..,t,h=>h
 | .eqB ..,t,h=>h
 | .eqS ..,t,h=>h
 | .isI ..,t,h=>h
 | .isB ..,t,h=>h
 | .isT ..,t,h=>h
 | .isR ..,t,h=>h
 | .get ..,t,h=>h
 | .leN ..,t,h=>h
 | .eqN ..,t,h=>h
 | .leaf ..,t,h=>h
 | .u8s ..,t,h=>h
 | .cells ..,t,h=>h
 | .isF ..,t,h=>h
 | .isP ..,t,h=>h
 | .isNil ..,t,h=>h
 | .rows ..,t,h=>h
 | .uf ..,t,h=>h
def Bran (G:Nat→List AV) (Q:Ex→List AV→Hp→Prop) (R:AV→Hp→Prop) (n:Nat) (b:EB) (x y:Facts→T):Prop:=
 (vB G b=true∧∃ fs':Facts,fs'.n=n∧vT G Q R (x fs'))∨(vB G b=false∧∃ fs':Facts,fs'.n=n∧vT G Q R (y fs'))
theorem R8 {fs:Facts} {b:EB} {x y:Facts→T} (h:vT G Q R (match dec fs b with | some true=>.chk b (x fs) | some false=>.chk (.not b) (y fs) | none=>.tst b (x (Iy fs b true)) (y (Iy fs b false)))):Bran G Q R fs.n b x y:=by
 have hl:∀ v,(Iy fs b v).n=fs.n:=fun v=>by unfold Iy;rfl
 split at h
 ·exact .inl ⟨h.1,fs,rfl,h.2⟩
 ·refine .inr ⟨?_,fs,rfl,h.2⟩
  have:=h.1
  simpa [vB] using this
 ·cases hb:vB G b with
  | true=>exact .inl ⟨hb,_,hl _,h.1 hb⟩
  | false=>exact .inr ⟨hb,_,hl _,h.2 hb⟩
theorem T4:∀ (b:EB) (fs:Facts) (x y:Facts→T),vT G Q R (Ah fs b x y)→Bran G Q R fs.n b x y
 | .lit true,fs,x,y,h=>.inl ⟨rfl,fs,rfl,h⟩
 | .lit false,fs,x,y,h=>.inr ⟨rfl,fs,rfl,h⟩
 | .not b,fs,x,y,h=>by
  simp only [Ah] at h;rcases T4 b fs y x h with ⟨h1,h2⟩ | ⟨h1,h2⟩
  ·exact .inr ⟨by simp [vB,h1],h2⟩
  ·exact .inl ⟨by simp [vB,h1],h2⟩
 | .and a b,fs,x,y,h=>by
  simp only [Ah] at h;rcases T4 a fs _ _ h with ⟨h1,fs1,e1,h2⟩ | ⟨h1,h2⟩
  ·rcases T4 b fs1 _ _ h2 with ⟨h3,h4⟩ | ⟨h3,h4⟩
   ·rw [e1] at h4;exact .inl ⟨by simp [vB,h1,h3],h4⟩
   ·rw [e1] at h4;exact .inr ⟨by simp [vB,h1,h3],h4⟩
  ·exact .inr ⟨by simp [vB,h1],h2⟩
 | .eqB a b,fs,x,y,h=>by
  simp only [Ah] at h;rcases T4 a fs _ _ h with ⟨h1,fs1,e1,h2⟩ | ⟨h1,fs1,e1,h2⟩
  ·rcases T4 b fs1 _ _ h2 with ⟨h3,h4⟩ | ⟨h3,h4⟩
   ·rw [e1] at h4;exact .inl ⟨by simp [vB,h1,h3],h4⟩
   ·rw [e1] at h4;exact .inr ⟨by simp [vB,h1,h3],h4⟩
  ·rcases T4 b fs1 _ _ h2 with ⟨h3,h4⟩ | ⟨h3,h4⟩
   ·rw [e1] at h4;exact .inr ⟨by simp [vB,h1,h3],h4⟩
   ·rw [e1] at h4;exact .inl ⟨by simp [vB,h1,h3],h4⟩
 | .var ..,fs,x,y,h=>R8 h
 | .cmp ..,fs,x,y,h=>R8 h
 | .eqS ..,fs,x,y,h=>R8 h
 | .isI ..,fs,x,y,h=>R8 h
 | .isB ..,fs,x,y,h=>R8 h
 | .isT ..,fs,x,y,h=>R8 h
 | .isR ..,fs,x,y,h=>R8 h
 | .get ..,fs,x,y,h=>R8 h
 | .leN ..,fs,x,y,h=>R8 h
 | .eqN ..,fs,x,y,h=>R8 h
 | .leaf ..,fs,x,y,h=>R8 h
 | .u8s ..,fs,x,y,h=>R8 h
 | .cells ..,fs,x,y,h=>R8 h
 | .isF ..,fs,x,y,h=>R8 h
 | .isP ..,fs,x,y,h=>R8 h
 | .isNil ..,fs,x,y,h=>R8 h
 | .rows ..,fs,x,y,h=>R8 h
 | .uf ..,fs,x,y,h=>R8 h
theorem Cl {o:Option (EB×EV)} {k:EV→T} (h:vT G Q R (aT o k)):∃ c v,o=some (c,v)∧vB G c=true∧vT G Q R (k v):=by
 unfold aT at h;split at h
 ·rename_i c v;obtain ⟨h1,h2⟩:=Q9 c h;exact ⟨c,v,rfl,h1,h2⟩
 ·exact h.elim
end
def Eb (G:Nat→List AV) (P:EV→List DHop→Prop):Outs→Prop
 | .one v hs=>P v hs
 | .chk b x=>vB G b=true→Eb G P x
 | .tst b x y=>(vB G b=true→Eb G P x)∧(vB G b=false→Eb G P y)
 | .namI e f=>∀ j,Eb G P (f (.var j (vI G e)))
 | .namN e f=>∀ j,Eb G P (f (.var j (vN G e)))
 | .namB e f=>∀ j,Eb G P (f (.var j (vB G e)))
 | .namL e f=>∀ j,Eb G P (f (.var j (vL G e)))
theorem W1 {Q:Ex→List AV→Hp→Prop} {R:AV→Hp→Prop} {P:EV→List DHop→Prop} {k:Facts→EV→List DHop→T}:∀ (o:Outs) (fs:Facts),vT G Q R (Cx fs o k)→Eb G P o→∃ fs' v hs,P v hs∧vT G Q R (k fs' v hs)
 | .one v hs,fs,h,ho=>⟨fs,v,hs,ho,h⟩
 | .chk b x,fs,h,ho=>by
  simp only [Cx] at h;obtain ⟨h1,h2⟩:=Q9 b h;exact W1 x fs h2 (ho h1)
 | .tst b x y,fs,h,ho=>by
  simp only [Cx] at h;rcases T4 b fs _ _ h with ⟨h1,fs1,_,h2⟩ | ⟨h1,fs1,_,h2⟩
  ·exact W1 x fs1 h2 (ho.1 h1)
  ·exact W1 y fs1 h2 (ho.2 h1)
 | .namI e f,fs,h,ho=>W1 (f (.var fs.n (vI G e))) (fresh fs) (h _ rfl) (ho _)
 | .namN e f,fs,h,ho=>W1 (f (.var fs.n (vN G e))) (fresh fs) (h _ rfl) (ho _)
 | .namB e f,fs,h,ho=>W1 (f (.var fs.n (vB G e))) (fresh fs) (h _ rfl) (ho _)
 | .namL e f,fs,h,ho=>W1 (f (.var fs.n (vL G e))) (fresh fs) (h _ rfl) (ho _)
def J2 (G:Nat→List AV) (Q:Ex→DFr→DHp→Prop):Nat→LOut→Prop
 | _,.one e F H=>Q e F H
 | n,.chk b x=>vB G b=true∧J2 G Q n x
 | n,.tst b x y=>(vB G b=true→J2 G Q n x)∧(vB G b=false→J2 G Q n y)
 | n,.imp b x=>vB G b=true→J2 G Q n x
 | n,.allI f=>∀ x,J2 G Q (n+1) (f (.var n x))
 | n,.allN f=>∀ x,J2 G Q (n+1) (f (.var n x))
 | n,.allB f=>∀ x,J2 G Q (n+1) (f (.var n x))
 | n,.allL f=>∀ x,J2 G Q (n+1) (f (.var n x))
 | n,.namI e f=>J2 G Q (n+1) (f (.var n (vI G e)))
 | n,.namN e f=>J2 G Q (n+1) (f (.var n (vN G e)))
 | n,.namB e f=>J2 G Q (n+1) (f (.var n (vB G e)))
 | n,.namL e f=>J2 G Q (n+1) (f (.var n (vL G e)))
theorem Q4 {Q:Ex→List AV→Hp→Prop} {R:AV→Hp→Prop} {k:Facts→Ex→DFr→DHp→T}:∀ (o:LOut) (fs:Facts),vT G Q R (Y9 fs o k)→J2 G (fun e F H=>∃ fs',vT G Q R (k fs' e F H)) fs.n o
 | .one e F H,fs,h=>⟨fs,h⟩
 | .chk b x,fs,h=>by
  simp only [Y9] at h;obtain ⟨h1,h2⟩:=Q9 b h;exact ⟨h1,Q4 x fs h2⟩
 | .tst b x y,fs,h=>by
  simp only [Y9] at h;rcases T4 b fs _ _ h with ⟨h1,fs1,e1,h2⟩ | ⟨h1,fs1,e1,h2⟩
  ·have:=Q4 x fs1 h2
   rw [e1] at this;exact ⟨fun _=>this,fun hb=>by rw [h1] at hb;simp at hb⟩
  ·have:=Q4 y fs1 h2
   rw [e1] at this;exact ⟨fun hb=>by rw [h1] at hb;simp at hb,fun _=>this⟩
 | .imp b x,fs,h=>fun hb=>Q4 x (Iy fs b true) (h hb)
 | .allI f,fs,h=>fun x=>Q4 (f (.var fs.n x)) (fresh fs) (h x)
 | .allN f,fs,h=>fun x=>Q4 (f (.var fs.n x)) (fresh fs) (h x)
 | .allB f,fs,h=>fun x=>Q4 (f (.var fs.n x)) (fresh fs) (h x)
 | .allL f,fs,h=>fun x=>Q4 (f (.var fs.n x)) (fresh fs) (h x)
 | .namI e f,fs,h=>Q4 (f (.var fs.n _)) (fresh fs) (h _ rfl)
 | .namN e f,fs,h=>Q4 (f (.var fs.n _)) (fresh fs) (h _ rfl)
 | .namB e f,fs,h=>Q4 (f (.var fs.n _)) (fresh fs) (h _ rfl)
 | .namL e f,fs,h=>Q4 (f (.var fs.n _)) (fresh fs) (h _ rfl)
def E1 (C:A1) (f:FuncId) (args:List EV) (H:DHp) (v:EV) (hs:List DHop):Prop:=
 ACalls C f (vVs C.G args) (B8 C.G H) fun v' H'=>v'=vV C.G v∧H'=acts (B8 C.G H) (hs.map (I6 C.G))
def DYld (C:A1) (i:Nat) (args:List EV) (H:DHp) (v:EV) (hs:List DHop):Prop:=
 AYld C i (vVs C.G args) (B8 C.G H) fun v' H'=>v'=vV C.G v∧H'=acts (B8 C.G H) (hs.map (I6 C.G))
structure DGood (C:A1) (K:DCfg) (lps:List Code):Prop where
 hP:K.P=C.P
 mix:C.P.follows .mixedOrders=true
 calls:∀ f args H o,K.sum f args H=some o→Eb C.G (E1 C f args H) o
 loops:∀ m c F H o,m≤K.M→c∈lps→K.loop c F H=some o→∀ n (Q:Post),J2 C.G (fun e F' H'=>Q e (vVs C.G F') (B8 C.G H')) n o→AWp C m (.loop c) (vVs C.G F) (B8 C.G H) Q
 inl:∀ f fn c,K.inl f=true→C.P.funcs[f]?=some fn→fn.body=some c→∀ b∈loopsOf c,b∈lps
 rngs:∀ m c F H o,m≤K.M→c∈lps→K.rng c F H=some o→∀ n (Q:Post),J2 C.G (fun e F' H'=>Q e (vVs C.G F') (B8 C.G H')) n o→AWp C m c (vVs C.G F) (B8 C.G H) Q
 ylds:∀ i args H o,K.ysum i args H=some o→Eb C.G (DYld C i args H) o
def K0 (C:A1):Cfg:={ C:=C,inl:=fun _=>false,strict:=.lazy,unr:=false,sum:=fun _ _ _=>none,loop:=fun _ _ _=>none,M:=0 }
theorem Fz {C:A1} (h:C.P.follows .mixedOrders=true) (lps:List Code):Ee (K0 C) lps:=⟨h,fun f args H v hs h=>by simp [K0] at h,fun m c F H e F' H' _ _ h=>by simp [K0] at h⟩
noncomputable def vTrK (G:Nat→List AV):DTrK→TrK
 | .still=>.still
 | .read r=>.read (vR G r)
 | .write=>.write
noncomputable def gC (G:Nat→List AV) (t:cK):Tr:=⟨vTrK G t.kd,t.len,t.hs.map (I6 G)⟩
noncomputable def vWk (G:Nat→List AV):jB→Wk
 | .code c=>.code c
 | .ops all l=>.ops all l
 | .dr all l trs=>.dr all l (trs.map (gC G))
theorem lD (i:Nat):∀ (hs:List DHop) (len:Nat),Iu i len (hs.map (I6 G))=Pd i len hs
 | [],_=>rfl
 | h::hs,len=>by cases h<;>simp only [List.map_cons,I6,Iu,Pd,lD i hs]
theorem gG (r:ER) (hs:List DHop) (len:Nat) (h:Pc r len hs=false):Lq (vR G r) len (hs.map (I6 G))=false:=by
 cases r with
 | rw i=>simp only [Pc] at h;simp only [vR,Lq,lD,h]
 | ro n=>simp only [vR,Lq]
 | fm b c k=>simp [Pc] at h
theorem aD4 (x y:cK) (h:fU x y=true):Bs (gC G x) (gC G y)=true:=by
 obtain ⟨kx,lx,hx⟩:=x;obtain ⟨ky,ly,hy⟩:=y;cases kx<;>cases ky<;>simp only [gC,vTrK,Bs,fU] at h ⊢
 ·rw [gG _ _ _ (by simpa using h)];rfl
 ·rw [gG _ _ _ (by simpa using h)];rfl
 ·cases h
theorem aB7 (all:List Oper) (trs:List cK) (h:fL all trs=true):X4 all (trs.map (gC G))=true:=by
 unfold fL at h;unfold X4;simp only [zO,qD,Bool.or_eq_true] at h ⊢;refine ⟨h.1,fun j hj i hi=>?_⟩;rcases h.2 j hj i hi with h1 | h1
 ·exact .inl h1
 ·refine .inr ?_;simp only [zA0]
  revert h1
  cases all[i]?<;>cases all[j]?<;>cases trs[i]?<;>cases trs[j]?<;>simp;intro g1 g2;exact ⟨g1,aD4 _ _ g2⟩
theorem Mq:∀ (H':DHp) (p:Bool) (i:Nat) (hs:List DHop),Bq p i H'=some hs→X8 p i (B8 G H')=some (hs.map (I6 G))
 | [],false,i,hs,h=>by simp [Bq] at h;subst h;rfl
 | [],true,i,hs,h=>by simp [Bq] at h
 | some b::H',false,i,hs,h=>by
  simp only [Bq] at h;split at h
  ·rename_i hs' h1;simp at h;subst h
   have:=Mq H' false (i+1) hs' h1
   simp only [B8] at this;simp only [B8,List.map_cons,Option.map_some,X8,this,I6]
  ·simp at h
 | some b::H',true,i,hs,h=>by
  simp only [Bq] at h;split at h
  ·rename_i hs' h1;simp at h;subst h
   have:=Mq H' false (i+1) hs' h1
   simp only [B8] at this;simp only [B8,List.map_cons,Option.map_some,X8,this,I6]
  ·simp at h
 | none::H',false,i,hs,h=>by
  simp only [Bq] at h;split at h
  ·rename_i hs' h1;simp at h;subst h
   have:=Mq H' true (i+1) hs' h1
   simp only [B8] at this;simp only [B8,List.map_cons,Option.map_none,X8,this,I6,C6,vL,vVs]
  ·simp at h
 | none::H',true,i,hs,h=>by
  simp only [Bq] at h;split at h
  ·rename_i hs' h1;simp at h;subst h
   have:=Mq H' true (i+1) hs' h1
   simp only [B8] at this;simp only [B8,List.map_cons,Option.map_none,X8,this,I6,C6,vL,vVs]
  ·simp at h
theorem fR:∀ (H H':DHp) (i:Nat) (hs:List DHop),Ja i H H'=some hs→Ag false i (B8 G H) (B8 G H')=some (hs.map (I6 G))
 | [],H',i,hs,h=>by
  simp only [Ja] at h
  have:=Mq (G:=G) H' false i hs h
  simp only [B8,List.map_nil,Ag] at this ⊢;exact this
 | x::H,some b::H',i,hs,h=>by
  cases x<;>simp only [Ja] at h
  all_goals
   split at h
   ·rename_i hs' h1;simp at h;subst h
    have:=fR H H' (i+1) hs' h1
    simp only [B8] at this;simp only [B8,List.map_cons,Option.map_some,Option.map_none,Ag,Bool.false_and,this,I6]
   ·simp at h
 | none::H,none::H',i,hs,h=>by
  simp only [Ja] at h
  have:=fR H H' (i+1) hs h
  simp only [B8] at this;simp only [B8,List.map_cons,Option.map_none,Ag,this]
 | some _::H,none::H',i,hs,h=>by simp [Ja] at h
 | some _::H,[],i,hs,h=>by simp [Ja] at h
 | none::H,[],i,hs,h=>by simp [Ja] at h
theorem Mp (fn:Func) (args:List EV):vVs G (De fn args)=K7 fn (vVs G args):=by
 unfold De K7;rw [Qm,O7];congr 1;rw [Q8,List.map_replicate];simp only [vV,vVs]
theorem M8 (F:DFr) (d:Option Tmp) (v:EV):vVs G (K5 F d v)=put (vVs G F) d (vV G v):=by
 cases d<;>simp only [K5,Qt,put,pZ]
theorem gU {K:DCfg} {r1 r2:Code→Bool} (h:∀ c,r1 c=true→r2 c=true):∀ c,R7 K r1 c=true→R7 K r2 c=true:=by
 have op:∀ o,Cd K r1 o=true→Cd K r2 o=true:=fun o ho=>by
  unfold Cd at ho ⊢
  split at ho<;>first
   | rfl
   | (simp at ho;done)
   | skip
  split at ho
  ·rename_i g _ _;obtain ⟨h1,h2⟩:=P6 ho;rw [h1];simp only [Bool.true_and];split at h2
   ·split at h2
    ·exact h _ h2
    ·rfl
   ·rfl
  ·simp at ho
 intro c
 induction c with
 | region id ops d=>simp only [R7,qD];exact fun h o ho=>op o (h o ho)
 | seq a b iha ihb=>simp only [R7,zO];exact fun h=>⟨iha h.1,ihb h.2⟩
 | cond x a b iha ihb=>simp only [R7,zO];exact fun h=>⟨iha h.1,ihb h.2⟩
 | block id c ih=>exact ih
 | scope c ih=>exact ih
 | _=>intro h;simp_all [R7]
theorem Ya {K:DCfg}:∀ d c,P4 K d c=true→P4 K (d+1) c=true
 | 0,c,h=>by simp [P4] at h
 | d+1,c,h=>gU (Ya d) c h
def I2 (H:DHp):T→Prop
 | .fail=>True
 | .chk _ t=>I2 H t
 | .tst _ x y=>I2 H x∧I2 H y
 | .imp _ t=>I2 H t
 | .allI _ k=>∀ x,I2 H (k x)
 | .allN _ k=>∀ x,I2 H (k x)
 | .allB _ k=>∀ x,I2 H (k x)
 | .allL _ k=>∀ x,I2 H (k x)
 | .namI _ _ k=>∀ x,I2 H (k x)
 | .namN _ _ k=>∀ x,I2 H (k x)
 | .namB _ _ k=>∀ x,I2 H (k x)
 | .namL _ _ k=>∀ x,I2 H (k x)
 | .leaf ..=>True
 | .ret _ H'=>H'=H
theorem Fy {H:DHp}:∀ (b:EB) {t:T},I2 H t→I2 H (Bz b t)
 | .lit true,t,h=>h
 | .lit false,t,h=>trivial
 | .and a b,t,h=>by simp only [Bz];exact Fy a (Fy b h)
 | .var ..,t,h=>h
 | .cmp ..,t,h=>h
 | .not ..,t,h=>h
 | .eqB ..,t,h=>h
 | .eqS ..,t,h=>h
 | .isI ..,t,h=>h
 | .isB ..,t,h=>h
 | .isT ..,t,h=>h
 | .isR ..,t,h=>h
 | .get ..,t,h=>h
 | .leN ..,t,h=>h
 | .eqN ..,t,h=>h
 | .leaf ..,t,h=>h
 | .u8s ..,t,h=>h
 | .cells ..,t,h=>h
 | .isF ..,t,h=>h
 | .isP ..,t,h=>h
 | .isNil ..,t,h=>h
 | .rows ..,t,h=>h
 | .uf ..,t,h=>h
theorem R9 {H:DHp} {fs:Facts} {b:EB} {x y:Facts→T} (hx:∀ fs,I2 H (x fs)) (hy:∀ fs,I2 H (y fs)) :
  I2 H (match dec fs b with | some true=>.chk b (x fs) | some false=>.chk (.not b) (y fs) | none=>.tst b (x (Iy fs b true)) (y (Iy fs b false))):=by
 split
 ·exact hx _
 ·exact hy _
 ·exact ⟨hx _,hy _⟩
theorem Bv {H:DHp}:∀ (b:EB) (fs:Facts) (x y:Facts→T),(∀ fs,I2 H (x fs))→(∀ fs,I2 H (y fs))→I2 H (Ah fs b x y)
 | .lit true,fs,x,y,hx,hy=>hx _
 | .lit false,fs,x,y,hx,hy=>hy _
 | .not b,fs,x,y,hx,hy=>by simp only [Ah];exact Bv b fs y x hy hx
 | .and a b,fs,x,y,hx,hy=>by simp only [Ah];exact Bv a fs _ _ (fun fs=>Bv b fs x y hx hy) hy
 | .eqB a b,fs,x,y,hx,hy=>by simp only [Ah];exact Bv a fs _ _ (fun fs=>Bv b fs x y hx hy) (fun fs=>Bv b fs y x hy hx)
 | .var ..,fs,x,y,hx,hy=>R9 hx hy
 | .cmp ..,fs,x,y,hx,hy=>R9 hx hy
 | .eqS ..,fs,x,y,hx,hy=>R9 hx hy
 | .isI ..,fs,x,y,hx,hy=>R9 hx hy
 | .isB ..,fs,x,y,hx,hy=>R9 hx hy
 | .isT ..,fs,x,y,hx,hy=>R9 hx hy
 | .isR ..,fs,x,y,hx,hy=>R9 hx hy
 | .get ..,fs,x,y,hx,hy=>R9 hx hy
 | .leN ..,fs,x,y,hx,hy=>R9 hx hy
 | .eqN ..,fs,x,y,hx,hy=>R9 hx hy
 | .leaf ..,fs,x,y,hx,hy=>R9 hx hy
 | .u8s ..,fs,x,y,hx,hy=>R9 hx hy
 | .cells ..,fs,x,y,hx,hy=>R9 hx hy
 | .isF ..,fs,x,y,hx,hy=>R9 hx hy
 | .isP ..,fs,x,y,hx,hy=>R9 hx hy
 | .isNil ..,fs,x,y,hx,hy=>R9 hx hy
 | .rows ..,fs,x,y,hx,hy=>R9 hx hy
 | .uf ..,fs,x,y,hx,hy=>R9 hx hy
theorem rZ {H:DHp} {fs:Facts} {o:EB×FamR} {k:Facts→EV→T} (h:∀ fs v,I2 H (k fs v)):I2 H (fB fs o k):=by
 obtain ⟨c0,x⟩:=o;cases x with
 | val c v=>exact Fy c0 (Fy c (h _ _))
 | ptr n c v=>exact Fy c0 (Bv n fs _ _ (fun fs=>h _ _) (fun fs=>Fy c (h _ _)))
theorem Qa {H:DHp} {o:Option (EB×EV)} {k:EV→T} (h:∀ v,I2 H (k v)):I2 H (aT o k):=by
 unfold aT;split
 ·exact Fy _ (h _)
 ·trivial
def aV:Outs→Prop
 | .one _ hs=>hs=[]
 | .chk _ x=>aV x
 | .tst _ x y=>aV x∧aV y
 | .namI _ f=>∀ x,aV (f x)
 | .namN _ f=>∀ x,aV (f x)
 | .namB _ f=>∀ x,aV (f x)
 | .namL _ f=>∀ x,aV (f x)
theorem Fx {H:DHp} {k:Facts→EV→List DHop→T} (hk:∀ fs v,I2 H (k fs v [])):∀ (o:Outs) (fs:Facts),aV o→I2 H (Cx fs o k)
 | .one v hs,fs,ho=>by have:hs=[]:=ho;subst this;exact hk _ _
 | .chk b x,fs,ho=>Fy b (Fx hk x fs ho)
 | .tst b x y,fs,ho=>Bv b fs _ _ (fun fs=>Fx hk x fs ho.1) (fun fs=>Fx hk y fs ho.2)
 | .namI e f,fs,ho=>fun x=>Fx hk _ _ (ho _)
 | .namN e f,fs,ho=>fun x=>Fx hk _ _ (ho _)
 | .namB e f,fs,ho=>fun x=>Fx hk _ _ (ho _)
 | .namL e f,fs,ho=>fun x=>Fx hk _ _ (ho _)
theorem Wp {H:DHp}:∀ (t:T) (o:Outs),I5 true H t=some o→aV o
 | .ret v H',o,h=>by simp [I5] at h;subst h;rfl
 | .chk b t,o,h=>by
  simp only [I5] at h;split at h
  ·rename_i o' h1;simp at h;subst h;exact Wp t o' h1
  ·simp at h
 | .tst b x y,o,h=>by
  simp only [I5] at h;split at h
  ·rename_i o1 o2 h1 h2;simp at h;subst h;exact ⟨Wp x o1 h1,Wp y o2 h2⟩
  ·simp at h
 | .fail,o,h=>by simp [I5] at h
 | .allI ..,o,h=>by simp [I5] at h
 | .allN ..,o,h=>by simp [I5] at h
 | .allB ..,o,h=>by simp [I5] at h
 | .allL ..,o,h=>by simp [I5] at h
 | .leaf ..,o,h=>by simp [I5] at h
 | .imp ..,o,h=>by simp [I5] at h
 | .namI ..,o,h=>by simp [I5] at h
 | .namN ..,o,h=>by simp [I5] at h
 | .namB ..,o,h=>by simp [I5] at h
 | .namL ..,o,h=>by simp [I5] at h
def jU (K:DCfg):jB→Bool
 | .code c=>P4 K 20 c
 | .ops _ l=>l.all (Cd K (P4 K 20))
 | .dr _ l _=>l.all (Cd K (P4 K 20))
theorem gT {K:DCfg} {o:Oper} {F:DFr} {f:FuncId} {args:List EV} (hk:kdOf K.P o.op=.call) (hr:Cd K (P4 K 20) o=true) (hc:Sb F o.op=some (f,args)) :
  K.inl f=true∧∀ fn c,K.P.funcs[f]?=some fn→fn.body=some c→P4 K 20 c=true:=by
 unfold Cd at hr;rw [hk] at hr;simp only at hr;split at hr
 ·rename_i g args' ts hop;rw [hop] at hc;simp only [Sb,evD,zN,xH] at hc;obtain ⟨rfl,_⟩:=hc;obtain ⟨h1,h2⟩:=P6 hr;refine ⟨h1,fun fn c hf hb=>?_⟩;rw [hf] at h2;simp only [hb] at h2;exact h2
 ·simp at hr
theorem lW {K:DCfg} {o:Oper} {F:DFr} {i:Nat} {args:List EV} (hk:kdOf K.P o.op=.call) (hr:Cd K (P4 K 20) o=true) (hc:cN F o.op=some (i,args)):False:=by
 unfold Cd at hr;rw [hk] at hr;simp only at hr;split at hr
 ·rename_i g args' ts hop;rw [hop] at hc;simp [cN,evD] at hc
 ·simp at hr
theorem dx_ro {K:DCfg}:∀ n m wk F H fs q,jU K wk=true→(∀ e F fs,I2 H (q e F H fs))→I2 H (dx K n m wk F H fs q):=by
  intro n
  induction n with
  | zero => intro m wk F H fs q _ _; trivial
  | succ n ih=>
    intro m wk F H fs q hr hq
    have guard:∀ {all:List Oper} {g:Option (Nat×Bool)} {go skip:DFr→Facts→T},(∀ F fs,I2 H (go F fs))→(∀ F fs,I2 H (skip F fs))→I2 H (Mo fs all g F go skip):=by
      intro all g go skip h1 h2;unfold Mo;split
      · exact h1 _ _
      · split
        · split
          · refine Bv _ _ _ _ (fun fs=>?_) (fun fs=>?_)<;>split<;>first | exact h1 _ _ | exact h2 _ _
          · exact h2 _ _
          · trivial
        · trivial
    cases wk with
    | ops all l=>
      show I2 H (Lt K (dx K n) m all l F H fs q);cases l with
      | nil=>exact hq _ _ _
      | cons o l=>
        obtain ⟨dst,op,ty,pos,after,g⟩:=o;simp only [jU,List.all_cons,zO] at hr;obtain ⟨ho,hl⟩:=hr;simp only [Lt];refine guard (fun F fs=>?_) (fun F fs=>ih _ _ _ _ _ _ hl hq);unfold Hq;split
        · exact Qa fun v=>ih _ (.ops all l) _ _ _ _ hl hq
        · split
          · exact rZ fun fs v=>ih _ (.ops all l) _ _ _ _ hl hq
          · exact Qa fun v=>ih _ (.ops all l) _ _ _ _ hl hq
        · rename_i hk;simp [Cd,hk] at ho
        · rename_i hk;split
          · rename_i f args hc;obtain ⟨hi,hb⟩:=gT hk ho hc;rw [hi];simp only;split
            · rename_i fn hf;split
              · rename_i c hbody;split
                · trivial
                · refine ih _ (.code c) _ _ _ _ (hb fn c hf hbody) fun e F fs=>?_;unfold Me;split
                  · trivial
                  · exact Qa fun v=>ih _ _ _ _ _ _ hl hq
              · trivial
            · trivial
          · split
            · rename_i i args hy;exact (lW hk ho hy).elim
            · trivial
    | dr all l trs=>
      show I2 H (Hr K (dx K n) m all l trs F H fs q);cases l with
      | nil=>
        simp only [Hr];split
        · exact hq _ _ _
        · trivial
      | cons o l=>
        obtain ⟨dst,op,ty,pos,after,g⟩:=o;simp only [jU,List.all_cons,zO] at hr;obtain ⟨ho,hl⟩:=hr;simp only [Hr];refine guard (fun F fs=>?_) (fun F fs=>ih _ (.dr all l _) _ _ _ _ hl hq);unfold Th;split
        · exact Qa fun v=>ih _ (.dr all l _) _ _ _ _ hl hq
        · split
          · exact rZ fun fs v=>ih _ (.dr all l _) _ _ _ _ hl hq
          · exact Qa fun v=>ih _ (.dr all l _) _ _ _ _ hl hq
        · rename_i hk;simp [Cd,hk] at ho
        · rename_i hk;split
          · rename_i f args hc;obtain ⟨hi,hb⟩:=gT hk ho hc;rw [hi];simp only;split
            · rename_i fn hf;split
              · rename_i c hbody;split
                · trivial
                · split
                  · rename_i o' ho';rw [hb fn c hf hbody] at ho';exact Fx (fun fs v=>ih _ (.dr all l _) _ _ _ _ hl hq) o' fs (Wp _ _ ho')
                  · trivial
              · trivial
            · trivial
          · split
            · rename_i i args hy;exact (lW hk ho hy).elim
            · trivial
    | code c=>
      have sub:∀ {c':Code},R7 K (P4 K 19) c'=true→jU K (.code c')=true:=fun h=>h;show I2 H (Y6 K (dx K n) m c F H fs q);have hr:R7 K (P4 K 19) c=true:=hr
      have opsOk:∀ {l:List Oper},l.all (Cd K (P4 K 19))=true→l.all (Cd K (P4 K 20))=true:=fun {l} h=>by
        have:=gU (K:=K) (r1:=P4 K 19) (r2:=P4 K 20) (fun c=>Ya 19 c) (.region 0 l.toArray false) (by simpa [R7] using h)
        simpa [R7] using this
      cases c with
      | skip=>exact hq _ _ _
      | region id ops draw=>
        simp only [R7] at hr;cases draw with
        | true=>exact ih _ (.dr _ _ _) _ _ _ _ (opsOk hr) hq
        | false=>exact ih _ (.ops _ _) _ _ _ _ (opsOk hr) hq
      | seq a b=>
        simp only [R7,zO] at hr;refine ih _ (.code a) _ _ _ _ (sub hr.1) fun e F fs=>?_;unfold Wc;split
        · exact ih _ (.code b) _ _ _ _ (sub hr.2) hq
        · exact hq _ _ _
      | cond x a b=>
        simp only [R7,zO] at hr;obtain ⟨ra,rb⟩:=hr;simp only [Y6,Fm];split
        · split
          · exact Bv _ _ _ _ (fun fs=>ih _ (.code a) _ _ _ _ (sub ra) hq) (fun fs=>ih _ (.code b) _ _ _ _ (sub rb) hq)
          · trivial
        · split
          · exact ih _ (.code a) _ _ _ _ (sub ra) hq
          · exact ih _ (.code b) _ _ _ _ (sub rb) hq
        · trivial
      | block id c=>
        refine ih _ (.code c) _ _ _ _ (sub hr) fun e F fs=>?_;unfold Ms;split
        · split
          · exact hq _ _ _
          · exact hq _ _ _
        · exact hq _ _ _
      | loop c=>simp [R7] at hr
      | exit i=>exact hq _ _ _
      | scope c=>exact ih _ (.code c) _ _ _ _ (sub hr) hq
      | label i=>exact hq _ _ _
      | ret=>exact hq _ _ _
      | _=>simp [R7] at hr
theorem Wq {C:A1} {f:FuncId} {args:List EV} {H:DHp} {ro:Bool}:∀ (t:T) (o:Outs),I5 ro H t=some o→(ro=true→I2 H t)→
  (∀ R:AV→Hp→Prop,vT C.G (fun _ _ _=>False) R t→ACalls C f (vVs C.G args) (B8 C.G H) R)→Eb C.G (E1 C f args H) o
 | .ret v H',o,h,hro,hc=>by
  simp only [I5] at h;split at h
  ·simp at h;subst h
   have:=hro rfl
   simp only [I2] at this;subst this;exact hc _ ⟨rfl,rfl⟩
  ·split at h
   ·rename_i hs hd;simp at h;subst h;have e:=Jv 0 [] _ _ _ rfl (fR (G:=C.G) _ _ _ _ hd);simp only [List.nil_append] at e;exact hc _ ⟨rfl,e.symm⟩
   ·simp at h
 | .chk b t,o,h,hro,hc=>by
  simp only [I5] at h;split at h
  ·rename_i o' h1;simp at h;subst h;exact fun hb=>Wq t o' h1 hro fun R hR=>hc R ⟨hb,hR⟩
  ·simp at h
 | .tst b x y,o,h,hro,hc=>by
  simp only [I5] at h;split at h
  ·rename_i o1 o2 h1 h2;simp at h;subst h
   exact ⟨fun hb=>Wq x o1 h1 (fun hr=>(hro hr).1) fun R hR=>hc R ⟨fun _=>hR,fun hb'=>by rw [hb] at hb';simp at hb'⟩,
    fun hb=>Wq y o2 h2 (fun hr=>(hro hr).2) fun R hR=>hc R ⟨fun hb'=>by rw [hb] at hb';simp at hb',fun _=>hR⟩⟩
  ·simp at h
 | .fail,o,h,_,_=>by simp [I5] at h
 | .allI ..,o,h,_,_=>by simp [I5] at h
 | .allN ..,o,h,_,_=>by simp [I5] at h
 | .allB ..,o,h,_,_=>by simp [I5] at h
 | .allL ..,o,h,_,_=>by simp [I5] at h
 | .leaf ..,o,h,_,_=>by simp [I5] at h
 | .imp ..,o,h,_,_=>by simp [I5] at h
 | .namI ..,o,h,_,_=>by simp [I5] at h
 | .namN ..,o,h,_,_=>by simp [I5] at h
 | .namB ..,o,h,_,_=>by simp [I5] at h
 | .namL ..,o,h,_,_=>by simp [I5] at h
theorem fA {C:A1} {K:DCfg} {Q:Ex→List AV→Hp→Prop} {R:AV→Hp→Prop} (hG:C.G=C.G) {F:DFr} {H:DHp} {op:Op} {o:EB×FamR} {fs:Facts} {k:Facts→EV→T} (ho:oE K.fam C.P F H op=some o) (h:vT C.G Q R (fB fs o k)) :
  ∃ fs2 v,M7 C (vVs C.G F) (B8 C.G H) op=some (true,vV C.G v)∧vT C.G Q R (k fs2 v):=by
 obtain ⟨c0,x⟩:=o;cases x with
 | val c v=>
  simp only [fB] at h;obtain ⟨h0,h⟩:=Q9 c0 h;obtain ⟨h1,h⟩:=Q9 c h;exact ⟨fs,v,aA9 hG ho h0 h1,h⟩
 | ptr n c v=>
  simp only [fB] at h;obtain ⟨h0,h⟩:=Q9 c0 h;have hw:=aA9 hG ho h0;rcases T4 n fs _ _ h with ⟨h1,fs1,_,h2⟩ | ⟨h1,fs1,_,h2⟩
  ·exact ⟨fs1,.nilp,by rw [hw.1 h1];simp only [vV],h2⟩
  ·obtain ⟨h3,h4⟩:=Q9 c h2;exact ⟨fs1,v,hw.2 h3,h4⟩
theorem aX4 {F:DFr} {op:Op}:Lx (vVs G F) op=(Wg F op).map (vR G):=by
 unfold Lx Wg;cases op<;>simp only [Option.map_none]
 ·simp only [←vV_evD];generalize evD F _=x;cases x<;>simp only [vV,Option.map_some,Option.map_none]
 ·simp only [←vV_evD];generalize evD F _=x;cases x<;>simp only [vV,Option.map_some,Option.map_none]
theorem K6 {P P':Ex→DFr→DHp→Prop} (hp:∀ e F H,P e F H→P' e F H):∀ (o:LOut) (n:Nat),J2 G P n o→J2 G P' n o
 | .one e F H,n,h=>hp _ _ _ h
 | .chk b x,n,h=>⟨h.1,K6 hp x n h.2⟩
 | .tst b x y,n,h=>⟨fun hb=>K6 hp x n (h.1 hb),fun hb=>K6 hp y n (h.2 hb)⟩
 | .imp b x,n,h=>fun hb=>K6 hp x n (h hb)
 | .allI f,n,h=>fun x=>K6 hp (f (.var n x)) (n+1) (h x)
 | .allN f,n,h=>fun x=>K6 hp (f (.var n x)) (n+1) (h x)
 | .allB f,n,h=>fun x=>K6 hp (f (.var n x)) (n+1) (h x)
 | .allL f,n,h=>fun x=>K6 hp (f (.var n x)) (n+1) (h x)
 | .namI e f,n,h=>K6 hp (f (.var n _)) (n+1) h
 | .namN e f,n,h=>K6 hp (f (.var n _)) (n+1) h
 | .namB e f,n,h=>K6 hp (f (.var n _)) (n+1) h
 | .namL e f,n,h=>K6 hp (f (.var n _)) (n+1) h
def LpD (K:DCfg) (lps:List Code) (wk:jB):Prop:=
 match wk with
 | .code c=>∀ b∈loopsOf c,b∈lps
 | _=>True
theorem Zk {Q:Ex→List AV→Hp→Prop} {R:AV→Hp→Prop} {fs:Facts} {all:List Oper} {g:Option (Nat×Bool)} {F:DFr} {go skip:DFr→Facts→T} (h:vT G Q R (Mo fs all g F go skip)) :
  ∃ F' fs',vVs G F'=vVs G F∧F'.length=F.length∧((wantA all g (vVs G F)=some true∧vT G Q R (go F' fs'))∨(wantA all g (vVs G F)=some false∧vT G Q R (skip F' fs'))):=by
 unfold Mo at h;unfold wantA;split at h
 ·exact ⟨F,fs,rfl,rfl,.inl ⟨rfl,h⟩⟩
 ·rename_i j want;simp only;split at h
  ·rename_i t ht;simp only [ht,U2];rw [Db] at h;split at h
   ·rename_i b hb
    have hv:∀ x:Bool,vB G b=x→vVs G (K5 F (some t) (.bool (.lit x)))=vVs G F:=fun x hx=>by
     rw [M8];simp only [put,vV,vB];refine U5 ?_ (by simp);rw [U2,hb];simp only [vV,hx]
    rw [hb];simp only [vV];rcases T4 b fs _ _ h with ⟨h1,fs1,_,h2⟩ | ⟨h1,fs1,_,h2⟩
    ·refine ⟨K5 F (some t) (.bool (.lit true)),fs1,hv _ h1,by simp [K5,Qt],?_⟩;rw [h1];cases want
     ·exact .inr ⟨rfl,h2⟩
     ·exact .inl ⟨rfl,h2⟩
    ·refine ⟨K5 F (some t) (.bool (.lit false)),fs1,hv _ h1,by simp [K5,Qt],?_⟩;rw [h1];cases want
     ·exact .inl ⟨rfl,h2⟩
     ·exact .inr ⟨rfl,h2⟩
   ·rename_i hb;rw [hb];simp only [vV,vVs];exact ⟨F,fs,rfl,rfl,.inr ⟨trivial,h⟩⟩
   ·exact h.elim
  ·exact h.elim
theorem Il {C:A1} {K:DCfg} {lps:List Code} (hK:DGood C K lps):∀ n m wk F H fs q (Q:Post) (QQ:Ex→List AV→Hp→Prop) (RR:AV→Hp→Prop),
    (∀ e F H fs,vT C.G QQ RR (q e F H fs)→Q e (vVs C.G F) (B8 C.G H))→LpD K lps wk→vT C.G QQ RR (dx K n m wk F H fs q)→Snd (K0 C) m (vWk C.G wk) (vVs C.G F) (B8 C.G H) Q:=by
  have hG:C.G=C.G:=rfl;have hP:=hK.hP;intro n
  induction n with
  | zero => intro m wk F H fs q Q QQ RR _ _ h; exact h.elim
  | succ n ih=>
    intro m wk F H fs q Q QQ RR hq hlp h;have g0:=Fz (C:=C) hK.mix lps;cases wk with
    | ops all l=>
      change vT C.G QQ RR (Lt K (dx K n) m all l F H fs q) at h;cases l with
      | nil=>exact fun r ρ a w hm hH hF=>⟨.normal,ρ,_,_,rfl,hq _ _ _ _ h,K3.refl m ρ,hH,hF,Frm.refl ρ w⟩
      | cons o l=>
        obtain ⟨dst,op,ty,pos,after,guard⟩:=o;simp only [Lt] at h;obtain ⟨F',fs',hFe,_,h⟩:=Zk h;rw [← hFe];rw [← hFe] at h;rcases h with ⟨hw,h⟩ | ⟨hw,h⟩
        · unfold Hq at h;rw [hP] at h;split at h
          · rename_i hk;obtain ⟨c,v,h1,h2,h3⟩:=Cl h
            have:=ih m (.ops all l) _ _ _ _ _ _ _ hq trivial h3
            rw [M8] at this;exact R2 (lps:=lps) g0 (.pure hw hk (dM _ _ h1 h2)) this
          · rename_i hk;split at h
            · rename_i o ho;obtain ⟨fs2,v,h1,h3⟩:=fA hG (o:=o) ho h
              have:=ih m (.ops all l) _ _ _ _ _ _ _ hq trivial h3
              rw [M8] at this;exact R2 (lps:=lps) g0 (.read hw hk h1) this
            · obtain ⟨c,v,h1,h2,h3⟩:=Cl h
              have:=ih m (.ops all l) _ _ _ _ _ _ _ hq trivial h3
              rw [M8] at this;exact R2 (lps:=lps) g0 (.read hw hk (dG hG _ _ h1 h2)) this
          · rename_i hk;split at h
            · rename_i c v x hx;obtain ⟨h2,h3⟩:=Q9 c h
              have:=ih m (.ops all l) _ _ _ _ _ _ _ hq trivial h3
              rw [M8,Qo] at this;exact R2 (lps:=lps) g0 (.write hw hk (Yk hG _ _ _ hx h2)) this
            · split at h
              · rename_i c hs hx;obtain ⟨h2,h3⟩:=Q9 c h;obtain ⟨hp,e1,e2⟩:=fZ hG hx h2
                have:=ih m (.ops all l) _ _ _ _ _ _ _ hq trivial h3
                rw [M8,W0,←e2] at this;simp only [vV,vVs] at this;exact R2 (lps:=lps) g0 (.write hw hk e1) this
              · exact h.elim
          · rename_i hk;split at h
            · rename_i f args hc;have hc:=Xp (G:=C.G) hc;split at h
              · rename_i hi;split at h
                · rename_i fn hfn;split at h
                  · rename_i c hb;split at h
                    · exact h.elim
                    · rename_i hnm
                      have hbody:∀ (r:Option Nat),Cf r c=true→∀ (ρ:Env) (a:Act) (w:World),(B8 C.G H).length≤(B8 C.G H).length→B2 C ρ (B8 C.G H) w→D0 ρ (K7 fn (vVs C.G args)) a→
                          c.wpIn (W r) 0 C.P (AP C (B8 C.G H).length ρ w (L1 C fn fun v' H'=>∃ v H1 fs,v'=vV C.G v∧H'=B8 C.G H1∧vT C.G QQ RR (dx K n m (.ops all l) (K5 F' dst v) H1 fs q))) a w:=by
                        have:=ih H.length (.code c) (De fn args) H fs' _ (L1 C fn fun v' H'=>∃ v H1 fs,v'=vV C.G v∧H'=B8 C.G H1∧vT C.G QQ RR (dx K n m (.ops all l) (K5 F' dst v) H1 fs q)) QQ RR (fun e F1 H1 fs1 ht=>by
                          unfold Me at ht;split at ht
                          · exact ht.elim
                          · rename_i hne;obtain ⟨cc,v,q1,q2,q3⟩:=Cl ht;have e1:=aM hG _ _ q1 q2;cases e with
                            | exit i=>exact absurd rfl (hne i)
                            | normal=>simp only [L1];rw [e1];exact ⟨v,H1,fs1,rfl,rfl,q3⟩
                            | ret=>simp only [L1];rw [e1];exact ⟨v,H1,fs1,rfl,rfl,q3⟩) (fun b hb'=>hK.inl f fn c hi hfn hb b hb') h
                        rw [Mp] at this;rw [← E2 (G := C.G) H] at this;exact this
                      have hcall:=acalls_of (f:=f) (C:=C) (fn:=fn) (K:=fun v' H'=>∃ v H1 fs,v'=vV C.G v∧H'=B8 C.G H1∧vT C.G QQ RR (dx K n m (.ops all l) (K5 F' dst v) H1 fs q)) hfn hb hnm (fun r hr ρ a w hH hF=>hbody r hr ρ a w (zA7 _) hH hF);intro r ρ a w hm hH hF;unfold wpListIn;rw [S8 hF hw,if_pos rfl];obtain ⟨cargs,hv,h1⟩:=Jc (w:=w) (o:=⟨dst,op,ty,pos,after,guard⟩) hF hc hcall.1;refine U1 (Wu hc) ?_;have h1:(execOp a.eval ⟨dst,op,ty,pos,after,guard⟩).run (K0 C).C.P w=.ok (.enter f cargs.toArray) w:=h1;rw [h1]
                      refine ⟨fun h=>by simp [W,Fence.wide] at h,Jt.2 ((hcall.2 ρ w cargs hH hv).mono ?_)⟩;rintro e w' ⟨v',cv,ρ',H',rfl,⟨v,H1,fs1,rfl,rfl,g1⟩,g2,g3,g4,g5⟩;have hp:=K3.of_le hH g2 hm
                      have:=ih m (.ops all l) _ _ _ _ _ _ _ hq trivial g1
                      rw [M8] at this;exact N8 (fun e a w h=>AP.link hp g5 h) l _ _ (this r ρ' _ w' (S2 hm hH g3 hp) g3 ((hF.mono g2).put _ _ _ g4))
                  · exact h.elim
                · exact h.elim
              · split at h
                · rename_i o ho;obtain ⟨fs1,v,hs,h1,h2⟩:=W1 o fs' h (hK.calls _ _ _ _ ho)
                  have:=ih m (.ops all l) _ _ _ _ _ _ _ hq trivial h2
                  rw [M8,W0] at this;exact R2 (lps:=lps) g0 (.call hw hk hc h1) this
                · exact h.elim
            · split at h
              · rename_i i args hy;have hy:=kO (G:=C.G) hy;split at h
                · rename_i o ho;obtain ⟨fs1,v,hs,h1,h2⟩:=W1 o fs' h (hK.ylds _ _ _ _ ho)
                  have:=ih m (.ops all l) _ _ _ _ _ _ _ hq trivial h2
                  rw [M8,W0] at this;intro r ρ a w hm hH hF;unfold wpListIn;rw [S8 hF hw,if_pos rfl];refine h1 ρ _ w a ⟨dst,op,ty,pos,after,guard⟩ r _ _ hH hF hy ?_;rintro v' H' ρ' cv w' ⟨rfl,rfl⟩ g3 g4 g2 g5;have hp:=K3.of_le hH g2 hm;exact N8 (fun e a w h=>AP.link hp g5 h) l _ _ (this r ρ' _ w' (S2 hm hH g3 hp) g3 ((hF.mono g2).put _ _ _ g4))
                · exact h.elim
              · exact h.elim
        · have:=ih m (.ops all l) _ _ _ _ _ _ _ hq trivial h
          rw [M8] at this;simp only [vV,vVs] at this;exact R2 (lps:=lps) g0 (.skip hw) this
    | dr all l trs=>
      change vT C.G QQ RR (Hr K (dx K n) m all l trs F H fs q) at h;cases l with
      | nil=>
        simp only [Hr] at h;split at h
        · rename_i hd;exact ⟨[],_,_,.nil _ _,by have:=aB7 (G:=C.G) all trs hd;simpa using this,hq _ _ _ _ h⟩
        · exact h.elim
      | cons o l=>
        obtain ⟨dst,op,ty,pos,after,guard⟩:=o;simp only [Hr] at h;obtain ⟨F',fs',hFe,_,h⟩:=Zk h;rw [← hFe];rw [← hFe] at h
        have go:∀ {tr:cK} {v:EV} {H':DHp} {fs1:Facts},St (K0 C) all ⟨dst,op,ty,pos,after,guard⟩ (vVs C.G F') (B8 C.G H) (gC C.G tr) (vV C.G v) (B8 C.G H')→
            vT C.G QQ RR (dx K n m (.dr all l (trs++[tr])) (K5 F' dst v) H' fs1 q)→Snd (K0 C) m (vWk C.G (.dr all (⟨dst,op,ty,pos,after,guard⟩::l) trs)) (vVs C.G F') (B8 C.G H) Q:=by
          intro tr v H' fs1 hst hrec
          have:=ih m (.dr all l (trs++[tr])) _ _ _ _ _ _ _ hq trivial hrec
          rw [M8] at this;obtain ⟨trs',F1,H1,g1,g2,g3⟩:=this;exact ⟨gC C.G tr::trs',F1,H1,.cons hst g1,by simpa using g2,g3⟩
        rcases h with ⟨hw,h⟩ | ⟨hw,h⟩
        · unfold Th at h;rw [hP] at h;split at h
          · rename_i hk;obtain ⟨c,v,h1,h2,h3⟩:=Cl h;refine go (tr:=⟨.still,H.length,[]⟩) ?_ h3
            have:=St.pure (K:=K0 C) (all:=all) (o:=⟨dst,op,ty,pos,after,guard⟩) (H:=B8 C.G H) hw hk (dM _ _ h1 h2)
            rw [E2] at this;exact this
          · rename_i hk
            obtain ⟨fs2,v,h1,h3⟩:∃ fs2 v,M7 C (vVs C.G F') (B8 C.G H) op=some (true,vV C.G v)∧vT C.G QQ RR (dx K n m (.dr all l (trs++[⟨(match Wg F' op with | some r=>.read r | none=>.still),H.length,[]⟩])) (K5 F' dst v) H fs2 q):=by
              split at h
              · rename_i o ho;exact fA hG (o:=o) ho h
              · obtain ⟨c,v,h1,h2,h3⟩:=Cl h;exact ⟨_,v,dG hG _ _ h1 h2,h3⟩
            refine go ?_ h3
            have:=St.read (K:=K0 C) (all:=all) (o:=⟨dst,op,ty,pos,after,guard⟩) (H:=B8 C.G H) hw hk h1
            rw [E2] at this;refine cast (congrArg (fun tr=>St (K0 C) all ⟨dst,op,ty,pos,after,guard⟩ (vVs C.G F') (B8 C.G H) tr (vV C.G v) (B8 C.G H)) ?_) this;simp only [gC,List.map_nil];congr 1;rw [aX4];cases Wg F' op<;>simp only [Option.map_some,Option.map_none,vTrK]
          · rename_i hk;split at h
            · rename_i c v x hx;obtain ⟨h2,h3⟩:=Q9 c h;refine go ?_ h3
              have:=St.write (K:=K0 C) (all:=all) (o:=⟨dst,op,ty,pos,after,guard⟩) hw hk (Yk hG _ _ _ hx h2)
              rw [E2,←Qo] at this;exact this
            · exact h.elim
          · rename_i hk;split at h
            · rename_i f args hc;have hc:=Xp (G:=C.G) hc
              have fin:∀ {o:Outs} {fs1:Facts},Eb C.G (E1 C f args H) o→vT C.G QQ RR (Cx fs1 o fun fs v hs=>dx K n m (.dr all l (trs++[⟨.write,H.length,hs⟩])) (K5 F' dst v) (Ha H hs) fs q)→
                  Snd (K0 C) m (vWk C.G (.dr all (⟨dst,op,ty,pos,after,guard⟩::l) trs)) (vVs C.G F') (B8 C.G H) Q:=by
                intro o fs1 ho ht;obtain ⟨fs2,v,hs,h1,h2⟩:=W1 o fs1 ht ho;refine go ?_ h2
                have:=St.call (K:=K0 C) (all:=all) (o:=⟨dst,op,ty,pos,after,guard⟩) hw hk hc h1
                rw [E2,←W0] at this;exact this
              split at h
              · rename_i hi;split at h
                · rename_i fn hfn;split at h
                  · rename_i c hb;split at h
                    · exact h.elim
                    · rename_i hnm;split at h
                      · rename_i o ho;refine fin (Wq _ _ ho (fun hr=>?_) fun R hR=>?_) h
                        · refine dx_ro n _ (.code c) _ _ _ _ hr fun e F fs=>?_;unfold Me;split
                          · trivial
                          · exact Qa fun v=>rfl
                        · refine acalls_of (f:=f) (C:=C) (fn:=fn) hfn hb hnm fun r hr ρ a w hH hF=>?_
                          have:=ih H.length (.code c) (De fn args) H fs' _ (L1 C fn R) (fun _ _ _=>False) R (fun e F1 H1 fs1 ht=>by
                            unfold Me at ht;split at ht
                            · exact ht.elim
                            · rename_i hne;obtain ⟨cc,v,q1,q2,q3⟩:=Cl ht;have e1:=aM hG _ _ q1 q2;cases e with
                              | exit i=>exact absurd rfl (hne i)
                              | normal=>simp only [L1];rw [e1];exact q3
                              | ret=>simp only [L1];rw [e1];exact q3) (fun b hb'=>hK.inl f fn c hi hfn hb b hb') hR
                          rw [Mp,←E2 (G:=C.G) H] at this;exact this r hr ρ a w (zA7 _) hH hF
                      · exact h.elim
                  · exact h.elim
                · exact h.elim
              · split at h
                · rename_i o ho;exact fin (hK.calls _ _ _ _ ho) h
                · exact h.elim
            · split at h
              · rename_i i args hy;have hy:=kO (G:=C.G) hy;split at h
                · rename_i o ho;obtain ⟨fs2,v,hs,h1,h2⟩:=W1 o fs' h (hK.ylds _ _ _ _ ho);refine go ?_ h2
                  have:=St.yld (K:=K0 C) (all:=all) (o:=⟨dst,op,ty,pos,after,guard⟩) hw hy h1
                  rw [E2,←W0] at this;exact this
                · exact h.elim
              · exact h.elim
        · refine go (tr:=⟨.still,H.length,[]⟩) (v:=.tup []) ?_ h
          have:=St.skip (K:=K0 C) (all:=all) (o:=⟨dst,op,ty,pos,after,guard⟩) (H:=B8 C.G H) hw
          rw [E2] at this;simp only [vV,vVs];exact this
    | code c=>
      change vT C.G QQ RR (Y6 K (dx K n) m c F H fs q) at h;intro r hr ρ a w hm hH hF;have here:∀ ae,Q ae (vVs C.G F) (B8 C.G H)→AP C m ρ w Q (Lr ae) a w:=fun ae hq=>⟨ae,ρ,_,_,rfl,hq,K3.refl m ρ,hH,hF,Frm.refl ρ w⟩;cases c with
      | skip=>exact wpIn_skip (here .normal (hq _ _ _ _ h))
      | region id ops draw=>
        cases draw with
        | true=>
          obtain ⟨trs',F',H',g1,g2,g3⟩:=ih m (.dr ops.toList ops.toList []) F H fs q Q QQ RR hq trivial h
          have:=bW (id:=id) (r:=r) (Q:=AP C m ρ w Q) (lps:=lps) g0 g1 (by simpa using g2) hH hF fun ρ' a' w' q1 q2 q3 q4=>⟨.normal,ρ',F',H',rfl,g3,K3.of_le hH q3 hm,q1,q2,q4⟩
          rwa [Array.toArray_toList] at this
        | false=>
          have:=ih m (.ops ops.toList ops.toList) F H fs q Q QQ RR hq trivial h r ρ a w hm hH hF
          rw [Array.toArray_toList] at this;exact wpIn_region_list this
      | seq x y=>
        have hx:LpD K lps (.code x):=fun b hb=>hlp b (List.mem_append.2 (.inl hb));have hy:LpD K lps (.code y):=fun b hb=>hlp b (List.mem_append.2 (.inr hb))
        have key:=ih m (.code x) F H fs (Wc (dx K n) m y q) (fun e F1 H1=>match e with
          | .normal=>∀ ρ' a' w',m≤H1.length→B2 C ρ' H1 w'→D0 ρ' F1 a'→y.wpIn (W r) 0 C.P (AP C m ρ' w' Q) a' w'
          | e=>Q e F1 H1) QQ RR (fun e F1 H1 fs1 ht=>by
            cases e with
            | normal=>exact fun ρ' a' w' q1 q2 q3=>ih m (.code y) F1 H1 fs1 q Q QQ RR hq hy ht r (Le hr).2 ρ' a' w' q1 q2 q3
            | exit i=>exact hq _ _ _ _ ht
            | ret=>exact hq _ _ _ _ ht) hx h r (Le hr).1 ρ a w hm hH hF
        refine wpIn_seq (Code.wpIn_mono ?_ key);rintro e a' w' ⟨ae,ρ',F',H',rfl,h2,h3,h4,h5,h6⟩;cases ae with
        | normal=>exact Code.wpIn_mono (fun e a w h=>AP.link h3 h6 h) (h2 ρ' a' w' (S2 hm hH h4 h3) h4 h5)
        | exit i=>exact ⟨.exit i,ρ',F',H',rfl,h2,h3,h4,h5,h6⟩
        | ret=>exact ⟨.ret,ρ',F',H',rfl,h2,h3,h4,h5,h6⟩
      | cond c x y=>
        have hx:LpD K lps (.code x):=fun b hb=>hlp b (List.mem_append.2 (.inl hb));have hy:LpD K lps (.code y):=fun b hb=>hlp b (List.mem_append.2 (.inr hb));simp only [Y6,Fm] at h;split at h
        · rename_i t;rw [Db] at h;split at h
          · rename_i b hb;have hv:=hF.at t;rw [U2,hb] at hv;simp only [vV,VR] at hv
            have hs:∀ x:Bool,vB C.G b=x→vVs C.G (K5 F (some t) (.bool (.lit x)))=vVs C.G F:=fun x hx=>by
              rw [M8];simp only [put,vV,vB];refine U5 ?_ (by simp);rw [U2,hb];simp only [vV,hx]
            rcases T4 b fs _ _ h with ⟨h1,fs1,_,h2⟩ | ⟨h1,fs1,_,h2⟩
            · rw [h1] at hv
              have:=ih m (.code x) _ H fs1 q Q QQ RR hq hx h2 r (Cy hr).1 ρ a w hm hH
              rw [hs _ h1] at this;exact wpIn_cond_true hv (this hF)
            · rw [h1] at hv
              have:=ih m (.code y) _ H fs1 q Q QQ RR hq hy h2 r (Cy hr).2 ρ a w hm hH
              rw [hs _ h1] at this;exact wpIn_cond_false hv (this hF)
          · exact h.elim
        · rename_i b;cases b with
          | true=>exact wpIn_cond_true rfl (ih m (.code x) F H fs q Q QQ RR hq hx h r (Cy hr).1 ρ a w hm hH hF)
          | false=>exact wpIn_cond_false rfl (ih m (.code y) F H fs q Q QQ RR hq hy h r (Cy hr).2 ρ a w hm hH hF)
        · exact h.elim
      | block id c=>
        have key:=ih m (.code c) F H fs (Ms id q) (Z3 id Q) QQ RR (fun e F1 H1 fs1 ht=>by
          cases e with
          | normal=>exact hq _ _ _ _ ht
          | ret=>exact hq _ _ _ _ ht
          | exit i=>
            simp only [Ms] at ht;simp only [Z3];cases hb:(i==id) with
            | true=>rw [hb] at ht;exact hq _ _ _ _ ht
            | false=>rw [hb] at ht;exact hq _ _ _ _ ht) (fun b hb=>hlp b hb) h r (Tz hr) ρ a w hm hH hF
        refine wpIn_block (Code.wpIn_mono ?_ key);rintro e a' w' ⟨ae,ρ',F',H',rfl,h2,h3⟩;cases ae with
        | normal=>exact ⟨.normal,ρ',F',H',rfl,h2,h3⟩
        | ret=>exact ⟨.ret,ρ',F',H',rfl,h2,h3⟩
        | exit i=>
          simp only [Z3] at h2;show (if i=id then AP C m ρ w Q .normal a' w' else AP C m ρ w Q (.exit i) a' w');split at h2
          · rename_i hi;rw [if_pos (by simpa using hi)];exact ⟨.normal,ρ',F',H',rfl,h2,h3⟩
          · rename_i hi;rw [if_neg (by simpa using hi)];exact ⟨.exit i,ρ',F',H',rfl,h2,h3⟩
      | loop c=>
        simp only [Y6] at h;split at h
        · rename_i hm';split at h
          · rename_i o ho;have hmem:c∈lps:=hlp c (List.mem_cons_self ..);exact hK.loops m c F H o (zA2 hm') hmem ho fs.n Q (K6 (fun e F' H' ⟨fs',ht⟩=>hq _ _ _ _ ht) o fs.n (Q4 o fs h)) r hr ρ a w hH hF
          · exact h.elim
        · exact h.elim
      | rangeFunc g ps as bd=>
        simp only [Y6] at h;split at h
        · rename_i hm';split at h
          · rename_i o ho;have hmem:Code.rangeFunc g ps as bd∈lps:=hlp _ (List.mem_cons_self ..);exact hK.rngs m _ F H o (zA2 hm') hmem ho fs.n Q (K6 (fun e F' H' ⟨fs',ht⟩=>hq _ _ _ _ ht) o fs.n (Q4 o fs h)) r hr ρ a w hH hF
          · exact h.elim
        · exact h.elim
      | exit i=>exact wpIn_exit (here (.exit i) (hq _ _ _ _ h))
      | scope c=>
        refine Hh (Code.wpIn_mono ?_ (ih m (.code c) F H fs q Q QQ RR hq (fun b hb=>hlp b hb) h r (hY hr) ρ a w hm hH hF));rintro e a' w' h;obtain ⟨ae,ρ',F',H',rfl,h2⟩:=h;cases ae with
        | normal=>exact ⟨.normal,ρ',F',H',rfl,h2⟩
        | ret=>exact ⟨.ret,ρ',F',H',rfl,h2⟩
        | exit i=>exact ⟨.exit i,ρ',F',H',rfl,h2⟩
      | label i=>exact wpIn_label (here .normal (hq _ _ _ _ h))
      | ret=>exact wpIn_ret (here .ret (hq _ _ _ _ h))
      | _=>exact h.elim
end
section
variable {C:A1}
def f0 (n:Nat):Facts:=⟨n,[]⟩
noncomputable def H5 (K:DCfg) (fuel n0:Nat) (fn:Func) (args:List EV) (H:DHp) (keep:Nat):T:=
 dx K fuel H.length (.code (C3 fn)) (De fn args) H (f0 n0) (Me K.P fn fun v H' _=>.ret v (H'.take keep))
def rdD (live:List Nat) (F:DFr):List EV:=live.map fun i=>F.getD i .undef
def Vc (N:Nat) (live:List Nat) (vs:List EV):DFr:=(List.range N).map fun i=>(((live.zip vs).find? fun p=>Nat.beq p.1 i).map (·.2)).getD .undef
def Zn (N:Nat) (live:List Nat):DK:=fun e F H _=>match Nat.beq F.length N with
 | true=>.leaf e (rdD live F) H
 | false=>.fail
noncomputable def H4 (K:DCfg) (fuel n0 m:Nat) (c:Code) (N:Nat) (live:List Nat) (vs:List EV) (H:DHp):T:=
 dx K fuel m (.code c) (Vc N live vs) H (f0 n0) (Zn N live)
theorem Ta {G:Nat→List AV} (N:Nat) (live:List Nat) (vs:List EV):vVs G (Vc N live vs)=fl N live (vVs G vs):=by
 unfold Vc fl fr;rw [Q8,List.map_map];refine List.map_congr_left fun i _=>?_;simp only [Function.comp]
 induction live generalizing vs with
 | nil=>simp [vV]
 | cons x live ih=>
  cases vs with
  | nil=>simp [vV,vVs]
  | cons v vs=>
   simp only [vVs,List.zip_cons_cons,List.find?_cons];split
   ·rename_i h;simp only [Option.map_some,Option.getD_some]
   ·rename_i h;exact ih vs
theorem Pa {G:Nat→List AV} (live:List Nat) (F:DFr):vVs G (rdD live F)=Ce live (vVs G F):=by
 unfold rdD Ce;rw [Q8,List.map_map];refine List.map_congr_left fun i _=>?_;simp only [Function.comp,U2]
theorem C8 {K : DCfg} {fuel n0 : Nat} {f : FuncId} {fn : Func} {args : List EV} {H : DHp} {keep : Nat} {R : AV → Hp → Prop} (hK : DGood C K (loopsOf (C3 fn))) (hf : C.P.funcs[f]? = some fn) (hb : fn.body = some (C3 fn)) (hn : (fn.name == "runtime.NumGoroutine") = false)
  (h:vT C.G (fun _ _ _=>False) R (H5 K fuel n0 fn args H keep)):ACalls C f (vVs C.G args) (B8 C.G H) fun v H'=>R v (H'.take keep):=by
 refine acalls_of hf hb hn fun r hr ρ a w hH hF=>?_
 have:=Il hK fuel H.length (.code (C3 fn)) (De fn args) H (f0 n0) _ (L1 C fn fun v H'=>R v (H'.take keep)) (fun _ _ _=>False) R (fun e F1 H1 fs1 ht=>by
  unfold Me at ht;split at ht
  ·exact ht.elim
  ·rename_i hne;obtain ⟨cc,v,q1,q2,q3⟩:=Cl ht;rw [hK.hP] at q1;have e1:=aM rfl _ _ q1 q2;have e2:B8 C.G (H1.take keep)=(B8 C.G H1).take keep:=by simp only [B8,List.map_take]
   simp only [vT,e2] at q3;cases e with
   | exit i=>exact absurd rfl (hne i)
   | normal=>simp only [L1];rw [e1];exact q3
   | ret=>simp only [L1];rw [e1];exact q3) (fun b hb=>hb) h
 simp only [vWk,Mp] at this
 have:=this r hr ρ a w (by simp [E2]) hH hF
 rw [←E2 (G:=C.G) H] at this;exact this
theorem D3 {K:DCfg} {fuel n0 m:Nat} {c:Code} {N:Nat} {live:List Nat} {vs:List EV} {H:DHp} {Q:Ex→List AV→Hp→Prop} (hK:DGood C K (loopsOf c)) (hm:m≤H.length)
  (h:vT C.G Q (fun _ _=>False) (H4 K fuel n0 m c N live vs H)):AWp C m c (fl N live (vVs C.G vs)) (B8 C.G H) (lv N live Q):=by
 have:=Il hK fuel m (.code c) (Vc N live vs) H (f0 n0) _ (lv N live Q) Q (fun _ _=>False) (fun e F1 H1 fs1 ht=>by
  unfold Zn at ht;split at ht
  ·rename_i hb;simp only [vT,Pa] at ht;simp only [lv,O7,hb];exact ht
  ·exact ht.elim) (fun b hb=>hb) h
 rw [Ta] at this;exact fun r hr ρ a w hH hF=>this r hr ρ a w (by simpa [E2] using hm) hH hF
abbrev DSum:=List EV→DHp→Option Outs
def bV:List (Nat×DSum)→FuncId→List EV→DHp→Option Outs
 | [],_,_,_=>none
 | (g,s)::l,f,args,H=>match Nat.beq g f with
  | true=>s args H
  | false=>bV l f args H
def DSumOk (C:A1) (f:FuncId) (s:DSum):Prop:=∀ args H o,s args H=some o→Eb C.G (E1 C f args H) o
def P8 (C:A1) (l:List (Nat×DSum)):Prop:=∀ f args H o,bV l f args H=some o→Eb C.G (E1 C f args H) o
theorem P8.nil:P8 C []:=fun f args H o h=>by simp [bV] at h
theorem P8.cons {g:Nat} {s:DSum} {l:List (Nat×DSum)} (h:DSumOk C g s) (k:P8 C l):P8 C ((g,s)::l):=by
 intro f args H o ho;simp only [bV] at ho;split at ho
 ·rename_i hg
  have:=rG hg
  subst this;exact h args H o ho
 ·exact k f args H o ho
theorem E1.of {f:FuncId} {s:Sum1} (hs:Xu C f s) {args:List EV} {H:DHp} {v:EV} {hs':List DHop} (h:s (vVs C.G args) (B8 C.G H)=some (true,vV C.G v,hs'.map (I6 C.G))):E1 C f args H v hs':=
 hs _ _ _ _ h
abbrev DLoop:=List EV→DHp→Option LOut
def Ew (N:Nat) (live:List Nat):LOut→LOut
 | .one e vs H=>.one e (Vc N live vs) H
 | .chk b x=>.chk b (Ew N live x)
 | .tst b x y=>.tst b (Ew N live x) (Ew N live y)
 | .imp b x=>.imp b (Ew N live x)
 | .allI k=>.allI fun x=>Ew N live (k x)
 | .allN k=>.allN fun x=>Ew N live (k x)
 | .allB k=>.allB fun x=>Ew N live (k x)
 | .allL k=>.allL fun x=>Ew N live (k x)
 | .namI e k=>.namI e fun x=>Ew N live (k x)
 | .namN e k=>.namN e fun x=>Ew N live (k x)
 | .namB e k=>.namB e fun x=>Ew N live (k x)
 | .namL e k=>.namL e fun x=>Ew N live (k x)
structure DL where
 ex:Nat
 N:Nat
 live:List Nat
 S:DLoop
def Di:List DL→Code→DFr→DHp→Option LOut
 | [],_,_,_=>none
 | d::l,c,F,H=>match Oq c with
  | some i=>match Nat.beq i d.ex with
   | true=>match Nat.beq F.length d.N with
    | true=>match d.S (rdD d.live F) H with
     | some o=>some (Ew d.N d.live o)
     | none=>none
    | false=>none
   | false=>Di l c F H
  | none=>none
theorem O0 {G:Nat→List AV} {Q:Ex→DFr→DHp→Prop} {N:Nat} {live:List Nat}:∀ (o:LOut) (n:Nat),J2 G Q n (Ew N live o)→J2 G (fun e vs H=>Q e (Vc N live vs) H) n o
 | .one e F H,n,h=>h
 | .chk b x,n,h=>⟨h.1,O0 x n h.2⟩
 | .tst b x y,n,h=>⟨fun hb=>O0 x n (h.1 hb),fun hb=>O0 y n (h.2 hb)⟩
 | .imp b x,n,h=>fun hb=>O0 x n (h hb)
 | .allI f,n,h=>fun x=>O0 (f (.var n x)) (n+1) (h x)
 | .allN f,n,h=>fun x=>O0 (f (.var n x)) (n+1) (h x)
 | .allB f,n,h=>fun x=>O0 (f (.var n x)) (n+1) (h x)
 | .allL f,n,h=>fun x=>O0 (f (.var n x)) (n+1) (h x)
 | .namI e f,n,h=>O0 (f (.var n _)) (n+1) h
 | .namN e f,n,h=>O0 (f (.var n _)) (n+1) h
 | .namB e f,n,h=>O0 (f (.var n _)) (n+1) h
 | .namL e f,n,h=>O0 (f (.var n _)) (n+1) h
def Lp (m:Nat) (Q:Ex→List AV→Hp→Prop) (e:Ex) (vs'':List AV) (H'':Hp):Prop:=(∃ vs',wk vs' vs''∧Q e vs' H'')∨∃ vs' H',C5 m vs' H' vs'' H''∧Q e vs' H'
def F5 (C:A1) (M:Nat) (c:Code) (d:DL):Prop:=
 ∀ m vs H o,m≤M→d.S vs H=some o→∀ n (Q:Ex→List AV→Hp→Prop),J2 C.G (fun e vs' H'=>Q e (vVs C.G vs') (B8 C.G H')) n o→
  AWp C m (.loop c) (fl d.N d.live (vVs C.G vs)) (B8 C.G H) (lv d.N d.live (Lp m Q))
def S6 (C:A1) (M:Nat) (cs:List Code) (ls:Code→DFr→DHp→Option LOut):Prop:=∀ m c F H o,m≤M→c∈cs→ls c F H=some o→∀ n (Q:Post),J2 C.G (fun e F' H'=>Q e (vVs C.G F') (B8 C.G H')) n o→AWp C m (.loop c) (vVs C.G F) (B8 C.G H) Q
theorem S6.nil {M:Nat} {ls:Code→DFr→DHp→Option LOut}:S6 C M [] ls:=fun m c F H o _ h=>by simp at h
theorem AWp.wkd {m:Nat} {c:Code} {F:Fr} {H:Hp} {N:Nat} {live:List Nat} {Q:Ex→List AV→Hp→Prop} {Q':Post} (h:AWp C m c F H (lv N live (Lp m Q))) (hq:∀ e vs H',Q e vs H'→Q' e (fl N live vs) H'):AWp C m c F H Q':=by
 intro r hr ρ a w hH hF;refine Code.wpIn_mono ?_ (h r hr ρ a w hH hF);rintro e a' w' ⟨ae,ρ',F',H',rfl,h2,h3,h4,h5,h6⟩;obtain ⟨h7,h8⟩:=U6 h2;have hN:F'.length=N:=rG h7;rcases h8 with ⟨vs',h8,h9⟩ | ⟨vs',H1,h8,h9⟩
 ·exact ⟨ae,ρ',_,H',rfl,hq _ _ _ h9,h3,h4,xA h5 hN h8,h6⟩
 ·obtain ⟨ρ2,g1,g2,g3,g4⟩:=h8.live (N:=N) (live:=live) h4 h5.nod (by rw [←h5.len,hN]) (by simp [Ce]) (fun j i v q1 q2=>by
   simp only [Ce,zA0,q1,Option.map_some,zN] at q2;subst q2;by_cases hi:i<F'.length
   ·exact h5.val i _ (by simp [List.getD,hi])
   ·simp [List.getD,hi,VR])
  exact ⟨ae,ρ2,_,H1,rfl,hq _ _ _ h9,h3.trans g3,g1,g2,h6.trans g4⟩
def bX (i:Nat):List DL→Option DL
 | []=>none
 | d::l=>match Nat.beq i d.ex with
  | true=>some d
  | false=>bX i l
theorem Ou {c:Code} {F:DFr} {H:DHp} {o:LOut} {i:Nat} (he:Oq c=some i):∀ (l:List DL),Di l c F H=some o→∃ d,bX i l=some d∧F.length=d.N∧∃ o',d.S (rdD d.live F) H=some o'∧o=Ew d.N d.live o'
 | [],h=>by simp [Di] at h
 | d::l,h=>by
  simp only [Di,he] at h;simp only [bX];split at h
  ·rename_i hi;split at h
   ·rename_i hN;split at h
    ·rename_i o' ho;simp at h;subst h;exact ⟨d,rfl,rG hN,o',ho,rfl⟩
    ·simp at h
   ·simp at h
  ·exact Ou he l h
theorem S6.cons {M:Nat} {c:Code} {cs:List Code} {l:List DL} {d:DL} {i:Nat} (he:Oq c=some i) (hp:bX i l=some d) (h:F5 C M c d) (k:S6 C M cs (Di l)):S6 C M (c::cs) (Di l):=by
 intro m c' F H o hm hc ho n Q hQ;rcases List.mem_cons.1 hc with rfl | hc
 ·obtain ⟨d',h1,h2,o',h3,rfl⟩:=Ou he l ho;rw [hp] at h1;simp at h1;subst h1
  have:=h m _ _ _ hm h3 n (fun e vs H'=>Q e (fl d.N d.live vs) H') (by
   have:=O0 o' n hQ
   refine K6 (fun e vs H' hq=>?_) o' n this;rw [Ta] at hq
   exact hq)
  have:=this.wkd (Q':=Q) fun e vs H' h=>h
  intro r hr ρ a w hH hF;refine this r hr ρ a w hH ?_
  have:=Mf (live:=d.live) (N:=d.N) hF (by rw [O7];exact h2)
  rw [Pa];exact this
 ·exact k m c' F H o hm hc ho n Q hQ
theorem S6.cast {M:Nat} {cs ds:List Code} {ls:Code→DFr→DHp→Option LOut} (h:S6 C M ds ls) (e:cs=ds):S6 C M cs ls:=by rw [e];exact h
theorem lone {m m':Nat} {c:Code} {N:Nat} {live:List Nat} {vs:List AV} {H:Hp} {e:Ex} {vs':List EV} {H':DHp} {Q:Ex→List AV→Hp→Prop}
  (h:AWp C m c (fl N live vs) H (lv N live fun e' vs'' H''=>e'=e∧wk (vVs C.G vs') vs''∧H''=B8 C.G H')) (hq:Q e (vVs C.G vs') (B8 C.G H')) :
  AWp C m c (fl N live vs) H (lv N live (Lp m' Q)):=
 h.lmono fun e' vs'' H'' ⟨h1,h2,h3⟩=>.inl ⟨_,h2,by rw [h1,h3];exact hq⟩
theorem C5.pin {m m':Nat} (hm:m'≤m) {F F':Fr} {H H':Hp} (h:C5 m F H F' H'):C5 m' F H F' H':=by
 obtain ⟨θ,g1,g2,g3,g4⟩:=h.ex;exact ⟨θ,g1,by omega,fun i hi=>g3 i (by omega),g4⟩
theorem Lp.pin {m m':Nat} (hm:m'≤m) {Q:Ex→List AV→Hp→Prop} {e:Ex} {vs:List AV} {H:Hp} (h:Lp m Q e vs H):Lp m' Q e vs H:=by
 rcases h with h | ⟨vs',H',h1,h2⟩
 ·exact .inl h
 ·exact .inr ⟨vs',H',h1.pin hm,h2⟩
def Dc (P:Program) (inl:List Nat) (sums:List (Nat×DSum)) (ls:List DL) (M:Nat):DCfg:={ P:=P,inl:=nM inl,sum:=bV sums,loop:=Di ls,M:=M }
theorem C7 {P:Program} {G:Nat→List AV} {B:Nat} {inl:List Nat} {sums:List (Nat×DSum)} {ls:List DL} {M:Nat} {cs:List Code} (hm:P.follows .mixedOrders=true) (hp:Pr P inl=true) (hs:P8 ⟨P,G,B⟩ sums) (hl:S6 ⟨P,G,B⟩ M cs (Di ls)) :
  DGood ⟨P,G,B⟩ (Dc P inl sums ls M) cs:=
 ⟨rfl,hm,hs,hl,hJ hp,fun m c F H o _ _ h=>by simp [Dc] at h,fun i args H o h=>by simp [Dc] at h⟩
abbrev Df (P:Program) (fam:List (TypeId×Nat×Nat)) (inl:List Nat) (sums:List (Nat×DSum)) (ls:List DL) (M:Nat):DCfg:={ Dc P inl sums ls M with fam:=fun t=>(fam.find? fun x=>Nat.beq x.1 t).map (·.2) }
theorem aB8 {P:Program} {fam:List (TypeId×Nat×Nat)} {G:Nat→List AV} {B:Nat} {inl:List Nat} {sums:List (Nat×DSum)} {ls:List DL} {M:Nat} {cs:List Code} (hm:P.follows .mixedOrders=true) (hp:Pr P inl=true) (hs:P8 ⟨P,G,B⟩ sums) (hl:S6 ⟨P,G,B⟩ M cs (Di ls)) :
  DGood ⟨P,G,B⟩ (Df P fam inl sums ls M) cs:=
 ⟨rfl,hm,hs,hl,hJ hp,fun m c F H o _ _ h=>by simp [Df,Dc] at h,fun i args H o h=>by simp [Df,Dc] at h⟩
end
end Go.Am
