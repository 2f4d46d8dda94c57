/-
  Written terms: what the abstract machine over them says of values, and The machine over written terms: a piece of code becomes a tree.
-/
import Derived.Test.YthejjolnlngahaaBase3
namespace Go.Am
mutual
/-- whole numbers -/
inductive EI
 | lit (n:Int)
 | var (j:Nat) (x:Int)
 | bin (o:BinOp) (k:IntKind) (a b:EI)
 | conv (k:IntKind) (a:EI)
 | neg (k:IntKind) (a:EI)
 | cpl (k:IntKind) (a:EI)
 | ofN (n:EN)
 | mx (a b:EI)
 | mn (a b:EI)
 | get (l:EL) (o:EN)
 | uf (j:Nat) (f:List AV→Int) (as:List EV)
/-- counts -/
inductive EN
 | lit (n:Nat)
 | var (j:Nat) (x:Nat)
 | toN (a:EI)
 | add (a b:EN)
 | mul (a:EN) (z:Nat)
 | sub (a b:EN)
 | len (l:EL)
 | slen (s:ES)
 | rk (l:EL) (o:EN)
 | ro (l:EL) (o:EN)
 | rn (l:EL) (o:EN)
 | fk (b:Nat) (l:EL) (o:EN)
 | fo (l:EL) (o:EN)
 | fn (l:EL) (o:EN)
 | uf (j:Nat) (f:List AV→Nat) (as:List EV)
/-- truth values -/
inductive EB
 | lit (b:Bool)
 | var (j:Nat) (x:Bool)
 | cmp (o:BinOp) (a b:EI)
 | not (b:EB)
 | and (a b:EB)
 | eqB (a b:EB)
 | eqS (a b:ES)
 | isI (k:IntKind) (l:EL) (o:EN)
 | isB (l:EL) (o:EN)
 | isT (l:EL) (o:EN)
 | isR (l:EL) (o:EN)
 | get (l:EL) (o:EN)
 | leN (a b:EN)
 | eqN (a b:EN)
 | leaf (l:EL) (o:EN) (ls:List Lf)
 | u8s (l:EL)
 | cells (l:EL)
 | isF (b c:Nat) (l:EL) (o:EN)
 | isP (b c:Nat) (l:EL) (o:EN)
 | isNil (l:EL) (o:EN)
 | rows (l:EL) (ls:List EV)
 | uf (j:Nat) (f:List AV→Bool) (as:List EV)
/-- texts -/
inductive ES
 | lit (s:List UInt8)
 | var (j:Nat) (x:List UInt8)
 | app (a b:ES)
 | sub (s:ES) (lo hi:EN)
 | get (l:EL) (o:EN)
 | ofL (l:EL)
 | uf (j:Nat) (f:List AV→List UInt8) (as:List EV)
/-- cells -/
inductive EL
 | of (cs:List EV)
 | var (j:Nat) (x:List AV)
 | ro (n:EN)
 | set (l:EL) (o:EN) (v:EV)
 | app (a b:EL)
 | sub (l:EL) (o n:EN)
 | bytes (s:ES)
 | rep (n:EN) (l:EL)
 | row (l:EL) (k:EN)
 | put (l:EL) (k:EN) (v:EL)
 | uf (j:Nat) (f:List AV→List AV) (as:List EV)
/-- values -/
inductive EV
 | undef
 | bool (b:EB)
 | int (k:IntKind) (n:EI)
 | str (s:ES)
 | nilp
 | ptr (r:ER) (o:EN)
 | nils
 | slice (mb:Bool) (r:ER) (o n:EN)
 | nilf
 | func (f:FuncId) (cap:List EV)
 | agg (l:EL)
 | tup (vs:List EV)
 | yld (i:Nat)
/-- places -/
inductive ER
 | rw (i:Nat)
 | ro (n:EN)
 | fm (b c:Nat) (k:EN)
end
def Tx (o:BinOp) (k:IntKind) (x y:Int):Int:=
 match o with
 | .add=>k.wrap (x+y)
 | .sub=>k.wrap (x - y)
 | .mul=>k.wrap (x*y)
 | .quo=>k.wrap (x.tdiv y)
 | .rem=>x.tmod y
 | .and=>L7 k x y
 | .or=>Gw k x y
 | .xor=>Dw k x y
 | .andNot=>Xw k x y
 | .shl=>Cl k x y
 | .shr=>O2 k x y
 | _=>0
def Nn (o:BinOp) (x y:Int):Bool:=
 match o with
 | .eql=>x==y
 | .neq=>x != y
 | .lss=>decide (x<y)
 | .leq=>decide (x≤y)
 | .gtr=>decide (x>y)
 | .geq=>decide (x≥y)
 | _=>false
def leB (x y:Nat):Bool:=decide (x≤y)
def u8s (cs:List AV):Bool:=cs.all Bq
def cellsB (cs:List AV):Bool:=cs.all isCell
def O4 (cs:List AV):List UInt8:=cs.map Uj
def A3 (s:List UInt8):List AV:=s.map fun b=>.int .u8 b.toNat
def A7 (cs:List AV) (o n:Nat):List AV:=(cs.drop o).take n
def repL (n:Nat) (cs:List AV):List AV:=(List.replicate n cs).flatten
def If (L:List AV) (k:Nat):List AV:=match L[k]? with | some (.agg cs)=>cs | _=>[]
def Xn (L:List AV) (k:Nat) (cs:List AV):List AV:=L.set k (.agg cs)
def Vz (b:Nat) (cs:List AV) (o:Nat):Nat:=match cs[o]? with | some (.slice _ (.rw i) _ _)=>i - b | some (.ptr (.rw i) _)=>i - b | _=>0
def eX (cs:List AV) (o:Nat):Nat:=match cs[o]? with | some (.slice _ (.rw _) f _)=>f | some (.ptr (.rw _) f)=>f | _=>0
def fnA (cs:List AV) (o:Nat):Nat:=match cs[o]? with | some (.slice _ (.rw _) _ n)=>n | _=>0
def tI (b c:Nat) (cs:List AV) (o:Nat):Bool:=match cs[o]? with | some (.slice true (.rw i) _ _)=>Nat.ble b i&&Nat.blt i (b+c) | _=>false
def tH (b c:Nat) (cs:List AV) (o:Nat):Bool:=match cs[o]? with | some (.ptr (.rw i) _)=>Nat.ble b i&&Nat.blt i (b+c) | _=>false
def eC (cs:List AV) (o:Nat):Bool:=match cs[o]? with | some .nilp=>true | _=>false
open Classical in
noncomputable def Uw (l:List AV) (ls:List AV):Bool:=decide (∀ v∈ls,v=.agg l)
section
variable (G:Nat→List AV)
mutual
noncomputable def vI:EI→Int
 | .lit n=>n
 | .var _ x=>x
 | .bin o k a b=>Tx o k (vI a) (vI b)
 | .conv k a=>k.wrap (vI a)
 | .neg k a=>k.wrap (0 - vI a)
 | .cpl k a=>Ti k (vI a)
 | .ofN n=>(vN n:Int)
 | .mx a b=>if vI b>vI a then vI b else vI a
 | .mn a b=>if vI b<vI a then vI b else vI a
 | .get l o=>A0 (vL l) (vN o)
 | .uf _ f as=>f (vVs as)
termination_by structural x=>x
noncomputable def vN:EN→Nat
 | .lit n=>n
 | .var _ x=>x
 | .toN a=>(vI a).toNat
 | .add a b=>vN a+vN b
 | .mul a z=>vN a*z
 | .sub a b=>vN a - vN b
 | .len l=>(vL l).length
 | .slen s=>(vS s).length
 | .rk l o=>C9 (vL l) (vN o)
 | .ro l o=>E5 (vL l) (vN o)
 | .rn l o=>B9 (vL l) (vN o)
 | .fk b l o=>Vz b (vL l) (vN o)
 | .fo l o=>eX (vL l) (vN o)
 | .fn l o=>fnA (vL l) (vN o)
 | .uf _ f as=>f (vVs as)
termination_by structural x=>x
noncomputable def vB:EB→Bool
 | .lit b=>b
 | .var _ x=>x
 | .cmp o a b=>Nn o (vI a) (vI b)
 | .not b=>!(vB b)
 | .and a b=>vB a&&vB b
 | .eqB a b=>vB a==vB b
 | .eqS a b=>vS a==vS b
 | .isI k l o=>isI k (vL l) (vN o)
 | .isB l o=>isB (vL l) (vN o)
 | .isT l o=>bJ (vL l) (vN o)
 | .isR l o=>Gt (vL l) (vN o)
 | .get l o=>E7 (vL l) (vN o)
 | .leN a b=>leB (vN a) (vN b)
 | .eqN a b=>Nat.beq (vN a) (vN b)
 | .leaf l o ls=>E2 (vL l) (vN o) ls
 | .u8s l=>u8s (vL l)
 | .cells l=>cellsB (vL l)
 | .isF b c l o=>tI b c (vL l) (vN o)
 | .isP b c l o=>tH b c (vL l) (vN o)
 | .isNil l o=>eC (vL l) (vN o)
 | .rows l ls=>Uw (vL l) (vVs ls)
 | .uf _ f as=>f (vVs as)
termination_by structural x=>x
noncomputable def vS:ES→List UInt8
 | .lit s=>s
 | .var _ x=>x
 | .app a b=>vS a++vS b
 | .sub s lo hi=>((vS s).take (vN hi)).drop (vN lo)
 | .get l o=>Vq (vL l) (vN o)
 | .ofL l=>O4 (vL l)
 | .uf _ f as=>f (vVs as)
termination_by structural x=>x
noncomputable def vL:EL→List AV
 | .of cs=>vVs cs
 | .var _ x=>x
 | .ro n=>G (vN n)
 | .set l o v=>J7 (vL l) (vN o) (vV v)
 | .app a b=>vL a++vL b
 | .sub l o n=>A7 (vL l) (vN o) (vN n)
 | .bytes s=>A3 (vS s)
 | .rep n l=>repL (vN n) (vL l)
 | .row l k=>If (vL l) (vN k)
 | .put l k v=>Xn (vL l) (vN k) (vL v)
 | .uf _ f as=>f (vVs as)
termination_by structural x=>x
noncomputable def vV:EV→AV
 | .undef=>.undef
 | .bool b=>.bool (vB b)
 | .int k n=>.int k (vI n)
 | .str s=>.str (vS s)
 | .nilp=>.nilp
 | .ptr r o=>.ptr (vR r) (vN o)
 | .nils=>.nils
 | .slice mb r o n=>.slice mb (vR r) (vN o) (vN n)
 | .nilf=>.nilf
 | .func f cap=>.func f (vVs cap)
 | .agg l=>.agg (vL l)
 | .tup vs=>.tup (vVs vs)
 | .yld i=>.yld i
termination_by structural x=>x
noncomputable def vVs:List EV→List AV
 | []=>[]
 | x::l=>vV x::vVs l
termination_by structural x=>x
noncomputable def vR:ER→Ref
 | .rw i=>.rw i
 | .ro n=>.ro (vN n)
 | .fm b _ k=>.rw (b+vN k)
termination_by structural x=>x
end
end
mutual
def El:EI→EI→Bool
 | .lit a,.lit b=>a==b
 | .var j _,.var i _=>Nat.beq j i
 | .bin o k a b,.bin o' k' a' b'=>o==o'&&(k==k'&&(El a a'&&El b b'))
 | .conv k a,.conv k' a'=>k==k'&&El a a'
 | .neg k a,.neg k' a'=>k==k'&&El a a'
 | .cpl k a,.cpl k' a'=>k==k'&&El a a'
 | .ofN a,.ofN b=>eqN a b
 | .mx a b,.mx a' b'=>El a a'&&El b b'
 | .mn a b,.mn a' b'=>El a a'&&El b b'
 | .get l o,.get l' o'=>eqN o o'&&S3 l l'
 | .uf j _ a,.uf j' _ a'=>Nat.beq j j'&&Ko a a'
 | _,_=>false
termination_by structural x=>x
def eqN:EN→EN→Bool
 | .lit a,.lit b=>Nat.beq a b
 | .var j _,.var i _=>Nat.beq j i
 | .toN a,.toN b=>El a b
 | .add a b,.add a' b'=>eqN a a'&&eqN b b'
 | .mul a z,.mul a' z'=>Nat.beq z z'&&eqN a a'
 | .sub a b,.sub a' b'=>eqN a a'&&eqN b b'
 | .len a,.len b=>S3 a b
 | .slen a,.slen b=>eqS a b
 | .rk l o,.rk l' o'=>eqN o o'&&S3 l l'
 | .ro l o,.ro l' o'=>eqN o o'&&S3 l l'
 | .rn l o,.rn l' o'=>eqN o o'&&S3 l l'
 | .fk b l o,.fk b' l' o'=>Nat.beq b b'&&(eqN o o'&&S3 l l')
 | .fo l o,.fo l' o'=>eqN o o'&&S3 l l'
 | .fn l o,.fn l' o'=>eqN o o'&&S3 l l'
 | .uf j _ a,.uf j' _ a'=>Nat.beq j j'&&Ko a a'
 | _,_=>false
termination_by structural x=>x
def eqB:EB→EB→Bool
 | .lit a,.lit b=>a==b
 | .var j _,.var i _=>Nat.beq j i
 | .cmp o a b,.cmp o' a' b'=>o==o'&&(El a a'&&El b b')
 | .not a,.not b=>eqB a b
 | .and a b,.and a' b'=>eqB a a'&&eqB b b'
 | .eqB a b,.eqB a' b'=>eqB a a'&&eqB b b'
 | .eqS a b,.eqS a' b'=>eqS a a'&&eqS b b'
 | .isI k l o,.isI k' l' o'=>k==k'&&(eqN o o'&&S3 l l')
 | .isB l o,.isB l' o'=>eqN o o'&&S3 l l'
 | .isT l o,.isT l' o'=>eqN o o'&&S3 l l'
 | .isR l o,.isR l' o'=>eqN o o'&&S3 l l'
 | .get l o,.get l' o'=>eqN o o'&&S3 l l'
 | .leN a b,.leN a' b'=>eqN a a'&&eqN b b'
 | .eqN a b,.eqN a' b'=>eqN a a'&&eqN b b'
 | .leaf l o _,.leaf l' o' _=>eqN o o'&&S3 l l'
 | .u8s l,.u8s l'=>S3 l l'
 | .cells l,.cells l'=>S3 l l'
 | .isF b _ l o,.isF b' _ l' o'=>Nat.beq b b'&&(eqN o o'&&S3 l l')
 | .isP b _ l o,.isP b' _ l' o'=>Nat.beq b b'&&(eqN o o'&&S3 l l')
 | .isNil l o,.isNil l' o'=>eqN o o'&&S3 l l'
 | .rows l ls,.rows l' ls'=>S3 l l'&&Ko ls ls'
 | .uf j _ a,.uf j' _ a'=>Nat.beq j j'&&Ko a a'
 | _,_=>false
termination_by structural x=>x
def eqS:ES→ES→Bool
 | .lit a,.lit b=>a==b
 | .var j _,.var i _=>Nat.beq j i
 | .app a b,.app a' b'=>eqS a a'&&eqS b b'
 | .sub s l h,.sub s' l' h'=>eqS s s'&&(eqN l l'&&eqN h h')
 | .get l o,.get l' o'=>eqN o o'&&S3 l l'
 | .ofL l,.ofL l'=>S3 l l'
 | .uf j _ a,.uf j' _ a'=>Nat.beq j j'&&Ko a a'
 | _,_=>false
termination_by structural x=>x
def S3:EL→EL→Bool
 | .of a,.of b=>Ko a b
 | .var j _,.var i _=>Nat.beq j i
 | .ro a,.ro b=>eqN a b
 | .set l o v,.set l' o' v'=>eqN o o'&&(eqV' v v'&&S3 l l')
 | .app a b,.app a' b'=>S3 a a'&&S3 b b'
 | .sub l a b,.sub l' a' b'=>S3 l l'&&(eqN a a'&&eqN b b')
 | .bytes a,.bytes b=>eqS a b
 | .rep n l,.rep n' l'=>eqN n n'&&S3 l l'
 | .row l k,.row l' k'=>eqN k k'&&S3 l l'
 | .put l k v,.put l' k' v'=>eqN k k'&&(S3 v v'&&S3 l l')
 | .uf j _ a,.uf j' _ a'=>Nat.beq j j'&&Ko a a'
 | _,_=>false
termination_by structural x=>x
def eqV':EV→EV→Bool
 | .undef,.undef=>true
 | .bool a,.bool b=>eqB a b
 | .int k a,.int k' b=>k==k'&&El a b
 | .str a,.str b=>eqS a b
 | .nilp,.nilp=>true
 | .ptr r o,.ptr r' o'=>eqR r r'&&eqN o o'
 | .nils,.nils=>true
 | .slice _ r o n,.slice _ r' o' n'=>eqR r r'&&(eqN o o'&&eqN n n')
 | .nilf,.nilf=>true
 | .func f c,.func f' c'=>Nat.beq f f'&&Ko c c'
 | .agg a,.agg b=>S3 a b
 | .tup a,.tup b=>Ko a b
 | .yld i,.yld j=>Nat.beq i j
 | _,_=>false
termination_by structural x=>x
def Ko:List EV→List EV→Bool
 | [],[]=>true
 | x::l,y::m=>eqV' x y&&Ko l m
 | _,_=>false
termination_by structural x=>x
def eqR:ER→ER→Bool
 | .rw i,.rw j=>Nat.beq i j
 | .ro a,.ro b=>eqN a b
 | .fm b _ k,.fm b' _ k'=>Nat.beq b b'&&eqN k k'
 | _,_=>false
termination_by structural x=>x
end
def D6 (a b:EB):EB:=
 match a with
 | .lit true=>b
 | .lit false=>.lit false
 | a=>match b with
  | .lit true=>a
  | .lit false=>.lit false
  | b=>.and a b
def Cc:EB→EB
 | .lit b=>.lit (!b)
 | .not b=>b
 | b=>.not b
def bH (a b:EB):EB:=
 match a,b with
 | .lit true,b=>b
 | .lit false,b=>Cc b
 | a,.lit true=>a
 | a,.lit false=>Cc a
 | a,b=>.eqB a b
def F6 (o:BinOp) (a b:EI):EB:=
 match a,b with
 | .lit x,.lit y=>.lit (Nn o x y)
 | a,b=>.cmp o a b
def Bf (o:BinOp) (k:IntKind) (a b:EI):EI:=
 match a,b with
 | .lit x,.lit y=>.lit (Tx o k x y)
 | a,b=>.bin o k a b
def dS (k:IntKind):EI→EI
 | .lit x=>.lit (k.wrap x)
 | a=>.conv k a
def kY (k:IntKind):EI→EI
 | .lit x=>.lit (k.wrap (0 - x))
 | a=>.neg k a
def kZ (k:IntKind):EI→EI
 | .lit x=>.lit (Ti k x)
 | a=>.cpl k a
def Hc:EN→EI
 | .lit n=>.lit n
 | n=>.ofN n
def X7:EI→EN
 | .lit n=>.lit n.toNat
 | .ofN n=>n
 | a=>.toN a
def L5 (a b:EN):EN:=
 match a,b with
 | .lit x,.lit y=>.lit (x+y)
 | a,.lit 0=>a
 | .lit 0,b=>b
 | .add a (.lit x),.lit y=>.add a (.lit (x+y))
 | a,b=>.add a b
def Q5 (a:EN) (z:Nat):EN:=
 match z with
 | 1=>a
 | z=>match a with
  | .lit x=>.lit (x*z)
  | a=>.mul a z
def kX (a b:EN):EN:=
 match a,b with
 | .lit x,.lit y=>.lit (x - y)
 | a,.lit 0=>a
 | a,b=>.sub a b
def Q6 (a b:EN):EB:=
 match a,b with
 | .lit x,.lit y=>.lit (Nat.ble x y)
 | .lit 0,_=>.lit true
 | a,b=>.leN a b
def bG (a b:EN):EB:=
 match a,b with
 | .lit x,.lit y=>.lit (Nat.beq x y)
 | a,b=>.eqN a b
def Vg (a b:ES):EB:=
 match a,b with
 | .lit x,.lit y=>.lit (x==y)
 | a,b=>.eqS a b
def lA (a b:ES):ES:=
 match a,b with
 | .lit x,.lit y=>.lit (x++y)
 | .lit [],b=>b
 | a,.lit []=>a
 | a,b=>.app a b
def X8:EL→EN
 | .of cs=>.lit cs.length
 | .bytes s=>.slen s
 | .sub l o n=>.len (.sub l o n)
 | l=>.len l
def eG:EV→Bool
 | .agg _=>true
 | _=>false
def Mx (l:EL) (o:EN) (v:EV):EL:=
 match l,o with
 | .of cs,.lit n=>match v with
  | .agg (.of ds)=>.of (cs.take n++(ds++cs.drop (n+ds.length)))
  | .agg d=>.set (.of cs) (.lit n) (.agg d)
  | v=>.of (cs.set n v)
 | l,o=>.set l o v
def Dt (l:EL) (o n:EN):EL:=
 match l,o,n with
 | .of cs,.lit a,.lit b=>.of ((cs.drop a).take b)
 | l,o,n=>.sub l o n
def Vh (a b:EL):EL:=
 match a,b with
 | .of cs,.of ds=>.of (cs++ds)
 | .of [],b=>b
 | a,.of []=>a
 | a,b=>.app a b
def Rh:ES→EL
 | .lit s=>.of (s.map fun b=>.int .u8 (.lit b.toNat))
 | s=>.bytes s
def Vf (n:EN) (l:EL):EL:=
 match n,l with
 | .lit k,.of cs=>.of ((List.replicate k cs).flatten)
 | n,l=>.rep n l
def Tg:EN→Option Nat
 | .lit n=>some n
 | _=>none
def X4:EL→Nat→Option (EB×EV)
 | .of cs,n=>match cs[n]? with
  | some v=>some (.lit true,v)
  | none=>none
 | .set l o v,n=>match Tg o,eG v with
  | some m,false=>match Nat.beq m n with
   | true=>some (Q6 (.lit (n+1)) (X8 l),v)
   | false=>X4 l n
  | _,_=>none
 | _,_=>none
def rdI (k:IntKind) (l:EL) (o:EN):Option (EB×EI):=
 match Tg o with
 | some n=>match X4 l n with
  | some (c,.int k' e)=>if k=k' then some (c,e) else none
  | some _=>none
  | none=>some (.isI k l o,.get l o)
 | none=>some (.isI k l o,.get l o)
def rdB (l:EL) (o:EN):Option (EB×EB):=
 match Tg o with
 | some n=>match X4 l n with
  | some (c,.bool e)=>some (c,e)
  | some _=>none
  | none=>some (.isB l o,.get l o)
 | none=>some (.isB l o,.get l o)
end Go.Am
namespace Go.Am
structure Iw where
 esz:Nat
 cells:EL
abbrev DHp:=List (Option Iw)
abbrev DFr:=List EV
noncomputable def Ng (F:DFr) (n:Nat):EV:=
 List.rec (motive:=fun _=>Nat→EV) (fun _=>.undef) (fun x _ ih n=>Nat.rec (motive:=fun _=>EV) x (fun m _=>ih m) n) F n
noncomputable def kG (F:DFr) (n:Nat) (v:EV):DFr:=
 List.rec (motive:=fun _=>Nat→DFr) (fun _=>[]) (fun x xs ih n=>Nat.rec (motive:=fun _=>DFr) (v::xs) (fun m _=>x::ih m) n) F n
theorem Cn:∀ (F:DFr) (n:Nat),Ng F n=F.getD n .undef
 | [],n=>rfl
 | x::F,0=>rfl
 | x::F,n+1=>by
  have:=Cn F n
  show Ng F n=_;rw [this];rfl
theorem Mi:∀ (F:DFr) (n:Nat) (v:EV),kG F n v=F.set n v
 | [],n,v=>rfl
 | x::F,0,v=>rfl
 | x::F,n+1,v=>by
  have:=Mi F n v
  show x::kG F n v=_;rw [this];rfl
structure Facts where
 n:Nat
 l:List (EB×Bool)
inductive T
 | fail
 | chk (b:EB) (t:T)
 | tst (b:EB) (x y:T)
 | imp (b:EB) (t:T)
 | allI (j:Nat) (k:Int→T)
 | allN (j:Nat) (k:Nat→T)
 | allB (j:Nat) (k:Bool→T)
 | allL (j:Nat) (k:List AV→T)
 | namI (j:Nat) (e:EI) (k:Int→T)
 | namN (j:Nat) (e:EN) (k:Nat→T)
 | namB (j:Nat) (e:EB) (k:Bool→T)
 | namL (j:Nat) (e:EL) (k:List AV→T)
 | leaf (e:Ex) (F:List EV) (H:DHp)
 | ret (v:EV) (H:DHp)
inductive DHop
 | set (i:Nat) (b:Iw)
 | new (b:Iw)
 | app (j:Nat) (b:Iw)
def DHop.act (H:DHp):DHop→DHp
 | .set i b=>H.set i (some b)
 | .new b=>H++[some b]
 | .app j b=>H.set j none++[some b]
def Fs (H:DHp):List DHop→DHp
 | []=>H
 | h::hs=>Fs (h.act H) hs
inductive Outs
 | one (v:EV) (hs:List DHop)
 | chk (b:EB) (x:Outs)
 | tst (b:EB) (x y:Outs)
 | namI (e:EI) (k:EI→Outs)
 | namN (e:EN) (k:EN→Outs)
 | namB (e:EB) (k:EB→Outs)
 | namL (e:EL) (k:EL→Outs)
inductive LOut
 | one (e:Ex) (F:DFr) (H:DHp)
 | chk (b:EB) (x:LOut)
 | tst (b:EB) (x y:LOut)
 | imp (b:EB) (x:LOut)
 | allI (k:EI→LOut)
 | allN (k:EN→LOut)
 | allB (k:EB→LOut)
 | allL (k:EL→LOut)
 | namI (e:EI) (k:EI→LOut)
 | namN (e:EN) (k:EN→LOut)
 | namB (e:EB) (k:EB→LOut)
 | namL (e:EL) (k:EL→LOut)
def nf:EB→EB×Bool
 | .not b=>match nf b with | (b,s)=>(b,!s)
 | .cmp .neq a b=>(.cmp .eql a b,false)
 | .cmp .geq a b=>(.cmp .lss a b,false)
 | .cmp .gtr a b=>(.cmp .lss b a,true)
 | .cmp .leq a b=>(.cmp .lss b a,false)
 | b=>(b,true)
def look (b:EB):List (EB×Bool)→Option Bool
 | []=>none
 | (c,v)::fs=>match eqB b c with
  | true=>some v
  | false=>look b fs
def maxO:Option Int→Int→Option Int
 | none,b=>some b
 | some a,b=>some (if a<b then b else a)
def minO:Option Int→Int→Option Int
 | none,b=>some b
 | some a,b=>some (if b<a then b else a)
def Ux (a:EI):List (EB×Bool)→Option Int×Option Int
 | []=>match a with
  | .ofN _=>(some 0,none)
  | _=>(none,none)
 | (.cmp .eql b (.lit m),true)::fs=>match El a b with
  | true=>(some m,some m)
  | false=>Ux a fs
 | (.cmp .lss b (.lit m),v)::fs=>match El a b,v,Ux a fs with
  | true,true,(lo,hi)=>(lo,minO hi (m - 1))
  | true,false,(lo,hi)=>(maxO lo m,hi)
  | _,_,r=>r
 | (.cmp .lss (.lit m) b,v)::fs=>match El a b,v,Ux a fs with
  | true,true,(lo,hi)=>(maxO lo (m+1),hi)
  | true,false,(lo,hi)=>(lo,minO hi m)
  | _,_,r=>r
 | _::fs=>Ux a fs
def decR (o:BinOp) (r:Option Int×Option Int) (s:Option Int×Option Int):Option Bool:=
 match o with
 | .lss=>match r,s with
  | (lo,hi),(lo',hi')=>match hi,lo' with
   | some a,some b=>match decide (a<b),lo,hi' with
    | true,_,_=>some true
    | false,some c,some d=>if d≤c then some false else none
    | false,_,_=>none
   | _,_=>match lo,hi' with
    | some c,some d=>if d≤c then some false else none
    | _,_=>none
 | .eql=>match r,s with
  | (lo,hi),(lo',hi')=>match (match hi,lo' with | some a,some b=>decide (a<b) | _,_=>false)||(match hi',lo with | some a,some b=>decide (a<b) | _,_=>false) with
   | true=>some false
   | false=>match lo,hi,lo',hi' with
    | some a,some b,some c,some d=>if a=b∧c=d∧a=c then some true else none
    | _,_,_,_=>none
 | _=>none
def Qx (fs:List (EB×Bool)):EI→Option Int×Option Int
 | .lit n=>(some n,some n)
 | a=>Ux a fs
def decN (fs:List (EB×Bool)) (b:EB):Option Bool:=
 match look b fs with
 | some v=>some v
 | none=>match b with
  | .cmp .eql x y=>match El x y with
   | true=>some true
   | false=>decR .eql (Qx fs x) (Qx fs y)
  | .cmp .lss x y=>match El x y with
   | true=>some false
   | false=>decR .lss (Qx fs x) (Qx fs y)
  | .eqS x y=>match eqS x y with
   | true=>some true
   | false=>none
  | .leN x y=>match eqN x y with
   | true=>some true
   | false=>none
  | .eqN x y=>match eqN x y with
   | true=>some true
   | false=>none
  | _=>none
def dec (fs:Facts) (b:EB):Option Bool:=
 match nf b with
 | (b,s)=>match decN fs.l b with
  | some v=>some (v==s)
  | none=>none
def Fo (fs:Facts) (b:EB) (v:Bool):Facts:=
 match nf b with
 | (b,s)=>⟨fs.n,(b,v==s)::fs.l⟩
def fresh (fs:Facts):Facts:=⟨fs.n+1,fs.l⟩
def Bs (b:EB) (t:T):T:=
 match b with
 | .lit true=>t
 | .lit false=>.fail
 | .and a b=>Bs a (Bs b t)
 | b=>.chk b t
def X0 (fs:Facts) (b:EB) (x y:Facts→T):T:=
 match b with
 | .lit true=>x fs
 | .lit false=>y fs
 | .not b=>X0 fs b y x
 | .and a b=>X0 fs a (fun fs=>X0 fs b x y) y
 | .eqB a b=>X0 fs a (fun fs=>X0 fs b x y) (fun fs=>X0 fs b y x)
 | b=>match dec fs b with
  | some true=>.chk b (x fs)
  | some false=>.chk (.not b) (y fs)
  | none=>.tst b (x (Fo fs b true)) (y (Fo fs b false))
def Vb (o:Option (EB×EV)) (k:EV→T):T:=match o with | some (c,v)=>Bs c (k v) | none=>.fail
def bP:Value→EV
 | .bool b=>.bool (.lit b)
 | .int k n=>.int k (.lit n)
 | .string s=>.str (.lit s.data.toList)
 | .pointer none=>.nilp
 | .slice none 0 0=>.nils
 | .nilFunc=>.nilf
 | _=>.undef
def lU:Value→EV
 | .agg cs=>.agg (.of (cs.toList.map bP))
 | v=>bP v
noncomputable def evD (F:DFr):Operand→EV
 | .tmp t=>Ng F t
 | .const v=>lU v
 | .global _=>.undef
 | .func f=>.func f []
def binIntD (op:BinOp) (k:IntKind) (x y:EI):Option (EB×EV):=
 match op with
 | .add=>some (.lit true,.int k (Bf .add k x y))
 | .sub=>some (.lit true,.int k (Bf .sub k x y))
 | .mul=>some (.lit true,.int k (Bf .mul k x y))
 | .quo=>some (Cc (F6 .eql y (.lit 0)),.int k (Bf .quo k x y))
 | .rem=>some (Cc (F6 .eql y (.lit 0)),.int k (Bf .rem k x y))
 | .and=>some (.lit true,.int k (Bf .and k x y))
 | .or=>some (.lit true,.int k (Bf .or k x y))
 | .xor=>some (.lit true,.int k (Bf .xor k x y))
 | .andNot=>some (.lit true,.int k (Bf .andNot k x y))
 | .eql=>some (.lit true,.bool (F6 .eql x y))
 | .neq=>some (.lit true,.bool (Cc (F6 .eql x y)))
 | .lss=>some (.lit true,.bool (F6 .lss x y))
 | .leq=>some (.lit true,.bool (F6 .leq x y))
 | .gtr=>some (.lit true,.bool (F6 .gtr x y))
 | .geq=>some (.lit true,.bool (F6 .geq x y))
 | _=>none
def Qi (op:BinOp) (k:IntKind) (x y:EI):Option (EB×EV):=
 match op with
 | .shl=>some (F6 .leq (.lit 0) y,.int k (Bf .shl k x y))
 | .shr=>some (F6 .leq (.lit 0) y,.int k (Bf .shr k x y))
 | _=>none
def Fk:ES→EN
 | .lit s=>.lit s.length
 | s=>.slen s
def Yn (op:BinOp) (x y:ES):Option (EB×EV):=
 match op with
 | .add=>some (Q6 (L5 (Fk x) (Fk y)) (.lit 9223372036854775807),.str (lA x y))
 | .eql=>some (.lit true,.bool (Vg x y))
 | .neq=>some (.lit true,.bool (Cc (Vg x y)))
 | _=>none
def Fp (op:BinOp) (c:Bool) (b:EB):Option (EB×EV):=
 match op with
 | .eql=>some (.lit c,.bool b)
 | .neq=>some (.lit c,.bool (Cc b))
 | _=>none
def Cb (P:Program) (t:TypeId) (l:EL) (o:EN):Option (EB×EV):=
 match P.underlying t with
 | some (.int k)=>match rdI k l o with
  | some (c,e)=>some (c,.int k e)
  | none=>none
 | some .bool=>match rdB l o with
  | some (c,e)=>some (c,.bool e)
  | none=>none
 | some (.struct _)=>match E4 P t with
  | some z=>some (Q6 (L5 o (.lit z)) (X8 l),.agg (Dt l o (.lit z)))
  | none=>none
 | some (.array _ _)=>match E4 P t with
  | some z=>some (Q6 (L5 o (.lit z)) (X8 l),.agg (Dt l o (.lit z)))
  | none=>none
 | some _=>match Tg o with
  | some n=>X4 l n
  | none=>none
 | none=>none
def Ru (P:Program) (rec:TypeId→EV→EV→Option (EB×EB)) (xs ys:EL):List Field→Option (EB×EB)
 | []=>some (.lit true,.lit true)
 | f::fs=>
  if f.name ≠ "_" then
   match Cb P f.type xs (.lit f.offset),Cb P f.type ys (.lit f.offset) with
   | some (c1,a),some (c2,b)=>
    match rec f.type a b,Ru P rec xs ys fs with
    | some (c3,r),some (c4,s)=>some (D6 c1 (D6 c2 (D6 c3 c4)),D6 r s)
    | _,_=>none
   | _,_=>none
  else Ru P rec xs ys fs
def Wh (P:Program) (rec:TypeId→EV→EV→Option (EB×EB)) (e:TypeId) (z:Nat) (xs ys:EL):List Nat→Option (EB×EB)
 | []=>some (.lit true,.lit true)
 | i::is=>
   match Cb P e xs (.lit (i*z)),Cb P e ys (.lit (i*z)) with
   | some (c1,a),some (c2,b)=>
    match rec e a b,Wh P rec e z xs ys is with
    | some (c3,r),some (c4,s)=>some (D6 c1 (D6 c2 (D6 c3 c4)),D6 r s)
    | _,_=>none
   | _,_=>none
def Yi (P:Program):Nat→TypeId→EV→EV→Option (EB×EB)
 | 0,_,_,_=>none
 | n+1,t,x,y=>
  match P.underlying t with
  | some (.int _)=>match x,y with
   | .int k a,.int k' b=>if k=k' then some (.lit true,F6 .eql a b) else none
   | _,_=>none
  | some .bool=>match x,y with
   | .bool a,.bool b=>some (.lit true,bH a b)
   | _,_=>none
  | some .string=>match x,y with
   | .str a,.str b=>some (.lit true,Vg a b)
   | _,_=>none
  | some (.struct fs)=>match x,y with
   | .agg xs,.agg ys=>match P.stoodInHeld t with
    | true=>none
    | false=>Ru P (Yi P n) xs ys fs.toList
   | _,_=>none
  | some (.array m e)=>match x,y with
   | .agg xs,.agg ys=>match E4 P e with
    | some z=>Wh P (Yi P n) e z xs ys (List.range m)
    | none=>none
   | _,_=>none
  | _=>none
def eqA1 (P:Program) (t:TypeId) (as:List AV):Bool:=match as with
 | [x,y]=>match Oa P 10 t x y with
  | some (c,_)=>c
  | none=>false
 | _=>false
def eqA2 (P:Program) (t:TypeId) (as:List AV):Bool:=match as with
 | [x,y]=>match Oa P 10 t x y with
  | some (_,b)=>b
  | none=>false
 | _=>false
def lH:EL→Bool
 | .of _=>true
 | _=>false
def tP (P:Program) (t:TypeId) (xs ys:EL):Option (EB×EB):=
 match lH xs||lH ys||(match E4 P t with | some z=>Nat.ble z 8 | none=>false) with
 | true=>Yi P 10 t (.agg xs) (.agg ys)
 | false=>some (.uf (100000+t) (eqA1 P t) [.agg xs,.agg ys],.uf (200000+t) (eqA2 P t) [.agg xs,.agg ys])
def uI (P:Program) (op:BinOp) (t:TypeId) (x y:EV):Option (EB×EV):=
 match x,y with
 | .int k a,.int k' b=>
  match op with
  | .shl | .shr=>Qi op k a b
  | _=>if k=k' then binIntD op k a b else none
 | .str a,.str b=>Yn op a b
 | .bool a,.bool b=>Fp op (Rm (P.underlying t)) (bH a b)
 | .ptr _ _,.nilp=>Fp op (Gd (P.underlying t)) (.lit false)
 | .nilp,.ptr _ _=>Fp op (Gd (P.underlying t)) (.lit false)
 | .nilp,.nilp=>Fp op (Gd (P.underlying t)) (.lit true)
 | .slice false _ _ _,.nils=>Fp op (Fb (P.underlying t)) (.lit false)
 | .nils,.nils=>Fp op (Fb (P.underlying t)) (.lit true)
 | .func _ _,.nilf=>Fp op (Ho (P.underlying t)) (.lit false)
 | .nilf,.nilf=>Fp op (Ho (P.underlying t)) (.lit true)
 | .agg xs,.agg ys=>
  match P.eqGuardType P.depth t with
  | true=>none
  | false=>match tP P t xs ys with
   | some (c,b)=>match op with
    | .eql=>some (c,.bool b)
    | .neq=>some (c,.bool (Cc b))
    | _=>none
   | none=>none
 | _,_=>none
def unD (op:UnOp) (x:EV):Option (EB×EV):=
 match op,x with
 | .neg,.int k n=>some (.lit true,.int k (kY k n))
 | .xor,.int k n=>some (.lit true,.int k (kZ k n))
 | .not,.bool b=>some (.lit true,.bool (Cc b))
 | _,_=>none
def lV (P:Program) (src dst:TypeId) (x:EV):Option (EB×EV):=
 match P.underlying src,P.underlying dst,x with
 | some _,some (.int k),.int _ n=>some (.lit true,.int k (dS k n))
 | some _,some .string,.str s=>some (.lit true,.str s)
 | _,_,_=>none
def fE (P:Program) (s:TypeId) (x:EV) (f:Nat):Option (EB×EV):=
 match P.underlying s,x with
 | some (.struct fs),.ptr r off=>
  match fs[f]? with
  | some fd=>
   match E4 P fd.type with
   | some 0=>none
   | some _=>some (.lit true,.ptr r (L5 off (.lit fd.offset)))
   | none=>none
  | none=>none
 | _,_=>none
def eI (P:Program) (t:TypeId) (x i:EV):Option (EB×EV):=
 match i with
 | .int _ i=>
  match P.underlying t,x with
  | some (.array len e),.ptr r off=>
   match E4 P e with
   | some z=>some (D6 (F6 .leq (.lit 0) i) (F6 .lss i (.lit len)),.ptr r (L5 (Q5 (X7 i) z) off))
   | none=>none
  | some (.slice e),.slice _ r off len=>
   match E4 P e with
   | some z=>some (D6 (F6 .leq (.lit 0) i) (F6 .lss i (Hc len)),.ptr r (L5 (Q5 (X7 i) z) off))
   | none=>none
  | _,_=>none
 | _=>none
def Gj (x:Option EV) (d:EI):Option EI:=
 match x with
 | none=>some d
 | some (.int _ i)=>some i
 | some _=>none
def cK (P:Program) (t:TypeId) (x:EV) (lo hi:Option EV):Option (EB×EV):=
 match P.underlying t,x with
 | some (.slice e),.slice mb r off len=>
  match E4 P e,Gj lo (.lit 0),Gj hi (Hc len) with
  | some z,some l,some h=>some (D6 (F6 .leq (.lit 0) l) (D6 (F6 .leq l h) (F6 .leq h (Hc len))),.slice mb r (L5 (Q5 (X7 l) z) off) (kX (X7 h) (X7 l)))
  | _,_,_=>none
 | some (.slice e),.nils=>
  match E4 P e,Gj lo (.lit 0),Gj hi (.lit 0) with
  | some _,some l,some h=>some (D6 (F6 .leq (.lit 0) l) (D6 (F6 .leq l h) (F6 .leq h (.lit 0))),.nils)
  | _,_,_=>none
 | some .string,.str s=>
  match Gj lo (.lit 0),Gj hi (Hc (Fk s)) with
  | some l,some h=>some (D6 (F6 .leq (.lit 0) l) (D6 (F6 .leq l h) (F6 .leq h (Hc (Fk s)))),.str (.sub s (X7 l) (X7 h)))
  | _,_=>none
 | _,_=>none
def U6:EV→EL
 | .agg cs=>cs
 | v=>.of [v]
def Vp:EV→Bool
 | .undef=>false
 | _=>true
def Rl:EV→Bool
 | .undef | .agg _ | .tup _=>false
 | _=>true
def Is:EL→EB
 | .of cs=>.lit (cs.all Rl)
 | .sub l o n=>.cells (.sub l o n)
 | l=>.cells l
def He (v:EV):EB:=
 match v with
 | .agg l=>Is l
 | v=>.lit (Rl v)
def Kz (v:EV) (z:Nat):EB:=
 match v with
 | .agg l=>bG (X8 l) (.lit z)
 | _=>.lit (Nat.beq 1 z)
def Ni (place:Nat→Option (Nat×Nat)) (cells:EL):List (Nat×EV)→Option (EB×EL)
 | []=>some (.lit true,cells)
 | (i,v)::rest=>
  match place i with
  | none=>none
  | some (off,size)=>
   match Ni place (Mx cells (.lit off) v) rest with
   | none=>none
   | some (c,r)=>match Vp v with
    | true=>some (D6 (Kz v size) (D6 (Q6 (.lit (off+size)) (X8 cells)) c),r)
    | false=>none
def Gx (P:Program) (t:TypeId):Option EV:=
 match P.info? t with
 | some i=>match i.zero with
  | some z=>some (lU z)
  | none=>none
 | none=>none
def fT (P:Program) (t:TypeId) (parts:List (Nat×EV)):Option (EB×EV):=
 match P.underlying t,Gx P t with
 | some (.struct fs),some (.agg z)=>
  match Ev P fs.toList with
  | some ps=>
   match Ni (fun i=>ps[i]?) z parts with
   | some (c,cs)=>some (c,.agg cs)
   | none=>none
  | none=>none
 | some (.array _ e),some (.agg z)=>
  match E4 P e with
  | some n=>
   match Ni (fun i=>some (i*n,n)) z parts with
   | some (c,cs)=>some (c,.agg cs)
   | none=>none
  | none=>none
 | _,_=>none
def tA (P:Program) (t:TypeId) (x:EV):Option (EB×EV):=
 match P.underlying t,x with
 | some .string,.str s=>some (.lit true,.int .i64 (Hc (Fk s)))
 | some (.array n _),_=>some (.lit true,.int .i64 (.lit n))
 | some (.slice _),.slice _ _ _ n=>some (.lit true,.int .i64 (Hc n))
 | some (.slice _),.nils=>some (.lit true,.int .i64 (.lit 0))
 | _,_=>none
def tZ (P:Program) (t:TypeId) (x:EV):Option (EB×EV):=
 match P.underlying t,x with
 | some (.slice _),.nils=>some (.lit true,.int .i64 (.lit 0))
 | _,_=>none
def sX (x y:EV):Option (EB×EV):=
 match x,y with
 | .int k a,.int k' b=>if k=k' then some (.lit true,.int k (.mx a b)) else none
 | _,_=>none
def sV (x y:EV):Option (EB×EV):=
 match x,y with
 | .int k a,.int k' b=>if k=k' then some (.lit true,.int k (.mn a b)) else none
 | _,_=>none
def kW (c a b:EV):Option (EB×EV):=
 match c with
 | .bool (.lit true)=>some (.lit true,a)
 | .bool (.lit false)=>some (.lit true,b)
 | _=>none
def Pe (x:EV):Option (EB×EV):=
 match x with
 | .ptr r o=>some (.lit true,.ptr r o)
 | .func f c=>some (.lit true,.func f c)
 | .slice m r o n=>some (.lit true,.slice m r o n)
 | _=>none
noncomputable def bE (P:Program) (F:DFr) (op:Op):Option (EB×EV):=
 match op with
 | .move x=>some (.lit true,evD F x)
 | .assign x=>some (.lit true,evD F x)
 | .pick c a b=>kW (evD F c) (evD F a) (evD F b)
 | .nilCheck x=>Pe (evD F x)
 | .binOp op t x y _=>uI P op t (evD F x) (evD F y)
 | .unOp op _ x=>unD op (evD F x)
 | .convert s d x=>lV P s d (evD F x)
 | .fieldAddr s x f=>fE P s (evD F x) f
 | .indexAddr t x i=>eI P t (evD F x) (evD F i)
 | .slice t x lo hi none=>cK P t (evD F x) (lo.map (evD F)) (hi.map (evD F))
 | .build t parts=>fT P t (parts.toList.map fun p=>(p.1,evD F p.2))
 | .extract x i=>match evD F x with
  | .tup vs=>match vs[i]? with
   | some v=>some (.lit true,v)
   | none=>none
  | _=>none
 | .makeFunc (.func f) first cap=>if first.size=0 then some (.lit true,.func f (cap.toList.map (evD F))) else none
 | .call { callee:=.builtin .len,args,argTypes }=>
  match args.toList,argTypes.toList with
  | [x],[t]=>tA P t (evD F x)
  | _,_=>none
 | .call { callee:=.builtin .cap,args,argTypes }=>
  match args.toList,argTypes.toList with
  | [x],[t]=>tZ P t (evD F x)
  | _,_=>none
 | .call { callee:=.builtin .max,args,.. }=>
  match args.toList with
  | [x,y]=>sX (evD F x) (evD F y)
  | _=>none
 | .call { callee:=.builtin .min,args,.. }=>
  match args.toList with
  | [x,y]=>sV (evD F x) (evD F y)
  | _=>none
 | _=>none
def Pk (b:Iw):Bool:=Nat.beq b.esz 4294967291
def Z3 (z:Nat):Nat→DHp→Nat→Option (List EV)
 | _,_,0=>some []
 | j,some ⟨z',.row l (.lit i)⟩::H,n+1=>match Nat.beq z z'&&Nat.beq i j with
  | true=>match Z3 z (j+1) H n with
   | some ls=>some (.agg l::ls)
   | none=>none
  | false=>none
 | _,_,_+1=>none
def Rt (H:DHp) (b c:Nat):Option (Nat×EL×List EV):=
 match H.drop b with
 | some ⟨z,.row l (.lit _)⟩::_=>match Nat.beq z 4294967291 with
  | true=>none
  | false=>match Z3 z 0 (H.drop b) c with
   | some ls=>some (z,l,ls)
   | none=>none
 | _=>none
def Rq (b c z:Nat) (l:EL):List DHop:=(List.range c).map fun j=>.set (b+j) ⟨z,.row l (.lit j)⟩
def Ff (H:DHp):ER→Option (EB×EL)
 | .rw i=>match H[i]? with
  | some (some b)=>match Pk b with
   | true=>none
   | false=>some (.lit true,b.cells)
  | _=>none
 | .ro n=>some (.lit true,.ro n)
 | .fm b c k=>match Rt H b c with
  | some (_,l,ls)=>some (D6 (Q6 (L5 k (.lit 1)) (.lit c)) (.rows l ls),.row l k)
  | none=>none
def lE (l:Lf) (cs:EL) (off:EN):EV:=
 match l with
 | .int k=>.int k (.get cs off)
 | .bool=>.bool (.get cs off)
 | .str=>.str (.get cs off)
 | .sl=>.slice true (.ro (.rk cs off)) (.ro cs off) (.rn cs off)
def Lm (cs:EL):EN→List Lf→List EV
 | _,[]=>[]
 | off,l::ls=>lE l cs off::Lm cs (L5 off (.lit 1)) ls
def dI (P:Program) (t:TypeId) (cs:EL) (off:EN):Option (EB×EV):=
 match P.underlying t with
 | some (.int k)=>some (.isI k cs off,.int k (.get cs off))
 | some .bool=>some (.isB cs off,.bool (.get cs off))
 | some .string=>some (.isT cs off,.str (.get cs off))
 | some (.slice _)=>some (.isR cs off,.slice true (.ro (.rk cs off)) (.ro cs off) (.rn cs off))
 | some (.struct _)=>match E4 P t,Rj P 10 t with
  | some z,some ls=>match Nat.beq ls.length z with
   | true=>some (.leaf cs off ls,.agg (.of (Lm cs off ls)))
   | false=>none
  | _,_=>none
 | some (.array _ _)=>match E4 P t,Rj P 10 t with
  | some z,some ls=>match Nat.beq ls.length z with
   | true=>some (.leaf cs off ls,.agg (.of (Lm cs off ls)))
   | false=>none
  | _,_=>none
 | _=>none
def oK (P:Program) (r:ER) (t:TypeId) (cs:EL) (off:EN):Option (EB×EV):=
 match r with
 | .rw _=>Cb P t cs off
 | .ro _=>dI P t cs off
 | .fm _ _ _=>Cb P t cs off
def bI (P:Program) (H:DHp) (t:TypeId) (r:ER) (off:EN):Option (EB×EV):=
 match Ff H r with
 | some (c0,cs)=>match oK P r t cs off with
  | some (c,v)=>some (D6 c0 c,v)
  | none=>none
 | none=>none
def lG (cs:List AV) (o:Nat):Bool:=match cs[o]? with | some (.slice true (.ro _) _ _)=>true | _=>false
def isRXU:List AV→Bool:=fun vs=>match vs with
 | [.agg cs,.int _ o]=>lG cs o.toNat
 | _=>false
inductive FL where
 | int (k:IntKind)
 | bool
 | sl (b c:Nat)
def wB (rec:TypeId→Option (List FL)):Nat→List Field→Option (List FL)
 | _,[]=>some []
 | acc,f::fs=>
  match Nat.beq f.offset acc with
  | true=>match rec f.type with
   | some a=>match wB rec (acc+a.length) fs with
    | some b=>some (a++b)
    | none=>none
   | none=>none
  | false=>none
def vZ (P:Program) (fam:TypeId→Option (Nat×Nat)):Nat→TypeId→Option (List FL)
 | 0,_=>none
 | n+1,t=>
  match P.underlying t with
  | some (.int k)=>some [.int k]
  | some .bool=>some [.bool]
  | some (.slice _)=>match fam t with
   | some (b,c)=>some [.sl b c]
   | none=>none
  | some (.struct fs)=>wB (vZ P fam n) 0 fs.toList
  | _=>none
def Rs (l:EL) (o:EN):FL→EV
 | .int k=>.int k (.get l o)
 | .bool=>.bool (.get l o)
 | .sl b c=>match c with
  | 0=>.slice true (.ro (.rk l o)) (.ro l o) (.rn l o)
  | _=>.slice true (.fm b c (.fk b l o)) (.fo l o) (.fn l o)
def Rr (l:EL) (o:EN):FL→EB
 | .int k=>.isI k l o
 | .bool=>.isB l o
 | .sl b c=>match c with
  | 0=>.uf 1099 isRXU [.agg l,.int .i64 (.ofN o)]
  | _=>.isF b c l o
def Wc (l:EL):EN→List FL→List EV
 | _,[]=>[]
 | o,f::fs=>Rs l o f::Wc l (L5 o (.lit 1)) fs
def bK (l:EL):EN→List FL→EB
 | _,[]=>.lit true
 | o,f::fs=>D6 (Rr l o f) (bK l (L5 o (.lit 1)) fs)
inductive FamR where
 | val (c:EB) (v:EV)
 | ptr (n c:EB) (v:EV)
def fF (fam:TypeId→Option (Nat×Nat)) (P:Program) (t:TypeId) (cs:EL) (off:EN):Option FamR:=
 match fam t with
 | none=>none
 | some (b,c)=>match P.underlying t with
  | some (.struct _)=>match lH cs with
   | true=>none
   | false=>match E4 P t,vZ P fam 10 t with
    | some z,some ls=>match Nat.beq ls.length z&&Nat.ble 1 z with
     | true=>some (.val (bK cs off ls) (.agg (.of (Wc cs off ls))))
     | false=>none
    | _,_=>none
  | some (.slice _)=>match Cb P t cs off with
   | some _=>none
   | none=>some (.val (Rr cs off (.sl b c)) (Rs cs off (.sl b c)))
  | some (.pointer _)=>match Cb P t cs off with
   | some _=>none
   | none=>some (.ptr (.isNil cs off) (.isP b c cs off) (.ptr (.fm b c (.fk b cs off)) (.fo cs off)))
  | _=>none
noncomputable def fH (fam:TypeId→Option (Nat×Nat)) (P:Program) (F:DFr) (H:DHp) (op:Op):Option (EB×FamR):=
 match op with
 | .load t a=>match evD F a with
  | .ptr r off=>match r with
   | .ro _=>none
   | r=>match Ff H r with
    | some (c0,cs)=>match fF fam P t cs off with
     | some x=>some (c0,x)
     | none=>none
    | none=>none
  | _=>none
 | .field t x f=>
  match P.underlying t,evD F x with
  | some (.struct fs),.agg cs=>match fs[f]? with
   | some fd=>match fF fam P fd.type cs (.lit fd.offset) with
    | some x=>some (.lit true,x)
    | none=>none
   | none=>none
  | _,_=>none
 | .index t x i=>
  match P.underlying t,evD F x,evD F i with
  | some (.array len e),.agg cs,.int _ i=>match E4 P e with
   | some z=>match fF fam P e cs (Q5 (X7 i) z) with
    | some x=>some (D6 (F6 .leq (.lit 0) i) (F6 .lss i (.lit len)),x)
    | none=>none
   | none=>none
  | _,_,_=>none
 | _=>none
def Ye (fs:Facts) (o:EB×FamR) (k:Facts→EV→T):T:=
 match o with
 | (c0,.val c v)=>Bs c0 (Bs c (k fs v))
 | (c0,.ptr n c v)=>Bs c0 (X0 fs n (fun fs=>k fs .nilp) (fun fs=>Bs c (k fs v)))
def nA (cs:EL) (off n:EN):EB×EV:=
 (D6 (Q6 (L5 off n) (X8 cs)) (.u8s (Dt cs off n)),.str (.ofL (Dt cs off n)))
noncomputable def bC (P:Program) (F:DFr) (H:DHp) (op:Op):Option (EB×EV):=
 match op with
 | .load t a=>match evD F a with
  | .ptr r off=>bI P H t r off
  | _=>none
 | .field t x f=>
  match P.underlying t,evD F x with
  | some (.struct fs),.agg cs=>match fs[f]? with
   | some fd=>Cb P fd.type cs (.lit fd.offset)
   | none=>none
  | _,_=>none
 | .index t x i=>
  match P.underlying t,evD F x,evD F i with
  | some (.array len e),.agg cs,.int _ i=>match E4 P e with
   | some z=>match Cb P e cs (Q5 (X7 i) z) with
    | some (c,v)=>some (D6 (F6 .leq (.lit 0) i) (D6 (F6 .lss i (.lit len)) c),v)
    | none=>none
   | none=>none
  | _,_,_=>none
 | .convert s d x=>
  match R2 P s&&U0 P d,evD F x with
  | true,.nils=>some (.lit true,.str (.lit []))
  | true,.slice _ r off n=>match Ff H r with
   | some (c0,cs)=>match nA cs off n with
    | (c,v)=>some (D6 c0 c,v)
   | none=>none
  | _,_=>none
 | _=>none
noncomputable def Qs (F:DFr) (op:Op):Option ER:=
 match op with
 | .load _ a=>match evD F a with
  | .ptr r _=>some r
  | _=>none
 | .convert _ _ x=>match evD F x with
  | .slice _ r _ _=>some r
  | _=>none
 | _=>none
def P0 (H:DHp):ER:=.rw H.length
def qY (H:DHp) (z:Nat) (x:EV):Option (EB×EN×EL):=
 match x with
 | .nils=>some (.lit true,.lit 0,.of [])
 | .slice _ r off m=>match Ff H r with
  | some (c0,cs)=>some (D6 c0 (D6 (Q6 (L5 off (Q5 m z)) (X8 cs)) (Is (Dt cs off (Q5 m z)))),m,Dt cs off (Q5 m z))
  | none=>none
 | .str s=>match Nat.beq z 1 with
  | true=>some (.lit true,Fk s,Rh s)
  | false=>none
 | _=>none
def Nb (z:Option EV) (n:Nat):Bool:=match z with
 | some v=>match U6 v with
  | .of cs=>Nat.beq cs.length n
  | _=>false
 | none=>false
def Sa (P:Program) (H:DHp) (t:TypeId) (s x:EV):Option (EB×EV×DHop):=
 match P.underlying t with
 | some (.slice e)=>
  match P.info? e,Gx P e with
  | some i,some zv=>
   match Bp i.size&&(Nat.ble 1 i.bytes&&Nb (some zv) i.size) with
   | false=>none
   | true=>
   match qY H i.size x with
   | some (c,m,xs)=>
    match s with
    | .nils=>some (D6 c (Q6 (Q5 m i.bytes) (.lit 140737488355328)),.slice true (P0 H) (.lit 0) m,.new ⟨i.size,xs⟩)
    | .slice mb (.rw j) (.lit 0) (.lit 0)=>
     match H[j]? with
     | some (some b)=>match Nat.beq b.esz i.size with
      | true=>some (D6 c (Q6 (Q5 m i.bytes) (.lit 140737488355328)),.slice mb (P0 H) (.lit 0) m,.app j ⟨i.size,xs⟩)
      | false=>none
     | _=>none
    | .slice mb (.rw j) (.lit 0) (.mul n 1)=>
     match H[j]? with
     | some (some b)=>match Nat.beq b.esz i.size with
      | true=>some (D6 c (D6 (Q6 (Q5 (L5 n m) i.bytes) (.lit 140737488355328)) (Q6 (Q5 n i.size) (X8 b.cells))),.slice mb (P0 H) (.lit 0) (L5 n m),.app j ⟨i.size,Vh (Dt b.cells (.lit 0) (Q5 n i.size)) xs⟩)
      | false=>none
     | _=>none
    | .slice mb (.rw j) (.lit 0) n=>
     match H[j]? with
     | some (some b)=>match Nat.beq b.esz i.size with
      | true=>some (D6 c (D6 (Q6 (Q5 (L5 n m) i.bytes) (.lit 140737488355328)) (bG (X8 b.cells) (Q5 n i.size))),.slice mb (P0 H) (.lit 0) (L5 n m),.app j ⟨i.size,Vh b.cells xs⟩)
      | false=>none
     | _=>none
    | _=>none
   | none=>none
  | _,_=>none
 | _=>none
def Rg (l:EL) (o:EN) (v:EV) (z:Nat):EL:=
 match v with
 | .agg d=>match lH d,l,o with
  | false,.of cs,.lit 0=>match Nat.beq cs.length z with
   | true=>d
   | false=>Mx l o v
  | _,_,_=>Mx l o v
 | v=>Mx l o v
def Yo (z:Nat) (as:List AV):Int:=match as with
 | [.int _ n]=>n*z
 | _=>0
def Ir (P:Program) (H:DHp) (t:TypeId) (s x:EV):Option (EB×EV×DHop):=
 match P.underlying t,s,x with
 | some (.slice e),.nils,.int .i64 n=>
  match P.info? e,Gx P e with
  | some i,some zv=>match Bp i.size&&(Nat.ble 1 i.bytes&&(Nb (some zv) i.size&&Nat.ble 1 i.size)) with
   | true=>some (D6 (F6 .leq (.lit 0) n) (F6 .leq (mkBigD n i.bytes) (.lit 140737488355328)),.slice true (P0 H) (.lit 0) (X7 n),.new ⟨i.size,Vf (X7 n) (U6 zv)⟩)
   | false=>none
  | _,_=>none
 | _,_,_=>none
where
 mkBigD (c:EI) (z:Nat):EI:=match c with
  | .lit n=>.lit (n*z)
  | c=>.uf (300000+z) (Yo z) [.int .i64 c]
def fQ (P:Program) (H:DHp) (t:TypeId) (x:EV):Option (EB×EV×DHop):=
 match P.underlying t,x with
 | some (.slice e),.slice _ (.rw j) off n=>
  match E4 P e,Gx P e,H[j]? with
  | some z,some zv,some (some b)=>match Pk b||!(Nb (some zv) z&&Nat.ble 1 z) with
   | true=>none
   | false=>some (D6 (Q6 (.lit 1) n) (D6 (Is (U6 zv)) (Q6 (L5 off (Q5 n z)) (X8 b.cells))),.tup [],.set j ⟨b.esz,Mx b.cells off (.agg (Vf n (U6 zv)))⟩)
  | _,_,_=>none
 | _,_=>none
noncomputable def Kr (P:Program) (F:DFr) (H:DHp) (op:Op):Option (EB×EV×DHop):=
 match op with
 | .store t a x=>
  match evD F a,E4 P t with
  | .ptr (.rw i) off,some z=>match H[i]? with
   | some (some b)=>match Pk b with
    | true=>none
    | false=>some (D6 (He (evD F x)) (D6 (Kz (evD F x) z) (Q6 (L5 off (.lit z)) (X8 b.cells))),.tup [],.set i ⟨b.esz,Rg b.cells off (evD F x) z⟩)
   | _=>none
  | _,_=>none
 | .alloc e=>match Gx P e with
  | some z=>some (.lit true,.ptr (P0 H) (.lit 0),.new ⟨1,U6 z⟩)
  | none=>none
 | .box _ x=>match Vp (evD F x) with
  | true=>some (.lit true,.ptr (P0 H) (.lit 0),.new ⟨1,U6 (evD F x)⟩)
  | false=>none
 | .buildSlice t n parts=>
  match P.underlying t with
  | some (.slice e)=>match E4 P e,Gx P e with
   | some z,some zv=>
    match U6 zv with
    | .of cs=>
     match Bp z&&(Nat.ble (n*z) 16777216&&Nat.beq cs.length z) with
     | true=>match Ni (fun i=>some (i*z,z)) (.of ((List.replicate n cs).flatten)) (parts.toList.map fun p=>(p.1,evD F p.2)) with
      | some (c,cs)=>some (c,.slice false (P0 H) (.lit 0) (.lit n),.new ⟨z,cs⟩)
      | none=>none
     | false=>none
    | _=>none
   | _,_=>none
  | _=>none
 | .makeSlice t l c=>
  match P.underlying t,evD F l,evD F c with
  | some (.slice e),.int _ l,.int _ c=>match P.info? e,Gx P e with
   | some i,some zv=>match Bp i.size&&(Nb (some zv) i.size&&Nat.ble 1 i.size) with
    | true=>some (D6 (F6 .leq (.lit 0) l) (D6 (F6 .leq l c) (D6 (F6 .leq (mkBig c i.bytes) (.lit 140737488355328)) (F6 .leq c (.lit 140737488355328)))),.slice false (P0 H) (.lit 0) (X7 l),.new ⟨i.size,Vf (X7 l) (U6 zv)⟩)
    | false=>none
   | _,_=>none
  | _,_,_=>none
 | .convert s d x=>
  match U0 P s&&R2 P d,evD F x with
  | true,.str s=>some (Q6 (Fk s) (.lit 140737488355328),.slice false (P0 H) (.lit 0) (Fk s),.new ⟨1,Rh s⟩)
  | false,.slice mb (.rw i) off n=>match R2 P s&&Nat.beq s d with
   | true=>match H[i]? with
    | some (some b)=>match Pk b with
     | true=>none
     | false=>some (Q6 (.lit 1) n,.slice mb (.rw i) off n,.set i b)
    | _=>none
   | false=>none
  | _,_=>none
 | .call { callee:=.builtin .append,args,argTypes }=>
  match args.toList,argTypes.toList with
  | [s,x],[t,u]=>match P.underlying u with
   | some (.slice _)=>Sa P H t (evD F s) (evD F x)
   | some .string=>Sa P H t (evD F s) (evD F x)
   | some (.int _)=>Ir P H t (evD F s) (evD F x)
   | _=>none
  | _,_=>none
 | .call { callee:=.builtin .clear,args,argTypes }=>
  match args.toList,argTypes.toList with
  | [x],[t]=>fQ P H t (evD F x)
  | _,_=>none
 | _=>none
where
 mkBig (c:EI) (z:Nat):EI:=match c with
  | .lit n=>.lit (n*z)
  | c=>.uf (300000+z) (Yo z) [.int .i64 c]
noncomputable def Xa (P:Program) (F:DFr) (H:DHp) (op:Op):Option (EB×List DHop):=
 match op with
 | .store t a x=>
  match evD F a,E4 P t with
  | .ptr (.fm b c k) off,some z=>match Rt H b c with
   | some (z0,l,ls)=>some (D6 (Q6 (L5 k (.lit 1)) (.lit c)) (D6 (.rows l ls) (D6 (Q6 (L5 k (.lit 1)) (.len l)) (D6 (He (evD F x)) (D6 (Kz (evD F x) z) (Q6 (L5 off (.lit z)) (X8 (.row l k))))))),Rq b c z0 (.put l k (Rg (.row l k) off (evD F x) z)))
   | none=>none
  | _,_=>none
 | _=>none
noncomputable def Rz (F:DFr) (op:Op):Option (FuncId×List EV):=
 match op with
 | .call { callee:=.value f,args,.. }=>match evD F f with
  | .func g cap=>some (g,args.toList.map (evD F)++cap)
  | _=>none
 | _=>none
noncomputable def Wz (F:DFr) (op:Op):Option (Nat×List EV):=
 match op with
 | .call { callee:=.value f,args,.. }=>match evD F f with
  | .yld i=>some (i,args.toList.map (evD F))
  | _=>none
 | _=>none
noncomputable def Xj (P:Program) (F:DFr) (H:DHp):ResultVar→Option (EB×EV)
 | .tmp t=>some (.lit true,Ng F t)
 | .cell a t=>match Ng F a with
  | .ptr r off=>bI P H t r off
  | _=>none
noncomputable def Lh (P:Program) (F:DFr) (H:DHp):List ResultVar→Option (EB×List EV)
 | []=>some (.lit true,[])
 | x::xs=>match Xj P F H x with
  | some (c,v)=>match Lh P F H xs with
   | some (d,r)=>some (D6 c d,v::r)
   | none=>none
  | none=>none
noncomputable def rR (P:Program) (fn:Func) (F:DFr) (H:DHp):Option (EB×EV):=
 match Lh P F H fn.results.toList with
 | some (c,[v])=>some (c,v)
 | some (c,vs)=>some (c,.tup vs)
 | none=>none
inductive DTrK where
 | still
 | read (r:ER)
 | write
structure Wv where
 kd:DTrK
 len:Nat
 hs:List DHop
def Kv (i:Nat) (len:Nat):List DHop→Bool
 | []=>false
 | .set j _::hs=>j==i||Kv i len hs
 | .new _::hs=>len==i||Kv i (len+1) hs
 | .app j _::hs=>j==i||(len==i||Kv i (len+1) hs)
def Ku (r:ER) (len:Nat) (hs:List DHop):Bool:=
 match r with
 | .rw i=>Kv i len hs
 | .ro _=>false
 | .fm _ _ _=>true
def Yq (x y:Wv):Bool:=
 match x.kd,y.kd with
 | .write,.write=>false
 | .write,.read r=>!Ku r x.len x.hs
 | .read r,.write=>!Ku r y.len y.hs
 | _,_=>true
def Yk (all:List Oper) (trs:List Wv):Bool:=
 let ms:=Cd all []
 Lv 0 all&&(List.range all.length).all fun j=>(List.range j).all fun i=>
  (ms.getD j 0).testBit i ||
  (match all[i]?,all[j]?,trs[i]?,trs[j]? with
   | some x,some y,some a,some b=>Lz all x y&&Yq a b
   | _,_,_,_=>false)
def Y7:Bool→Nat→DHp→Option (List DHop)
 | false,_,[]=>some []
 | true,_,[]=>none
 | false,i,some b::H'=>match Y7 false (i+1) H' with
  | some hs=>some (.new b::hs)
  | none=>none
 | true,i,some b::H'=>match Y7 false (i+1) H' with
  | some hs=>some (.app (i - 1) b::hs)
  | none=>none
 | false,i,none::H'=>match Y7 true (i+1) H' with
  | some hs=>some (.new ⟨0,.of []⟩::hs)
  | none=>none
 | true,i,none::H'=>match Y7 true (i+1) H' with
  | some hs=>some (.app (i - 1) ⟨0,.of []⟩::hs)
  | none=>none
def Fq:Nat→DHp→DHp→Option (List DHop)
 | i,[],H'=>Y7 false i H'
 | i,_::H,some b::H'=>match Fq (i+1) H H' with
  | some hs=>some (.set i b::hs)
  | none=>none
 | i,none::H,none::H'=>Fq (i+1) H H'
 | _,_,_=>none
inductive DWk where
 | code (c:Code)
 | ops (all l:List Oper)
 | dr (all l:List Oper) (trs:List Wv)
structure DCfg where
 P:Program
 inl:FuncId→Bool
 sum:FuncId→List EV→DHp→Option Outs
 loop:Code→DFr→DHp→Option LOut
 M:Nat
 rng:Code→DFr→DHp→Option LOut:=fun _ _ _=>none
 ysum:Nat→List EV→DHp→Option Outs:=fun _ _ _=>none
 /-- which types' slices and pointers lie in which family (where it begins,how many rows it eK);which structs are to be read field by field -/
 fam:TypeId→Option (Nat×Nat):=fun _=>none
abbrev DK:=Ex→DFr→DHp→Facts→T
abbrev DRec:=Nat→DWk→DFr→DHp→Facts→DK→T
def Z7 (K:DCfg) (rec:Code→Bool) (o:Oper):Bool:=
 match kdOf K.P o.op with
 | .pure=>true
 | .read=>true
 | .write=>false
 | .call=>match o.op with
  | .call { callee:=.value (.func g),.. }=>K.inl g&&(match K.P.funcs[g]? with
   | some fn=>match fn.body with
    | some c=>rec c
    | none=>true
   | none=>true)
  | _=>false
def N0 (K:DCfg) (rec:Code→Bool):Code→Bool
 | .skip=>true
 | .region _ ops _=>ops.toList.all (Z7 K rec)
 | .seq a b=>N0 K rec a&&N0 K rec b
 | .cond _ a b=>N0 K rec a&&N0 K rec b
 | .block _ c=>N0 K rec c
 | .loop _=>false
 | .exit _=>true
 | .scope c=>N0 K rec c
 | .label _=>true
 | .ret=>true
 | _=>false
def L8 (K:DCfg):Nat→Code→Bool
 | 0,_=>false
 | d+1,c=>N0 K (L8 K d) c
def Gg (fn:Func) (args:List EV):DFr:=args++List.replicate (fn.ntmps - args.length) (.tup [])
noncomputable def J0 (F:DFr) (d:Option Tmp) (v:EV):DFr:=
 match d with
 | some d=>kG F d v
 | none=>F
noncomputable def On (P:Program) (fn:Func) (Q:EV→DHp→Facts→T) (e:Ex) (F:DFr) (H:DHp) (fs:Facts):T:=
 match e with
 | .exit _=>.fail
 | _=>Vb (rR P fn F H) fun v=>Q v H fs
def An (fs:Facts) (o:Outs) (k:Facts→EV→List DHop→T):T:=
 match o with
 | .one v hs=>k fs v hs
 | .chk b x=>Bs b (An fs x k)
 | .tst b x y=>X0 fs b (fun fs=>An fs x k) (fun fs=>An fs y k)
 | .namI e f=>.namI fs.n e fun x=>An (fresh fs) (f (.var fs.n x)) k
 | .namN e f=>.namN fs.n e fun x=>An (fresh fs) (f (.var fs.n x)) k
 | .namB e f=>.namB fs.n e fun x=>An (fresh fs) (f (.var fs.n x)) k
 | .namL e f=>.namL fs.n e fun x=>An (fresh fs) (f (.var fs.n x)) k
def T9 (fs:Facts) (o:LOut) (k:Facts→Ex→DFr→DHp→T):T:=
 match o with
 | .one e F H=>k fs e F H
 | .chk b x=>Bs b (T9 fs x k)
 | .tst b x y=>X0 fs b (fun fs=>T9 fs x k) (fun fs=>T9 fs y k)
 | .imp b x=>.imp b (T9 (Fo fs b true) x k)
 | .allI f=>.allI fs.n fun x=>T9 (fresh fs) (f (.var fs.n x)) k
 | .allN f=>.allN fs.n fun x=>T9 (fresh fs) (f (.var fs.n x)) k
 | .allB f=>.allB fs.n fun x=>T9 (fresh fs) (f (.var fs.n x)) k
 | .allL f=>.allL fs.n fun x=>T9 (fresh fs) (f (.var fs.n x)) k
 | .namI e f=>.namI fs.n e fun x=>T9 (fresh fs) (f (.var fs.n x)) k
 | .namN e f=>.namN fs.n e fun x=>T9 (fresh fs) (f (.var fs.n x)) k
 | .namB e f=>.namB fs.n e fun x=>T9 (fresh fs) (f (.var fs.n x)) k
 | .namL e f=>.namL fs.n e fun x=>T9 (fresh fs) (f (.var fs.n x)) k
def G0 (ro:Bool) (H:DHp):T→Option Outs
 | .ret v H'=>match ro with
  | true=>some (.one v [])
  | false=>match Fq 0 H H' with
   | some hs=>some (.one v hs)
   | none=>none
 | .chk b t=>match G0 ro H t with
  | some o=>some (.chk b o)
  | none=>none
 | .tst b x y=>match G0 ro H x,G0 ro H y with
  | some o,some p=>some (.tst b o p)
  | _,_=>none
 | _=>none
noncomputable def Xe (K:DCfg) (rec:DRec) (m:Nat) (all l:List Oper) (dst:Option Tmp) (op:Op) (F:DFr) (H:DHp) (fs:Facts) (Q:DK):T:=
 match kdOf K.P op with
 | .pure=>Vb (bE K.P F op) fun v=>rec m (.ops all l) (J0 F dst v) H fs Q
 | .read=>match fH K.fam K.P F H op with
  | some o=>Ye fs o fun fs v=>rec m (.ops all l) (J0 F dst v) H fs Q
  | none=>Vb (bC K.P F H op) fun v=>rec m (.ops all l) (J0 F dst v) H fs Q
 | .write=>match Kr K.P F H op with
  | some (c,v,h)=>Bs c (rec m (.ops all l) (J0 F dst v) (h.act H) fs Q)
  | none=>match Xa K.P F H op with
   | some (c,hs)=>Bs c (rec m (.ops all l) (J0 F dst (.tup [])) (Fs H hs) fs Q)
   | none=>.fail
 | .call=>match Rz F op with
  | some (f,args)=>match K.inl f with
   | true=>match K.P.funcs[f]? with
    | some fn=>match fn.body with
     | some c => match fn.name == "runtime.NumGoroutine" with
      | true=>.fail
      | false=>rec H.length (.code c) (Gg fn args) H fs (On K.P fn fun v H' fs=>rec m (.ops all l) (J0 F dst v) H' fs Q)
     | none=>.fail
    | none=>.fail
   | false=>match K.sum f args H with
    | some o=>An fs o fun fs v hs=>rec m (.ops all l) (J0 F dst v) (Fs H hs) fs Q
    | none=>.fail
  | none=>match Wz F op with
   | some (i,args)=>match K.ysum i args H with
    | some o=>An fs o fun fs v hs=>rec m (.ops all l) (J0 F dst v) (Fs H hs) fs Q
    | none=>.fail
   | none=>.fail
noncomputable def Ls (fs:Facts) (all:List Oper) (guard:Option (Nat×Bool)) (F:DFr) (go skip:DFr→Facts→T):T:=
 match guard with
 | none=>go F fs
 | some (j,want)=>
  match (all[j]?).bind (·.dst) with
  | some t=>
   match Ng F t with
   | .bool b=>X0 fs b
     (fun fs=>match want with | true=>go (J0 F (some t) (.bool (.lit true))) fs | false=>skip (J0 F (some t) (.bool (.lit true))) fs)
     (fun fs=>match want with | true=>skip (J0 F (some t) (.bool (.lit false))) fs | false=>go (J0 F (some t) (.bool (.lit false))) fs)
   | .tup []=>skip F fs
   | _=>.fail
  | none=>.fail
noncomputable def Hz (K:DCfg) (rec:DRec) (m:Nat) (all l:List Oper) (F:DFr) (H:DHp) (fs:Facts) (Q:DK):T:=
 match l with
 | []=>Q .normal F H fs
 | ⟨dst,op,_,_,_,guard⟩::l=>
  Ls fs all guard F (fun F fs=>Xe K rec m all l dst op F H fs Q) (fun F fs=>rec m (.ops all l) (J0 F dst (.tup [])) H fs Q)
noncomputable def Oh (K:DCfg) (rec:DRec) (m:Nat) (all l:List Oper) (trs:List Wv) (dst:Option Tmp) (op:Op) (F:DFr) (H:DHp) (fs:Facts) (Q:DK):T:=
  match kdOf K.P op with
  | .pure=>Vb (bE K.P F op) fun v=>rec m (.dr all l (trs++[⟨.still,H.length,[]⟩])) (J0 F dst v) H fs Q
  | .read=>match fH K.fam K.P F H op with
    | some o=>Ye fs o fun fs v=>rec m (.dr all l (trs++[⟨(match Qs F op with | some r=>.read r | none=>.still),H.length,[]⟩])) (J0 F dst v) H fs Q
    | none => Vb  (bC    K.P F H op) fun v => rec m (.dr all l (trs ++ [⟨(match Qs    F op with | some r => .read r | none => .still), H.length, []⟩])) (J0   F dst v) H fs Q
  | .write => match Kr     K.P F H op with
    | some (c,v,h)=>Bs c (rec m (.dr all l (trs++[⟨.write,H.length,[h]⟩])) (J0 F dst v) (h.act H) fs Q)
    | none => .fail
  | .call=>match Rz F op with
    | some (f,args)=>match K.inl f with
      | true=>match K.P.funcs[f]? with
        | some fn=>match fn.body with
          | some c => match fn.name == "runtime.NumGoroutine" with
            | true=>.fail
            | false=>match G0 (L8 K 20 c) H (rec H.length (.code c) (Gg fn args) H fs (On K.P fn fun v H' _=>.ret v H')) with
              | some o=>An fs o fun fs v hs=>rec m (.dr all l (trs++[⟨.write,H.length,hs⟩])) (J0 F dst v) (Fs H hs) fs Q
              | none=>.fail
          | none=>.fail
        | none=>.fail
      | false=>match K.sum f args H with
        | some o=>An fs o fun fs v hs=>rec m (.dr all l (trs++[⟨.write,H.length,hs⟩])) (J0 F dst v) (Fs H hs) fs Q
        | none=>.fail
    | none=>match Wz F op with
      | some (i,args)=>match K.ysum i args H with
        | some o=>An fs o fun fs v hs=>rec m (.dr all l (trs++[⟨.write,H.length,hs⟩])) (J0 F dst v) (Fs H hs) fs Q
        | none=>.fail
      | none=>.fail
noncomputable def Em (K:DCfg) (rec:DRec) (m:Nat) (all l:List Oper) (trs:List Wv) (F:DFr) (H:DHp) (fs:Facts) (Q:DK):T:=
 match l with
 | []=>match Yk all trs with
  | true=>Q .normal F H fs
  | false=>.fail
 | ⟨dst,op,_,_,_,guard⟩::l=>
  Ls fs all guard F (fun F fs=>Oh K rec m all l trs dst op F H fs Q) (fun F fs=>rec m (.dr all l (trs++[⟨.still,H.length,[]⟩])) (J0 F dst (.tup [])) H fs Q)
noncomputable def Jb (_K:DCfg) (rec:DRec) (m:Nat) (c:Operand) (x y:Code) (F:DFr) (H:DHp) (fs:Facts) (Q:DK):T:=
 match c with
 | .tmp t=>match Ng F t with
  | .bool b=>X0 fs b (fun fs=>rec m (.code x) (J0 F (some t) (.bool (.lit true))) H fs Q) (fun fs=>rec m (.code y) (J0 F (some t) (.bool (.lit false))) H fs Q)
  | _=>.fail
 | .const (.bool b)=>match b with
  | true=>rec m (.code x) F H fs Q
  | false=>rec m (.code y) F H fs Q
 | _=>.fail
def aY (rec:DRec) (m:Nat) (b:Code) (Q:DK):DK:=fun e F H fs=>match e with
 | .normal=>rec m (.code b) F H fs Q
 | e=>Q e F H fs
def Wp (id:Nat) (Q:DK):DK:=fun e F H fs=>match e with
 | .exit i=>match i==id with
  | true=>Q .normal F H fs
  | false=>Q (.exit i) F H fs
 | e=>Q e F H fs
noncomputable def T5 (K:DCfg) (rec:DRec) (m:Nat) (c:Code) (F:DFr) (H:DHp) (fs:Facts) (Q:DK):T:=
 match c with
 | .skip=>Q .normal F H fs
 | .region _ ops draw=>match draw with
  | true=>rec m (.dr ops.toList ops.toList []) F H fs Q
  | false=>rec m (.ops ops.toList ops.toList) F H fs Q
 | .seq a b=>rec m (.code a) F H fs (aY rec m b Q)
 | .cond c x y=>Jb K rec m c x y F H fs Q
 | .block id c=>rec m (.code c) F H fs (Wp id Q)
 | .loop c=>match Nat.ble m K.M with
  | true=>match K.loop c F H with
   | some o=>T9 fs o fun fs e F H=>Q e F H fs
   | none=>.fail
  | false=>.fail
 | .rangeFunc g ps as bd=>match Nat.ble m K.M with
  | true=>match K.rng (.rangeFunc g ps as bd) F H with
   | some o=>T9 fs o fun fs e F H=>Q e F H fs
   | none=>.fail
  | false=>.fail
 | .exit id=>Q (.exit id) F H fs
 | .scope c=>rec m (.code c) F H fs Q
 | .label _=>Q .normal F H fs
 | .ret=>Q .ret F H fs
 | _=>.fail
noncomputable def xA (K:DCfg) (rec:DRec) (m:Nat) (w:DWk) (F:DFr) (H:DHp) (fs:Facts) (Q:DK):T:=
 match w with
 | .ops all l=>Hz K rec m all l F H fs Q
 | .dr all l trs=>Em K rec m all l trs F H fs Q
 | .code c=>T5 K rec m c F H fs Q
noncomputable def dx (K:DCfg):Nat→DRec
 | 0=>fun _ _ _ _ _ _=>.fail
 | n+1=>xA K (dx K n)
end Go.Am
namespace Go.Am
variable {G:Nat→List AV}
theorem M2 (l:List EV):vVs G l=l.map (vV G):=by
 induction l with
 | nil=>rfl
 | cons x l ih=>simp only [vVs,ih,List.map_cons]
theorem Q3 (l:List EV):(vVs G l).length=l.length:=by rw [M2,List.length_map]
theorem Xb (l:List EV) (n:Nat):(vVs G l)[n]?=(l[n]?).map (vV G):=by rw [M2,List.getElem?_map]
theorem Me (l m:List EV):vVs G (l++m)=vVs G l++vVs G m:=by simp only [M2,List.map_append]
theorem U3 (F:List EV) (t:Nat):(vVs G F).getD t .undef=vV G (F.getD t .undef):=by
 simp only [List.getD,Xb];cases F[t]?<;>simp [vV]
theorem gY (F:List EV) (t:Nat) (v:EV):vVs G (F.set t v)=(vVs G F).set t (vV G v):=by simp only [M2,List.map_set]
theorem Sr (a b:EB):vB G (D6 a b)=(vB G a&&vB G b):=by
 unfold D6;split
 ·simp [vB]
 ·simp [vB]
 ·split
  ·simp [vB]
  ·simp [vB]
  ·simp [vB]
theorem Af (a:EB):vB G (Cc a)=!(vB G a):=by
 unfold Cc;split<;>simp [vB]
theorem cB (a b:EB):vB G (bH a b)=(vB G a==vB G b):=by
 unfold bH;split<;>simp [vB,Af]
theorem R5 (o:BinOp) (a b:EI):vB G (F6 o a b)=Nn o (vI G a) (vI G b):=by
 unfold F6;split<;>simp [vB,vI]
theorem Mf (o:BinOp) (k:IntKind) (a b:EI):vI G (Bf o k a b)=Tx o k (vI G a) (vI G b):=by
 unfold Bf;split<;>simp [vI]
theorem mU (k:IntKind) (a:EI):vI G (dS k a)=k.wrap (vI G a):=by
 unfold dS;split<;>simp [vI]
theorem qP (k:IntKind) (a:EI):vI G (kY k a)=k.wrap (0 - vI G a):=by
 unfold kY;split<;>simp [vI]
theorem qQ (k:IntKind) (a:EI):vI G (kZ k a)=Ti k (vI G a):=by
 unfold kZ;split<;>simp [vI]
theorem Cf (n:EN):vI G (Hc n)=(vN G n:Int):=by
 unfold Hc;split<;>simp [vI,vN]
theorem Ad (n:EI):vN G (X7 n)=(vI G n).toNat:=by
 unfold X7;split<;>simp [vI,vN]
theorem I8 (a b:EN):vN G (L5 a b)=vN G a+vN G b:=by
 unfold L5;split<;>simp [vN];omega
theorem P7 (a:EN) (z:Nat):vN G (Q5 a z)=vN G a*z:=by
 unfold Q5;split
 ·simp
 ·split<;>simp [vN]
theorem Fv (a:EN) (z:Nat):vN G (Q5 a z)=Pg (vN G a) z:=by
 rw [P7];unfold Pg;split<;>simp
theorem qO (a b:EN):vN G (kX a b)=vN G a - vN G b:=by
 unfold kX;split<;>simp [vN]
theorem A6 {x y:Nat}:leB x y=true↔x≤y:=by unfold leB;exact decide_eq_true_iff
theorem L3 (a b:EN):vB G (Q6 a b)=leB (vN G a) (vN G b):=by
 unfold Q6;split
 ·simp only [vB,vN];rename_i x y;cases hb:x.ble y with
  | true=>exact (A6.2 (Nat.le_of_ble_eq_true hb)).symm
  | false=>
   cases hl:leB x y with
   | false=>rfl
   | true=>rw [Nat.ble_eq_true_of_le (A6.1 hl)] at hb;simp at hb
 ·simp only [vB,vN];exact (A6.2 (Nat.zero_le _)).symm
 ·simp only [vB]
theorem cA (a b:EN):vB G (bG a b)=Nat.beq (vN G a) (vN G b):=by
 unfold bG;split<;>simp [vB,vN]
theorem bZ (a b:ES):vB G (Vg a b)=(vS G a==vS G b):=by
 unfold Vg;split<;>simp [vB,vS]
theorem qN (a b:ES):vS G (lA a b)=vS G a++vS G b:=by
 unfold lA;split<;>simp [vS]
theorem Ac (s:ES):vN G (Fk s)=(vS G s).length:=by
 unfold Fk;split<;>simp [vS,vN]
theorem R4 (l:EL):vN G (X8 l)=(vL G l).length:=by
 unfold X8;split<;>simp [vN,vL,Q3,A3]
theorem Oj {cs:List AV} {o:Nat} {v:AV} (h:∀ l,v≠.agg l):J7 cs o v=cs.set o v:=by
 unfold J7;split
 ·rename_i l;exact absurd rfl (h l)
 ·rfl
theorem mT {v:EV} {l:List AV} (h:vV G v=.agg l):∃ d,v=.agg d∧vL G d=l:=by
 cases v<;>simp [vV] at h;exact ⟨_,rfl,h⟩
theorem Hx (l:EL) (o:EN) (v:EV):vL G (Mx l o v)=J7 (vL G l) (vN G o) (vV G v):=by
 unfold Mx;split
 ·split
  ·simp only [vL,vN,vV,J7,Zc,M2,List.map_append,List.map_take,List.map_drop,List.length_map]
  ·simp only [vL,vN,vV]
  ·rename_i cs n v h1 h2;rw [Oj]
   ·simp only [vL,gY,vN]
   ·intro l he;obtain ⟨d,rfl,_⟩:=mT he;exact h2 d rfl
 ·simp only [vL]
theorem Ae (l:EL) (o n:EN):vL G (Dt l o n)=((vL G l).drop (vN G o)).take (vN G n):=by
 unfold Dt;split<;>simp [vL,vN,A7,M2,List.map_take,List.map_drop]
theorem Yy (a b:EL):vL G (Vh a b)=vL G a++vL G b:=by
 unfold Vh;split<;>simp [vL,Me,vVs]
theorem Uh (s:ES):vL G (Rh s)=(vS G s).map fun b=>.int .u8 b.toNat:=by
 unfold Rh;split
 ·simp only [vL,M2,List.map_map,vS];congr 1
 ·simp only [vL,A3]
theorem Sp (n:EN) (l:EL):vL G (Vf n l)=(List.replicate (vN G n) (vL G l)).flatten:=by
 unfold Vf;split
 ·simp only [vL,M2,vN,List.map_flatten,List.map_replicate]
 ·simp only [vL,repL]
theorem notAgg {v:EV} (h:eG v=false):∀ l,vV G v≠.agg l:=by
 intro l he;obtain ⟨d,rfl,_⟩:=mT he;simp [eG] at h
theorem Jq {o:EN} {n:Nat} (h:Tg o=some n):o=.lit n:=by
 unfold Tg at h;split at h
 ·simp at h;rw [h]
 ·simp at h
theorem Mq:∀ (l:EL) (n:Nat) (c:EB) (v:EV),X4 l n=some (c,v)→vB G c=true→(vL G l)[n]?=some (vV G v)
 | .of cs,n,c,v,h,_=>by
  simp only [X4] at h;split at h
  ·rename_i w hn;simp only [Option.some.injEq,Prod.mk.injEq] at h;obtain ⟨_,rfl⟩:=h;simp only [vL,Xb,hn,Option.map_some]
  ·simp at h
 | .set l o w,n,c,v,h,hc=>by
  simp only [X4] at h;split at h
  ·rename_i m ho ha
   have:=Jq ho;subst this
   have hs:vL G (.set l (.lit m) w)=(vL G l).set m (vV G w):=by
    simp only [vL,vN];exact Oj (notAgg ha)
   rw [hs];split at h
   ·rename_i hm;have hm:=Nat.eq_of_beq_eq_true hm;subst hm;simp only [Option.some.injEq,Prod.mk.injEq] at h;obtain ⟨rfl,rfl⟩:=h;rw [L3,R4] at hc;have hc:m+1≤(vL G l).length:=A6.1 hc;rw [List.getElem?_set_self (by omega)]
   ·rename_i hm;have hne:m≠n:=fun he=>by rw [he] at hm;simp at hm
    rw [List.getElem?_set_ne hne];exact Mq l n c v h hc
  ·simp at h
 | .var ..,_,_,_,h,_=>by simp [X4] at h
 | .ro ..,_,_,_,h,_=>by simp [X4] at h
 | .app ..,_,_,_,h,_=>by simp [X4] at h
 | .sub ..,_,_,_,h,_=>by simp [X4] at h
 | .bytes ..,_,_,_,h,_=>by simp [X4] at h
 | .rep ..,_,_,_,h,_=>by simp [X4] at h
 | .uf ..,_,_,_,h,_=>by simp [X4] at h
theorem rdI_ok {k:IntKind} {l:EL} {o:EN} {c:EB} {e:EI} (h:rdI k l o=some (c,e)) (hc:vB G c=true):isI k (vL G l) (vN G o)=true∧A0 (vL G l) (vN G o)=vI G e:=by
 have gen:some (EB.isI k l o,EI.get l o)=some (c,e)→isI k (vL G l) (vN G o)=true∧A0 (vL G l) (vN G o)=vI G e:=fun h=>by
  simp only [Option.some.injEq,Prod.mk.injEq] at h;obtain ⟨rfl,rfl⟩:=h;exact ⟨by simpa only [vB] using hc,by simp only [vI]⟩
 unfold rdI at h;split at h
 ·rename_i n ho
  have:=Jq ho;subst this
  split at h
  ·rename_i c' k' e' hr;split at h
   ·rename_i hk;subst hk;simp only [Option.some.injEq,Prod.mk.injEq] at h;obtain ⟨rfl,rfl⟩:=h
    have:=Mq l n _ _ hr hc
    simp only [vV] at this;simp [isI,A0,vN,this]
   ·simp at h
  ·simp at h
  ·exact gen h
 ·exact gen h
theorem rdB_ok {l:EL} {o:EN} {c:EB} {e:EB} (h:rdB l o=some (c,e)) (hc:vB G c=true):isB (vL G l) (vN G o)=true∧E7 (vL G l) (vN G o)=vB G e:=by
 have gen:some (EB.isB l o,EB.get l o)=some (c,e)→isB (vL G l) (vN G o)=true∧E7 (vL G l) (vN G o)=vB G e:=fun h=>by
  simp only [Option.some.injEq,Prod.mk.injEq] at h;obtain ⟨rfl,rfl⟩:=h;exact ⟨by simpa only [vB] using hc,by simp only [vB]⟩
 unfold rdB at h;split at h
 ·rename_i n ho
  have:=Jq ho;subst this
  split at h
  ·rename_i c' e' hr;simp only [Option.some.injEq,Prod.mk.injEq] at h;obtain ⟨rfl,rfl⟩:=h
   have:=Mq l n _ _ hr hc
   simp only [vV] at this;simp [isB,E7,vN,this]
  ·simp at h
  ·exact gen h
 ·exact gen h
theorem vV_dCell (v:Value):vV G (bP v)=T7 v:=by
 unfold bP T7
 split<;>simp [vV,vB,vI,vS]
theorem gZ (v:Value):vV G (lU v)=C6 v:=by
 unfold lU C6;split
 ·simp only [vV,vL,M2,List.map_map];congr 2;funext x;exact vV_dCell x
 ·rename_i h;cases v<;>first | exact vV_dCell _ | exact absurd rfl (h _)
theorem vV_evD (F:DFr) (x:Operand):vV G (evD F x)=ev (vVs G F) x:=by
 cases x with
 | tmp t=>simp only [evD,Cn,ev,U3]
 | const v=>simp only [evD,ev,gZ]
 | global g=>simp only [evD,ev,vV]
 | func f=>simp only [evD,ev,vV,vVs]
def Wo (G:Nat→List AV) (o:Option (EB×EV)) (p:Option (Bool×AV)):Prop:=∀ c v,o=some (c,v)→vB G c=true→p=some (true,vV G v)
theorem Wo.none {p:Option (Bool×AV)}:Wo G none p:=fun c v h=>by simp at h
theorem Wo.some {c:EB} {v:EV} {p:Option (Bool×AV)} (h:vB G c=true→p=some (true,vV G v)):Wo G (some (c,v)) p:=fun c' v' he hc=>by
 simp only [Option.some.injEq,Prod.mk.injEq] at he;obtain ⟨rfl,rfl⟩:=he;exact h hc
theorem pY {op:BinOp} {k:IntKind} {x y:EI}:Wo G (binIntD op k x y) (Qj op k (vI G x) (vI G y)):=by
 have nz:vB G (Cc (F6 .eql y (.lit 0)))=true→(!(vI G y==0))=true:=fun h=>by
  simpa only [Af,R5,Nn,vI] using h
 cases op<;>simp only [binIntD,Qj]<;>first
  | exact Wo.none
  | (refine Wo.some fun hc=>?_;rw [nz hc];simp only [vV,Mf,Tx];done)
  | (refine Wo.some fun hc=>?_;simp only [vV,Mf,Tx,Af,R5,Nn];done)
  | (refine Wo.some fun hc=>?_;simp only [vV,Mf,Tx,Af,R5,Nn];rfl)
theorem Sm {op:BinOp} {k:IntKind} {x y:EI}:Wo G (Qi op k x y) (Iq op k (vI G x) (vI G y)):=by
 have nz:vB G (F6 .leq (.lit 0) y)=true→decide (0≤vI G y)=true:=fun h=>by
  rw [R5] at h;exact decide_eq_true (of_decide_eq_true h)
 cases op<;>simp only [Qi,Iq]<;>first
  | exact Wo.none
  | (refine Wo.some fun hc=>?_;rw [nz hc];simp only [vV,Mf,Tx];done)
theorem pX {op:BinOp} {x y:ES}:Wo G (Yn op x y) (Qh op (vS G x) (vS G y)):=by
  cases op<;>simp only [Yn,Qh]<;>first
    | exact Wo.none
    | (refine Wo.some fun hc => ?_
       rw [L3,I8,Ac,Ac] at hc;simp only [vV,qN,Option.some.injEq,Prod.mk.injEq,and_true]
       exact hc)
    | (refine Wo.some fun hc=>?_;simp only [vV,bZ,Af];done)
theorem Dg {op:BinOp} {c:Bool} {b:EB}:Wo G (Fp op c b) (Co op c (vB G b)):=by
 cases op<;>simp only [Fp,Co]<;>first
  | exact Wo.none
  | (refine Wo.some fun hc=>?_;simp only [vB] at hc;subst hc;simp only [vV,Af];done)
def We (G:Nat→List AV) (o:Option (EB×EB)) (p:Option (Bool×Bool)):Prop:=∀ c b,o=some (c,b)→vB G c=true→p=some (true,vB G b)
theorem Cz {P:Program} {t:TypeId} {l:EL} {o:EN}:Wo G (Cb P t l o) (Q4 P t (vL G l) (vN G o)):=by
 have agg:∀ z,vB G (Q6 (L5 o (.lit z)) (X8 l))=true→decide (vN G o+z≤(vL G l).length)=true:=fun z h=>by
  rw [L3,I8,R4] at h;exact h
 have any:∀ n,Tg o=some n→∀ c v,X4 l n=some (c,v)→vB G c=true→(match (vL G l)[vN G o]? with | some v=>some (true,v) | none=>none)=some (true,vV G v):=fun n ho c v h hc=>by
  have:=Jq ho;subst this
  have:=Mq l n c v h hc
  simp only [vN,this]
 intro c v h hc;unfold Cb at h;unfold Q4;split at h
 ·rename_i k hu;simp only [hu];split at h
  ·rename_i c' e hr;simp only [Option.some.injEq,Prod.mk.injEq] at h;obtain ⟨rfl,rfl⟩:=h;obtain ⟨h1,h2⟩:=rdI_ok hr hc;simp only [h1,h2,vV]
  ·simp at h
 ·rename_i hu;simp only [hu];split at h
  ·rename_i c' e hr;simp only [Option.some.injEq,Prod.mk.injEq] at h;obtain ⟨rfl,rfl⟩:=h;obtain ⟨h1,h2⟩:=rdB_ok hr hc;simp only [h1,h2,vV]
  ·simp at h
 ·rename_i fs hu;simp only [hu];split at h
  ·rename_i z hz;simp only [Option.some.injEq,Prod.mk.injEq] at h;obtain ⟨rfl,rfl⟩:=h;simp only [hz,agg z hc,vV,Ae,vN]
  ·simp at h
 ·rename_i n e hu;simp only [hu];split at h
  ·rename_i z hz;simp only [Option.some.injEq,Prod.mk.injEq] at h;obtain ⟨rfl,rfl⟩:=h;simp only [hz,agg z hc,vV,Ae,vN]
  ·simp at h
 ·rename_i d h1 h2 h3 h4 hu;simp only [hu];split at h
  ·rename_i n ho
   have:=any n ho c v h hc
   cases d<;>first
    | exact this
    | exact absurd hu (h1 _)
    | exact absurd hu h2
    | exact absurd hu (h3 _)
    | exact absurd hu (h4 _ _)
  ·simp at h
 ·simp at h
end Go.Am
namespace Go.Am
variable {G:Nat→List AV}
theorem L9 {a b:Bool} (h:(a&&b)=true):a=true∧b=true:=by simpa using h
theorem B6 {a b:EB} (h:vB G (D6 a b)=true):vB G a=true∧vB G b=true:=by
 rw [Sr] at h;exact L9 h
theorem Yj {P:Program} {recD:TypeId→EV→EV→Option (EB×EB)} {rec:TypeId→AV→AV→Option (Bool×Bool)} (hr:∀ t x y,We G (recD t x y) (rec t (vV G x) (vV G y))) {xs ys:EL} :
    ∀ fs,We G (Ru P recD xs ys fs) (Nl P rec (vL G xs) (vL G ys) fs)
  | [] => fun c b h _ => by
    simp only [Ru,Option.some.injEq,Prod.mk.injEq] at h;obtain ⟨rfl,rfl⟩:=h;simp only [Nl,vB]
  | f::fs=>fun c b h hc=>by
    unfold Ru at h;unfold Nl;split at h
    · rename_i hn;rw [if_pos hn];split at h
      · rename_i c1 a c2 b' h1 h2;split at h
        · rename_i c3 r c4 s h3 h4;simp only [Option.some.injEq,Prod.mk.injEq] at h;obtain ⟨rfl,rfl⟩:=h;obtain ⟨g1,hc⟩:=B6 hc;obtain ⟨g2,hc⟩:=B6 hc;obtain ⟨g3,g4⟩:=B6 hc;have e1:=Cz _ _ h1 g1;have e2:=Cz _ _ h2 g2;have e3:=hr _ _ _ _ _ h3 g3;have e4:=Yj hr fs _ _ h4 g4;simp only [vN] at e1 e2;simp only [e1,e2,e3,e4,Sr,Bool.and_self]
        · simp at h
      · simp at h
    · rename_i hn;rw [if_neg hn];exact Yj hr fs _ _ h hc
theorem jK {P:Program} {recD:TypeId→EV→EV→Option (EB×EB)} {rec:TypeId→AV→AV→Option (Bool×Bool)} (hr:∀ t x y,We G (recD t x y) (rec t (vV G x) (vV G y))) {e:TypeId} {z:Nat} {xs ys:EL} :
  ∀ is,We G (Wh P recD e z xs ys is) (Qb P rec e z (vL G xs) (vL G ys) is)
 | []=>fun c b h _=>by
  simp only [Wh,Option.some.injEq,Prod.mk.injEq] at h;obtain ⟨rfl,rfl⟩:=h;simp only [Qb,vB]
 | i::is=>fun c b h hc=>by
  unfold Wh at h;unfold Qb;split at h
  ·rename_i c1 a c2 b' h1 h2;split at h
   ·rename_i c3 r c4 s h3 h4;simp only [Option.some.injEq,Prod.mk.injEq] at h;obtain ⟨rfl,rfl⟩:=h;obtain ⟨g1,hc⟩:=B6 hc;obtain ⟨g2,hc⟩:=B6 hc;obtain ⟨g3,g4⟩:=B6 hc;have e1:=Cz _ _ h1 g1;have e2:=Cz _ _ h2 g2;have e3:=hr _ _ _ _ _ h3 g3;have e4:=jK hr is _ _ h4 g4;simp only [vN] at e1 e2;simp only [e1,e2,e3,e4,Sr,Bool.and_self]
   ·simp at h
  ·simp at h
theorem fI {P:Program}:∀ n t x y,We G (Yi P n t x y) (Oa P n t (vV G x) (vV G y))
 | 0,t,x,y=>fun c b h=>by simp [Yi] at h
 | n+1,t,x,y=>fun c b h hc=>by
  unfold Yi at h;unfold Oa;split at h
  ·rename_i k hu;simp only [hu];split at h
   ·split at h
    ·rename_i hk;subst hk;simp only [Option.some.injEq,Prod.mk.injEq] at h;obtain ⟨rfl,rfl⟩:=h;simp only [vV,R5,Nn,decide_true]
    ·simp at h
   ·simp at h
  ·rename_i hu;simp only [hu];split at h
   ·simp only [Option.some.injEq,Prod.mk.injEq] at h;obtain ⟨rfl,rfl⟩:=h;simp only [vV,cB]
   ·simp at h
  ·rename_i hu;simp only [hu];split at h
   ·simp only [Option.some.injEq,Prod.mk.injEq] at h;obtain ⟨rfl,rfl⟩:=h;simp only [vV,bZ]
   ·simp at h
  ·rename_i fs hu;simp only [hu];split at h
   ·split at h
    ·simp at h
    ·rename_i hs;simp only [vV,hs];exact Yj (fun t x y=>fI n t x y) _ _ _ h hc
   ·simp at h
  ·rename_i m e hu;simp only [hu];split at h
   ·split at h
    ·rename_i z hz;simp only [vV,hz];exact jK (fun t x y=>fI n t x y) _ _ _ h hc
    ·simp at h
   ·simp at h
  ·simp at h
theorem pP {P:Program} {t:TypeId} {xs ys:EL}:We G (tP P t xs ys) (Oa P 10 t (.agg (vL G xs)) (.agg (vL G ys))):=by
 intro c b h hc;unfold tP at h;split at h
 ·have:=fI 10 t (.agg xs) (.agg ys) c b h hc
  simpa only [vV] using this
 ·simp only [Option.some.injEq,Prod.mk.injEq] at h;obtain ⟨rfl,rfl⟩:=h;simp only [vB,vVs,vV,eqA1] at hc;simp only [vB,vVs,vV,eqA2];split at hc
  ·rename_i c' b' he;simp only [he,hc]
  ·simp at hc
theorem bin_wo {P:Program} {op:BinOp} {t:TypeId} {x y:EV}:Wo G (uI P op t x y) (P4 P op t (vV G x) (vV G y)):=by
 intro c v h hc;unfold uI at h;split at h
 ·rename_i k a k' b;split at h
  ·simp only [vV,P4];exact Sm _ _ h hc
  ·simp only [vV,P4];exact Sm _ _ h hc
  ·rename_i h1 h2;split at h
   ·rename_i hk;subst hk
    have:=pY _ _ h hc
    simp only [vV,P4]
    cases op<;>first
     | exact absurd rfl h1
     | exact absurd rfl h2
     | (rw [if_pos trivial];exact this)
     | (rw [if_pos rfl];exact this)
   ·simp at h
 ·simp only [vV,P4];exact pX _ _ h hc
 ·have:=Dg _ _ h hc
  simp only [vV,P4];rw [cB] at this;exact this
 ·simp only [vV,P4];exact Dg _ _ h hc
 ·simp only [vV,P4];exact Dg _ _ h hc
 ·simp only [vV,P4];exact Dg _ _ h hc
 ·simp only [vV,P4];exact Dg _ _ h hc
 ·simp only [vV,P4];exact Dg _ _ h hc
 ·simp only [vV,P4];exact Dg _ _ h hc
 ·simp only [vV,P4];exact Dg _ _ h hc
 ·rename_i xs ys;simp only [vV,P4];split at h
  ·simp at h
  ·rename_i hg;simp only [hg];split at h
   ·rename_i c' b he;split at h
    ·simp only [Option.some.injEq,Prod.mk.injEq] at h;obtain ⟨rfl,rfl⟩:=h;simp only [pP _ _ he hc,Co,vV]
    ·simp only [Option.some.injEq,Prod.mk.injEq] at h;obtain ⟨rfl,rfl⟩:=h;simp only [pP _ _ he hc,Co,vV,Af]
    ·simp at h
   ·simp at h
 ·simp at h
theorem un_wo {op:UnOp} {x:EV}:Wo G (unD op x) (cC op (vV G x)):=by
 intro c v h hc;unfold unD at h
 split at h<;>first
  | (simp only [Option.some.injEq,Prod.mk.injEq] at h;obtain ⟨rfl,rfl⟩:=h;simp only [vV,cC,qP,qQ,Af];done)
  | (simp at h;done)
theorem yW {P:Program} {s d:TypeId} {x:EV}:Wo G (lV P s d x) (Lw P s d (vV G x)):=by
 intro c v h hc;unfold lV at h;split at h
 ·rename_i h1 h2;simp only [Option.some.injEq,Prod.mk.injEq] at h;obtain ⟨rfl,rfl⟩:=h;simp only [vV,Lw,h1,h2,mU]
 ·rename_i h1 h2;simp only [Option.some.injEq,Prod.mk.injEq] at h;obtain ⟨rfl,rfl⟩:=h;simp only [vV,Lw,h1,h2]
 ·simp at h
theorem tN {P:Program} {s:TypeId} {x:EV} {f:Nat}:Wo G (fE P s x f) (Lu P s (vV G x) f):=by
 intro c v h hc;unfold fE at h;split at h
 ·rename_i fs r off hu;simp only [vV,Lu,hu];split at h
  ·rename_i fd hf;simp only [hf];split at h
   ·simp at h
   ·rename_i z h0 hz;simp only [Option.some.injEq,Prod.mk.injEq] at h;obtain ⟨rfl,rfl⟩:=h;simp only [hz];cases z with
    | zero=>exact absurd rfl h0
    | succ z=>simp only [vV,I8,vN]
   ·simp at h
  ·simp at h
 ·simp at h
theorem Vo {P:Bool} {i l:EI} {z:Int} (hz:vI G l=z) (h:vB G (D6 (F6 .leq (.lit 0) i) (F6 .lss i l))=true):(decide (0≤vI G i)&&decide (vI G i<z))=true:=by
 obtain ⟨h1,h2⟩:=B6 h;rw [R5] at h1 h2;rw [hz] at h2;simp only [vI] at h1;rw [Bool.and_eq_true];exact ⟨decide_eq_true (of_decide_eq_true h1),decide_eq_true (of_decide_eq_true h2)⟩
theorem tJ {P:Program} {t:TypeId} {x i:EV}:Wo G (eI P t x i) (Hq P t (vV G x) (vV G i)):=by
 intro c v h hc;unfold eI at h;split at h
 ·split at h
  ·rename_i len e r off hu;simp only [vV,Hq,hu];split at h
   ·rename_i z hz;simp only [Option.some.injEq,Prod.mk.injEq] at h;obtain ⟨rfl,rfl⟩:=h;simp only [hz,Vo (P:=true) (z:=len) (by simp only [vI]) hc,vV,I8,Fv,Ad]
   ·simp at h
  ·rename_i e mb r off len hu;simp only [vV,Hq,hu];split at h
   ·rename_i z hz;simp only [Option.some.injEq,Prod.mk.injEq] at h;obtain ⟨rfl,rfl⟩:=h;simp only [hz,Vo (P:=true) (z:=(vN G len:Int)) (Cf _) hc,vV,I8,Fv,Ad]
   ·simp at h
  ·simp at h
 ·simp at h
theorem Fg {x:Option EV} {d:EI} {e:EI} (h:Gj x d=some e):T2 (x.map (vV G)) (vI G d)=some (vI G e):=by
 unfold Gj at h;split at h
 ·simp at h;subst h;rfl
 ·simp at h;subst h;simp only [Option.map_some,vV,T2]
 ·simp at h
theorem Th {a b c:EI} {z:Int} (hz:vI G c=z) (h:vB G (D6 (F6 .leq (.lit 0) a) (D6 (F6 .leq a b) (F6 .leq b c)))=true):(decide (0≤vI G a)&&(decide (vI G a≤vI G b)&&decide (vI G b≤z)))=true:=by
 obtain ⟨h1,h⟩:=B6 h;obtain ⟨h2,h3⟩:=B6 h;rw [R5] at h1 h2 h3;rw [hz] at h3;simp only [vI] at h1;rw [Bool.and_eq_true,Bool.and_eq_true];exact ⟨decide_eq_true (of_decide_eq_true h1),decide_eq_true (of_decide_eq_true h2),decide_eq_true (of_decide_eq_true h3)⟩
theorem qZ {P:Program} {t:TypeId} {x:EV} {lo hi:Option EV}:Wo G (cK P t x lo hi) (En P t (vV G x) (lo.map (vV G)) (hi.map (vV G))):=by
 intro c v h hc;unfold cK at h;split at h
 ·rename_i e mb r off len hu;simp only [vV,En,hu];split at h
  ·rename_i z l hh hz hl hh';simp only [Option.some.injEq,Prod.mk.injEq] at h;obtain ⟨rfl,rfl⟩:=h;have e1:=Fg (G:=G) hl;have e2:=Fg (G:=G) hh';rw [Cf] at e2;simp only [vI] at e1;simp only [hz,e1,e2,Th (z:=(vN G len:Int)) (Cf _) hc,vV,I8,Fv,Ad,qO]
  ·simp at h
 ·rename_i e hu;simp only [vV,En,hu];split at h
  ·rename_i z l hh hz hl hh';simp only [Option.some.injEq,Prod.mk.injEq] at h;obtain ⟨rfl,rfl⟩:=h;have e1:=Fg (G:=G) hl;have e2:=Fg (G:=G) hh';simp only [vI] at e1 e2;simp only [hz,e1,e2,Th (z:=0) (by simp only [vI]) hc,vV]
  ·simp at h
 ·rename_i s hu;simp only [vV,En,hu];split at h
  ·rename_i l hh hl hh';simp only [Option.some.injEq,Prod.mk.injEq] at h;obtain ⟨rfl,rfl⟩:=h;have e1:=Fg (G:=G) hl;have e2:=Fg (G:=G) hh';rw [Cf,Ac] at e2;simp only [vI] at e1;simp only [e1,e2,Th (z:=((vS G s).length:Int)) (by rw [Cf,Ac]) hc,vV,vS,Ad]
  ·simp at h
 ·simp at h
theorem T4 (v:EV):vL G (U6 v)=B2 (vV G v):=by
 unfold U6 B2;cases v<;>simp [vL,vVs,vV]
theorem dZ {v:EV} (h:Vp v=true):Dv (vV G v)=true:=by
 cases v<;>simp [Vp] at h<;>simp [vV,Dv]
theorem isCell_ok (v:EV):isCell (vV G v)=Rl v:=by
 cases v<;>simp [vV,isCell,Rl]
theorem Ns (l:EL):vB G (Is l)=(vL G l).all isCell:=by
 unfold Is;split
 ·simp only [vB,vL,M2,List.all_map];congr 1;funext x;simp [isCell_ok]
 ·simp only [vB,cellsB]
 ·simp only [vB,cellsB]
theorem Ps (v:EV):vB G (He v)=true→(B2 (vV G v)).all isCell=true:=by
 intro h;unfold He at h;split at h
 ·rw [Ns] at h;simpa only [vV,B2] using h
 ·rename_i hn;simp only [vB] at h
  have:B2 (vV G v)=[vV G v]:=by
   cases v<;>simp [vV,B2];exact absurd rfl (hn _)
  rw [this];simp [isCell_ok,h]
theorem Fx {v:EV} {z:Nat} (h:vB G (Kz v z)=true):L6 (vV G v)=z:=by
 unfold Kz at h;split at h
 ·rw [cA,R4] at h;simp only [vN] at h;simp only [vV,L6];exact Nat.eq_of_beq_eq_true h
 ·rename_i hn;simp only [vB] at h
  have:=Nat.eq_of_beq_eq_true h
  subst this;cases v<;>simp [vV,L6];exact absurd rfl (hn _)
theorem Rp {place:Nat→Option (Nat×Nat)}:∀ (parts:List (Nat×EV)) (cells:EL) (c:EB) (r:EL),Ni place cells parts=some (c,r)→vB G c=true→
  At place (vL G cells) (parts.map fun p=>(p.1,vV G p.2))=some (true,vL G r)
 | [],cells,c,r,h,_=>by
  simp only [Ni,Option.some.injEq,Prod.mk.injEq] at h;obtain ⟨rfl,rfl⟩:=h;simp only [List.map_nil,At]
 | (i,v)::rest,cells,c,r,h,hc=>by
  unfold Ni at h;simp only [List.map_cons,At];split at h
  ·simp at h
  ·rename_i off size hp;simp only [hp];split at h
   ·simp at h
   ·rename_i c' r' hf;split at h
    ·rename_i hk;simp only [Option.some.injEq,Prod.mk.injEq] at h;obtain ⟨rfl,rfl⟩:=h;obtain ⟨g1,hc⟩:=B6 hc;obtain ⟨g2,g3⟩:=B6 hc
     have:=Rp rest _ _ _ hf g3
     rw [Hx] at this;simp only [vN] at this;rw [L3,R4] at g2;simp only [vN] at g2;have e1:=Fx g1;have e2:decide (off+size≤(vL G cells).length)=true:=g2;simp only [this,dZ hk,e1,e2,beq_self_eq_true,Bool.and_self]
    ·simp at h
theorem Ct {P:Program} {t:TypeId} {z:EV} (h:Gx P t=some z):T3 P t=some (vV G z):=by
 unfold Gx at h;unfold T3;split at h
 ·rename_i i hi;simp only [hi];split at h
  ·rename_i z' hz;simp at h;subst h;simp only [hz,gZ]
  ·simp at h
 ·simp at h
theorem uH {P:Program} {t:TypeId} {parts:List (Nat×EV)}:Wo G (fT P t parts) (Ht P t (parts.map fun p=>(p.1,vV G p.2))):=by
 intro c v h hc;unfold fT at h;split at h
 ·rename_i fs z hu hz;have hz:=Ct (G:=G) hz;simp only [vV] at hz;simp only [Ht,hu,hz];split at h
  ·rename_i ps hps;simp only [hps];split at h
   ·rename_i c' cs hf;simp only [Option.some.injEq,Prod.mk.injEq] at h;obtain ⟨rfl,rfl⟩:=h;simp only [Rp _ _ _ _ hf hc,vV]
   ·simp at h
  ·simp at h
 ·rename_i n e z hu hz;have hz:=Ct (G:=G) hz;simp only [vV] at hz;simp only [Ht,hu,hz];split at h
  ·rename_i n hn;simp only [hn];split at h
   ·rename_i c' cs hf;simp only [Option.some.injEq,Prod.mk.injEq] at h;obtain ⟨rfl,rfl⟩:=h;simp only [Rp _ _ _ _ hf hc,vV]
   ·simp at h
  ·simp at h
 ·simp at h
theorem len_wo {P:Program} {t:TypeId} {x:EV}:Wo G (tA P t x) (Jr P t (vV G x)):=by
 intro c v h hc;unfold tA at h;split at h
 ·rename_i s hu;simp only [Option.some.injEq,Prod.mk.injEq] at h;obtain ⟨rfl,rfl⟩:=h;simp only [vV,Jr,hu,Cf,Ac]
 ·rename_i n e hu;simp only [Option.some.injEq,Prod.mk.injEq] at h;obtain ⟨rfl,rfl⟩:=h;simp only [Jr,hu,vV,vI]
 ·rename_i e mb r o n hu;simp only [Option.some.injEq,Prod.mk.injEq] at h;obtain ⟨rfl,rfl⟩:=h;simp only [vV,Jr,hu,Cf]
 ·rename_i e hu;simp only [Option.some.injEq,Prod.mk.injEq] at h;obtain ⟨rfl,rfl⟩:=h;simp only [vV,Jr,hu,vI]
 ·simp at h
theorem cap_wo {P:Program} {t:TypeId} {x:EV}:Wo G (tZ P t x) (Wm P t (vV G x)):=by
 intro c v h hc;unfold tZ at h;split at h
 ·rename_i e hu;simp only [Option.some.injEq,Prod.mk.injEq] at h;obtain ⟨rfl,rfl⟩:=h;simp only [vV,Wm,hu,vI]
 ·simp at h
theorem max_wo {x y:EV}:Wo G (sX x y) (Vj (vV G x) (vV G y)):=by
 intro c v h hc;unfold sX at h;split at h
 ·split at h
  ·rename_i hk;subst hk;simp only [Option.some.injEq,Prod.mk.injEq] at h;obtain ⟨rfl,rfl⟩:=h;simp only [vV,Vj,if_pos,vI]
  ·simp at h
 ·simp at h
theorem min_wo {x y:EV}:Wo G (sV x y) (Vi (vV G x) (vV G y)):=by
 intro c v h hc;unfold sV at h;split at h
 ·split at h
  ·rename_i hk;subst hk;simp only [Option.some.injEq,Prod.mk.injEq] at h;obtain ⟨rfl,rfl⟩:=h;simp only [vV,Vi,if_pos,vI]
  ·simp at h
 ·simp at h
theorem xW {c a b:EV}:Wo G (kW c a b) (Ow (vV G c) (vV G a) (vV G b)):=by
 intro c' v h hc;unfold kW at h
 split at h<;>first
  | (simp only [Option.some.injEq,Prod.mk.injEq] at h;obtain ⟨rfl,rfl⟩:=h;simp only [vV,vB,Ow];done)
  | (simp at h;done)
theorem gM {x:EV}:Wo G (Pe x) (Hb (vV G x)):=by
 intro c' v h hc;unfold Pe at h
 split at h<;>first
  | (simp only [Option.some.injEq,Prod.mk.injEq] at h;obtain ⟨rfl,rfl⟩:=h;simp only [vV,Hb];done)
  | (simp at h;done)
theorem oN {v:EV} {w:AV} (h:vV G v=w):Wo G (some (.lit true,v)) (some (true,w)):=Wo.some fun _=>by rw [h]
theorem dT {F:DFr} (l:List Operand):(l.map (ev (vVs G F)))=vVs G (l.map (evD F)):=by
 rw [M2 (List.map (evD F) l),List.map_map];congr 1;funext x;simp [vV_evD]
theorem omap_ev {F:DFr} (x:Option Operand):x.map (ev (vVs G F))=(x.map (evD F)).map (vV G):=by
 cases x<;>simp [vV_evD]
theorem iP {P:Program} {F:DFr} {op:Op}:Wo G (bE P F op) (E1 P (vVs G F) op):=by
 intro c v h hc;unfold bE at h;split at h
 ·exact oN (vV_evD F _) _ _ h hc
 ·exact oN (vV_evD F _) _ _ h hc
 ·simp only [E1,←vV_evD];exact xW _ _ h hc
 ·simp only [E1,←vV_evD];exact gM _ _ h hc
 ·simp only [E1,←vV_evD];exact bin_wo _ _ h hc
 ·simp only [E1,←vV_evD];exact un_wo _ _ h hc
 ·simp only [E1,←vV_evD];exact yW _ _ h hc
 ·simp only [E1,←vV_evD];exact tN _ _ h hc
 ·simp only [E1,←vV_evD];exact tJ _ _ h hc
 ·simp only [E1,←vV_evD,omap_ev];exact qZ _ _ h hc
 ·rename_i t parts;simp only [E1]
  have:=uH _ _ h hc
  rw [List.map_map] at this;rw [←this];congr 1;refine List.map_congr_left fun p _=>?_;simp [vV_evD]
 ·simp only [E1,←vV_evD];split at h
  ·rename_i vs he;split at h
   ·rename_i v' hv;simp only [Option.some.injEq,Prod.mk.injEq] at h;obtain ⟨rfl,rfl⟩:=h;simp only [he,vV,Xb,hv,Option.map_some]
   ·simp at h
  ·simp at h
 ·rename_i f first cap;simp only [E1];split at h
  ·rename_i h0;simp only [Option.some.injEq,Prod.mk.injEq] at h;obtain ⟨rfl,rfl⟩:=h;rw [if_pos h0,dT];simp only [vV]
  ·simp at h
 ·simp only [E1];split at h
  ·rename_i x t h1 h2;simp only [h1,h2,←vV_evD];exact len_wo _ _ h hc
  ·simp at h
 ·simp only [E1];split at h
  ·rename_i x t h1 h2;simp only [h1,h2,←vV_evD];exact cap_wo _ _ h hc
  ·simp at h
 ·simp only [E1];split at h
  ·rename_i x y h1;simp only [h1,←vV_evD];exact max_wo _ _ h hc
  ·simp at h
 ·simp only [E1];split at h
  ·rename_i x y h1;simp only [h1,←vV_evD];exact min_wo _ _ h hc
  ·simp at h
 ·simp at h
end Go.Am
namespace Go.Am
variable {G:Nat→List AV}
noncomputable def C8 (G:Nat→List AV) (b:Iw):Blk:=⟨b.esz,vL G b.cells⟩
noncomputable def B8 (G:Nat→List AV) (H:DHp):Hp:=H.map (Option.map (C8 G))
noncomputable def I1 (G:Nat→List AV):DHop→Hop
 | .set i b=>.set i (C8 G b)
 | .new b=>.new (C8 G b)
 | .app j b=>.app j (C8 G b)
theorem D9 (H:DHp):(B8 G H).length=H.length:=by simp [B8]
theorem wN (H:DHp) (i:Nat):(B8 G H)[i]?=(H[i]?).map (Option.map (C8 G)):=by simp [B8]
theorem E9 {H:DHp} {i:Nat} {b:Iw} (h:H[i]?=some (some b)):(B8 G H)[i]?=some (some (C8 G b)):=by rw [wN,h];rfl
theorem Sq (H:DHp) (h:DHop):B8 G (h.act H)=(I1 G h).act (B8 G H):=by
 cases h<;>simp [DHop.act,Hop.act,I1,B8,List.map_set]
theorem Cu:∀ (hs:List DHop) (H:DHp),B8 G (Fs H hs)=acts (B8 G H) (hs.map (I1 G))
 | [],H=>rfl
 | h::hs,H=>by simp only [Fs,List.map_cons,acts,Cu hs,Sq]
open Classical in
theorem nS {l ls:List AV}:Uw l ls=true↔∀ v∈ls,v=.agg l:=by unfold Uw;exact decide_eq_true_iff
theorem Wb (z:Nat):∀ (c j:Nat) (H:DHp) (ls:List EV),Z3 z j H c=some ls→ls.length=c∧∀ i,i<c→∃ l,H[i]?=some (some ⟨z,.row l (.lit (j+i))⟩)∧ls[i]?=some (.agg l)
 | 0,j,H,ls,h=>by
  have:Z3 z j H 0=some []:=by unfold Z3;rfl
  rw [this] at h;simp only [Option.some.injEq] at h;subst h;exact ⟨rfl,fun i hi=>by omega⟩
 | c+1,j,[],ls,h=>by simp [Z3] at h
 | c+1,j,none::H,ls,h=>by simp [Z3] at h
 | c+1,j,some ⟨z',l0⟩::H,ls,h=>by
  cases l0 with
  | row l k=>cases k with
   | lit i0=>
    simp only [Z3] at h;split at h
    ·rename_i hb;split at h
     ·rename_i ls' h1;simp only [Option.some.injEq] at h;subst h;rw [Bool.and_eq_true] at hb;have e1:=Nat.eq_of_beq_eq_true hb.1;have e2:=Nat.eq_of_beq_eq_true hb.2;subst e1;subst e2;obtain ⟨g1,g2⟩:=Wb z c (i0+1) H ls' h1;refine ⟨by simp [g1],fun i hi=>?_⟩;cases i with
      | zero=>exact ⟨l,by simp,by simp⟩
      | succ i=>
       obtain ⟨l2,q1,q2⟩:=g2 i (by omega);exact ⟨l2,by rw [show i0+(i+1)=i0+1+i by omega];simpa using q1,by simpa using q2⟩
     ·simp at h
    ·simp at h
   | _=>simp [Z3] at h
  | _=>simp [Z3] at h
theorem Tp {H:DHp} {b c z:Nat} {l:EL} {ls:List EV} (h:Rt H b c=some (z,l,ls)):Nat.beq z 4294967291=false∧ls.length=c∧∀ i,i<c→∃ l',H[b+i]?=some (some ⟨z,.row l' (.lit i)⟩)∧ls[i]?=some (.agg l'):=by
 unfold Rt at h;split at h
 ·split at h
  ·simp at h
  ·rename_i hz;split at h
   ·rename_i ls' h1;simp only [Option.some.injEq,Prod.mk.injEq] at h;obtain ⟨rfl,rfl,rfl⟩:=h;obtain ⟨g1,g2⟩:=Wb _ _ _ _ _ h1;refine ⟨hz,g1,fun i hi=>?_⟩;obtain ⟨l',q1,q2⟩:=g2 i hi;rw [List.getElem?_drop] at q1;exact ⟨l',by simpa using q1,q2⟩
   ·simp at h
 ·simp at h
theorem vVs_get? {ls:List EV} {i:Nat} {x:EV} (h:ls[i]?=some x):(vVs G ls)[i]?=some (vV G x):=by rw [M2,List.getElem?_map,h];rfl
theorem Wa {H:DHp} {b c z:Nat} {l:EL} {ls:List EV} (h:Rt H b c=some (z,l,ls)) (hr:Uw (vL G l) (vVs G ls)=true) {i:Nat} (hi:i<c):(B8 G H)[b+i]?=some (some ⟨z,If (vL G l) i⟩):=by
 obtain ⟨_,g1,g2⟩:=Tp h;obtain ⟨l',q1,q2⟩:=g2 i hi;have e:=nS.1 hr _ (List.mem_of_getElem? (vVs_get? (G:=G) q2));simp only [vV,AV.agg.injEq] at e;rw [E9 q1];simp only [C8,vL,vN,e]
theorem Hh {C:A2} (hG:C.G=G) {H:DHp} {r:ER} {c0:EB} {l:EL} (h:Ff H r=some (c0,l)) (hc:vB G c0=true):D0 C (B8 G H) (vR G r)=some (vL G l):=by
 unfold Ff at h;split at h
 ·split at h
  ·rename_i b hb;split at h
   ·simp at h
   rename_i hr;simp only [Option.some.injEq,Prod.mk.injEq] at h;obtain ⟨rfl,rfl⟩:=h;have hr:isRec (C8 G b)=false:=hr;simp only [vR,D0,E9 hb,hr];simp only [C8]
  ·simp at h
 ·simp only [Option.some.injEq,Prod.mk.injEq] at h;obtain ⟨rfl,rfl⟩:=h;simp only [vR,D0,vL,hG]
 ·rename_i b c k;split at h
  ·rename_i z l' ls hf;simp only [Option.some.injEq,Prod.mk.injEq] at h;obtain ⟨rfl,rfl⟩:=h;obtain ⟨g1,g2⟩:=B6 hc;rw [L3,I8] at g1;simp only [vN] at g1;have g1:=A6.1 g1;simp only [vB] at g2;have hr:isRec ⟨z,If (vL G l') (vN G k)⟩=false:=(Tp hf).1;simp only [vR,D0,Wa hf g2 (show vN G k<c by omega),hr,vL]
  ·simp at h
theorem tS (l:Lf) (cs:EL) (off:EN):vV G (lE l cs off)=Js l (vL G cs) (vN G off):=by
 cases l<;>simp only [lE,Js,vV,vI,vB,vS,vR,vN]
theorem Qc (cs:EL):∀ (ls:List Lf) (off:EN),vVs G (Lm cs off ls)=W7 (vL G cs) (vN G off) ls
 | [],off=>by simp only [Lm,W7,vVs]
 | l::ls,off=>by
  simp only [Lm,W7,vVs,tS,Qc cs ls,I8,vN]
theorem sF {P:Program} {t:TypeId} {cs:EL} {off:EN}:Wo G (dI P t cs off) (bF P t (vL G cs) (vN G off)):=by
 intro c v h hc;unfold dI at h;unfold bF;split at h
 ·rename_i k hu;simp only [hu];simp only [Option.some.injEq,Prod.mk.injEq] at h;obtain ⟨rfl,rfl⟩:=h;simp only [vB] at hc;simp only [hc,vV,vI]
 ·rename_i hu;simp only [hu];simp only [Option.some.injEq,Prod.mk.injEq] at h;obtain ⟨rfl,rfl⟩:=h;simp only [vB] at hc;simp only [hc,vV,vB]
 ·rename_i hu;simp only [hu];simp only [Option.some.injEq,Prod.mk.injEq] at h;obtain ⟨rfl,rfl⟩:=h;simp only [vB] at hc;simp only [hc,vV,vS]
 ·rename_i e hu;simp only [hu];simp only [Option.some.injEq,Prod.mk.injEq] at h;obtain ⟨rfl,rfl⟩:=h;simp only [vB] at hc;simp only [hc,vV,vR,vN]
 ·rename_i fs hu;simp only [hu];split at h
  ·rename_i z ls hz hl;simp only [hz,hl];split at h
   ·rename_i hb;simp only [Option.some.injEq,Prod.mk.injEq] at h;obtain ⟨rfl,rfl⟩:=h;simp only [vB] at hc;simp only [hb,hc,vV,vL,Qc,Bool.and_self]
   ·simp at h
  ·simp at h
 ·rename_i n e hu;simp only [hu];split at h
  ·rename_i z ls hz hl;simp only [hz,hl];split at h
   ·rename_i hb;simp only [Option.some.injEq,Prod.mk.injEq] at h;obtain ⟨rfl,rfl⟩:=h;simp only [vB] at hc;simp only [hb,hc,vV,vL,Qc,Bool.and_self]
   ·simp at h
  ·simp at h
 ·simp at h
theorem iZ {C:A2} (hG:C.G=G) {H:DHp} {t:TypeId} {r:ER} {off:EN}:Wo G (bI C.P H t r off) (Hd C (B8 G H) t (vR G r) (vN G off)):=by
 intro c v h hc;unfold bI at h;unfold Hd;split at h
 ·rename_i c0 cs hcs;split at h
  ·rename_i c1 v1 hp;simp only [Option.some.injEq,Prod.mk.injEq] at h;obtain ⟨rfl,rfl⟩:=h;obtain ⟨g1,g2⟩:=B6 hc;rw [Hh hG hcs g1];unfold oK at hp;split at hp
   ·simp only [vR,Jm];exact Cz _ _ hp g2
   ·simp only [vR,Jm];exact sF _ _ hp g2
   ·simp only [vR,Jm];exact Cz _ _ hp g2
  ·simp at h
 ·simp at h
theorem pE {b c o:Nat} {cs:List AV} (h:tI b c cs o=true):cs[o]?=some (.slice true (.rw (b+Vz b cs o)) (eX cs o) (fnA cs o))∧Vz b cs o<c:=by
 unfold tI at h;split at h
 ·rename_i i f n he;rw [Bool.and_eq_true] at h;have h1:=Nat.le_of_ble_eq_true h.1;have h2:i<b+c:=Nat.blt_eq ▸ h.2;have e1:Vz b cs o=i - b:=by unfold Vz;rw [he]
  have e2:eX cs o=f:=by unfold eX;rw [he]
  have e3:fnA cs o=n:=by unfold fnA;rw [he]
  rw [e1,e2,e3,he,show b+(i - b)=i by omega];exact ⟨rfl,by omega⟩
 ·simp at h
theorem pB {b c o:Nat} {cs:List AV} (h:tH b c cs o=true):cs[o]?=some (.ptr (.rw (b+Vz b cs o)) (eX cs o))∧Vz b cs o<c:=by
 unfold tH at h;split at h
 ·rename_i i f he;rw [Bool.and_eq_true] at h;have h1:=Nat.le_of_ble_eq_true h.1;have h2:i<b+c:=Nat.blt_eq ▸ h.2;have e1:Vz b cs o=i - b:=by unfold Vz;rw [he]
  have e2:eX cs o=f:=by unfold eX;rw [he]
  rw [e1,e2,he,show b+(i - b)=i by omega];exact ⟨rfl,by omega⟩
 ·simp at h
theorem pA {cs:List AV} {o:Nat} (h:lG cs o=true):cs[o]?=some (.slice true (.ro (C9 cs o)) (E5 cs o) (B9 cs o)):=by
 unfold lG at h;split at h
 ·rename_i k f n he;unfold C9 E5 B9;rw [he]
 ·simp at h
theorem gQ {o:Nat} {cs:List AV} (h:eC cs o=true):cs[o]?=some .nilp:=by
 unfold eC at h;split at h
 ·assumption
 ·simp at h
theorem fG {l:EL} {o:EN} {f:FL} (h:vB G (Rr l o f)=true):(vL G l)[vN G o]?=some (vV G (Rs l o f)):=by
 cases f with
 | int k=>
  simp only [Rr,vB] at h;simp only [Rs,vV,vI];exact Ij h
 | bool=>
  simp only [Rr,vB] at h;simp only [Rs,vV,vB];unfold isB at h;unfold E7;split at h
  ·rename_i b he;rw [he]
  ·simp at h
 | sl b c=>
  cases c with
  | zero=>
   have h:lG (vL G l) ((vN G o:Nat):Int).toNat=true:=h;rw [Int.toNat_natCast] at h;exact pA h
  | succ c=>
   simp only [Rr,vB] at h;simp only [Rs,vV,vR,vN];exact (pE h).1
theorem jJ:∀ (fs:List FL) {l:EL} {o:EN},vB G (bK l o fs)=true→vVs G (Wc l o fs)=((vL G l).drop (vN G o)).take fs.length∧vN G o+fs.length≤max (vN G o) (vL G l).length
 | [],l,o,_=>by simp [Wc,vVs];omega
 | f::fs,l,o,h=>by
  simp only [bK] at h;obtain ⟨h1,h2⟩:=B6 h;have e1:=fG h1;obtain ⟨e2,e3⟩:=jJ fs h2;rw [I8] at e2 e3;simp only [vN] at e2 e3;have hlt:vN G o<(vL G l).length:=(List.getElem?_eq_some_iff.1 e1).1;refine ⟨?_,by simp only [List.length_cons];omega⟩;simp only [Wc,vVs,e2];rw [List.drop_eq_getElem_cons hlt,List.length_cons,List.take_succ_cons];rw [List.getElem?_eq_getElem hlt] at e1;simp only [Option.some.injEq] at e1;rw [e1]
def WoF (G:Nat→List AV) (x:FamR) (p:Option (Bool×AV)):Prop:=
 match x with
 | .val c v=>vB G c=true→p=some (true,vV G v)
 | .ptr n c v=>(vB G n=true→p=some (true,.nilp))∧(vB G c=true→p=some (true,vV G v))
theorem Yf {fam:TypeId→Option (Nat×Nat)} {P:Program} {t:TypeId} {cs:EL} {off:EN} {x:FamR} (h:fF fam P t cs off=some x):WoF G x (Q4 P t (vL G cs) (vN G off)):=by
 unfold fF at h;split at h
 ·simp at h
 ·rename_i b c hf;split at h
  ·rename_i fs hu;split at h
   ·simp at h
   ·split at h
    ·rename_i z ls hz hl;split at h
     ·rename_i hb;rw [Bool.and_eq_true] at hb;have hz1:=Nat.le_of_ble_eq_true hb.2;have hb:=Nat.eq_of_beq_eq_true hb.1;simp only [Option.some.injEq] at h;subst h;intro hc;obtain ⟨e1,e2⟩:=jJ ls hc;have hle:vN G off+z≤(vL G cs).length:=by omega
      unfold Q4;simp only [hu,hz,vV,vL,e1,hb];rw [decide_eq_true hle]
     ·simp at h
    ·simp at h
  ·rename_i e hu;split at h
   ·simp at h
   ·simp only [Option.some.injEq] at h;subst h;intro hc
    have:=fG hc
    unfold Q4;simp only [hu,this]
  ·rename_i e hu;split at h
   ·simp at h
   ·simp only [Option.some.injEq] at h;subst h;refine ⟨fun hc=>?_,fun hc=>?_⟩
    ·simp only [vB] at hc;unfold Q4;simp only [hu,gQ hc]
    ·simp only [vB] at hc;unfold Q4;simp only [hu,(pB hc).1,vV,vR,vN]
  ·simp at h
theorem iM {C:A2} (hG:C.G=G) {F:DFr} {H:DHp} {op:Op}:Wo G (bC C.P F H op) (J4 C (vVs G F) (B8 G H) op):=by
 intro c v h hc;unfold bC at h;split at h
 ·simp only [J4,←vV_evD];split at h
  ·rename_i r off he;simp only [he,vV];exact iZ hG _ _ h hc
  ·simp at h
 ·simp only [J4,←vV_evD];split at h
  ·rename_i fs cs hu he;simp only [hu,he,vV];split at h
   ·rename_i fd hf;simp only [hf]
    have:=Cz _ _ h hc
    simpa only [vN] using this
   ·simp at h
  ·simp at h
 ·simp only [J4,←vV_evD];split at h
  ·rename_i len e cs k i hu he hi;simp only [hu,he,hi,vV];split at h
   ·rename_i z hz;simp only [hz];split at h
    ·rename_i c' v' hp;simp only [Option.some.injEq,Prod.mk.injEq] at h;obtain ⟨rfl,rfl⟩:=h;obtain ⟨g1,hc⟩:=B6 hc;obtain ⟨g2,g3⟩:=B6 hc
     have:=Cz _ _ hp g3
     rw [Fv,Ad] at this;rw [R5] at g1 g2;have g1:decide (0≤vI G i)=true:=decide_eq_true (by have:=of_decide_eq_true g1;simpa only [vI] using this);have g2:decide (vI G i<len)=true:=decide_eq_true (by have:=of_decide_eq_true g2;simpa only [vI] using this);simp only [this,g1,g2,Bool.and_self]
    ·simp at h
   ·simp at h
  ·simp at h
 ·simp only [J4,←vV_evD];split at h
  ·rename_i h1 he;simp only [Option.some.injEq,Prod.mk.injEq] at h;obtain ⟨rfl,rfl⟩:=h;simp only [h1,he,vV,vS]
  ·rename_i mb r off n h1 he;simp only [h1,he,vV];split at h
   ·rename_i c0 cs hcs;simp only [nA,Option.some.injEq,Prod.mk.injEq] at h;obtain ⟨rfl,rfl⟩:=h;obtain ⟨g0,hc⟩:=B6 hc;rw [Hh hG hcs g0];obtain ⟨g1,g2⟩:=B6 hc;rw [L3,I8,R4] at g1;simp only [vB,Ae,u8s] at g2;have g1:decide (vN G off+vN G n≤(vL G cs).length)=true:=g1;simp only [kD,g1,g2,Bool.and_self,vV,vS,Ae,O4]
   ·simp at h
  ·simp at h
 ·simp at h
theorem Rw {C:A2} (hG:C.G=G) {H:DHp} {z:Nat} {x:EV} {c:EB} {m:EN} {xs:EL} (h:qY H z x=some (c,m,xs)) (hc:vB G c=true) :
  Sx C (B8 G H) z (vV G x)=some (true,vN G m,vL G xs):=by
 unfold qY at h;split at h
 ·simp only [Option.some.injEq,Prod.mk.injEq] at h;obtain ⟨rfl,rfl,rfl⟩:=h;simp only [vV,Sx,vN,vL,vVs]
 ·rename_i mb r off m';split at h
  ·rename_i c0 cs hcs;simp only [Option.some.injEq,Prod.mk.injEq] at h;obtain ⟨rfl,rfl,rfl⟩:=h;obtain ⟨g0,hc⟩:=B6 hc;obtain ⟨g1,g2⟩:=B6 hc;rw [L3,I8,P7,R4] at g1;rw [Ns,Ae,P7] at g2;simp only [vV,Sx,Hh hG hcs g0];have g1:decide (vN G off+vN G m'*z≤(vL G cs).length)=true:=g1;simp only [g1,g2,Bool.and_self,Ae,P7]
  ·simp at h
 ·rename_i s;split at h
  ·rename_i hz;have hz:=Nat.eq_of_beq_eq_true hz;subst hz;simp only [Option.some.injEq,Prod.mk.injEq] at h;obtain ⟨rfl,rfl,rfl⟩:=h;simp only [vV,Sx,Ac,Uh,decide_true]
  ·simp at h
 ·simp at h
theorem Na {v:EV} {n:Nat} (h:Nb (some v) n=true):(B2 (vV G v)).length=n:=by
 unfold Nb at h;simp only at h;rw [←T4];split at h
 ·rename_i cs he;rw [he];simp only [vL,Q3];exact Nat.eq_of_beq_eq_true h
 ·simp at h
def Ww (G:Nat→List AV) (o:Option (EB×EV×DHop)) (p:Option (Bool×AV×Hop)):Prop:=∀ c v h,o=some (c,v,h)→vB G c=true→p=some (true,vV G v,I1 G h)
theorem aI {C:A2} (hG:C.G=G) {H:DHp} {t:TypeId} {s x:EV}:Ww G (Sa C.P H t s x) (Fh C (B8 G H) t (vV G s) (vV G x)):=by
 intro c v hp h hc;unfold Sa at h;unfold Fh;split at h
 rotate_left
 ·simp at h
 rename_i e hu;simp only [hu];split at h
 rotate_left
 ·simp at h
 rename_i i zv hi hz;have hz:=Ct (G:=G) hz;simp only [hi,hz];split at h
 ·simp at h
 rename_i hb;obtain ⟨hok,hb⟩:=L9 hb;obtain ⟨hb1,hb2⟩:=L9 hb;have hlen:((B2 (vV G zv)).length==i.size)=true:=by rw [Na hb2];simp
 have hby:decide (1≤i.bytes)=true:=decide_eq_true (Nat.le_of_ble_eq_true hb1);split at h
 rotate_left
 ·simp at h
 rename_i c' m xs hs;split at h
 ·simp only [Option.some.injEq,Prod.mk.injEq] at h;obtain ⟨rfl,rfl,rfl⟩:=h;obtain ⟨g1,g2⟩:=B6 hc;have e1:=Rw hG hs g1;rw [L3,P7] at g2;simp only [vN] at g2;have g2:decide (vN G m*i.bytes≤140737488355328)=true:=g2;simp only [e1,vV,g2,hby,hlen,hok,Bool.and_self,P0,vR,vN,here,D9,I1,C8]
 ·rename_i mb j;split at h
  ·rename_i b hj;split at h
   ·rename_i hez;have hez:=Nat.eq_of_beq_eq_true hez;simp only [Option.some.injEq,Prod.mk.injEq] at h;obtain ⟨rfl,rfl,rfl⟩:=h;obtain ⟨g1,g2⟩:=B6 hc;have e1:=Rw hG hs g1;rw [L3,P7] at g2;simp only [vN] at g2;have g2:decide (vN G m*i.bytes≤140737488355328)=true:=g2;have hr:∀ l,isRec ⟨i.size,l⟩=false:=fun l=>Ew hok;have g4:decide (0*i.size≤(vL G b.cells).length)=true:=decide_eq_true (by omega)
    simp only [hr,Bool.not_false,e1,vV,vR,vN,E9 hj,C8,g2,hby,hlen,hez,beq_self_eq_true,Bool.and_self,P0,here,D9,I1,Nat.zero_add,Nat.zero_mul,List.take_zero,List.nil_append,Nat.zero_le,decide_true]
   ·simp at h
  ·simp at h
 ·rename_i mb j n;split at h
  ·rename_i b hj;split at h
   ·rename_i hez;have hez:=Nat.eq_of_beq_eq_true hez;simp only [Option.some.injEq,Prod.mk.injEq] at h;obtain ⟨rfl,rfl,rfl⟩:=h;obtain ⟨g1,hc⟩:=B6 hc;obtain ⟨g2,g3⟩:=B6 hc;have e1:=Rw hG hs g1;rw [L3,P7,I8] at g2;simp only [vN] at g2;rw [L3,R4,P7] at g3;have g2:decide ((vN G n+vN G m)*i.bytes≤140737488355328)=true:=g2;have hr:∀ l,isRec ⟨i.size,l⟩=false:=fun l=>Ew hok;have g4:decide (vN G n*i.size≤(vL G b.cells).length)=true:=g3
    simp only [hr,Bool.not_false,e1,vV,vR,vN,Nat.mul_one,E9 hj,C8,g2,hby,hlen,hez,g4,beq_self_eq_true,Bool.and_self,P0,here,D9,I1,Yy,Ae,I8,P7,A7,List.drop_zero]
   ·simp at h
  ·simp at h
 ·rename_i mb j n _ _;split at h
  ·rename_i b hj;split at h
   ·rename_i hez;have hez:=Nat.eq_of_beq_eq_true hez;simp only [Option.some.injEq,Prod.mk.injEq] at h;obtain ⟨rfl,rfl,rfl⟩:=h;obtain ⟨g1,hc⟩:=B6 hc;obtain ⟨g2,g3⟩:=B6 hc;have e1:=Rw hG hs g1;rw [L3,P7,I8] at g2;simp only [vN] at g2;rw [cA,R4,P7] at g3;have g3:=Nat.eq_of_beq_eq_true g3;have g2:decide ((vN G n+vN G m)*i.bytes≤140737488355328)=true:=g2;have hr:∀ l,isRec ⟨i.size,l⟩=false:=fun l=>Ew hok;have g4:decide (vN G n*i.size≤(vL G b.cells).length)=true:=decide_eq_true (by omega)
    have g5:(vL G b.cells).take (vN G n*i.size)=vL G b.cells:=List.take_of_length_le (by omega);simp only [hr,Bool.not_false,e1,vV,vR,vN,E9 hj,C8,g2,hby,hlen,hez,g4,g5,beq_self_eq_true,Bool.and_self,P0,here,D9,I1,Yy,I8]
   ·simp at h
  ·simp at h
 ·simp at h
theorem Ug {l:EL} {o:EN} {v:EV} {z:Nat} (hz:L6 (vV G v)=z):vL G (Rg l o v z)=J7 (vL G l) (vN G o) (vV G v):=by
 unfold Rg;split
 ·rename_i d;split
  ·rename_i cs _;split
   ·rename_i hb;have hb:=Nat.eq_of_beq_eq_true hb;simp only [vV,L6] at hz;simp only [vV,J7,Zc,vL,vN,List.take_zero,List.nil_append,Nat.zero_add];rw [List.drop_of_length_le (by rw [Q3];omega),List.append_nil]
   ·exact Hx _ _ _
  ·exact Hx _ _ _
 ·exact Hx _ _ _
theorem mD {C:A2} {H:DHp} {t:TypeId} {s x:EV}:Ww G (Ir C.P H t s x) (Ly C (B8 G H) t (vV G s) (vV G x)):=by
 intro c v hp h hc;unfold Ir at h;unfold Ly;split at h
 rotate_left
 ·simp at h
 rename_i e n hu;simp only [hu,vV];split at h
 rotate_left
 ·simp at h
 rename_i i zv hi hz;simp only [hi,Ct (G:=G) hz];split at h
 rotate_left
 ·simp at h
 rename_i hb;obtain ⟨hok,hb⟩:=L9 hb;obtain ⟨hb0,hb⟩:=L9 hb;obtain ⟨hb1,hb2⟩:=L9 hb;simp only [Option.some.injEq,Prod.mk.injEq] at h;obtain ⟨rfl,rfl,rfl⟩:=h;obtain ⟨g1,g3⟩:=B6 hc;rw [R5] at g1 g3
 have ebig:vI G (Ir.mkBigD n i.bytes)=vI G n*i.bytes:=by
  unfold Ir.mkBigD
  split<;>simp [vI,vVs,vV,Yo]
 rw [ebig] at g3;simp only [vI] at g1 g3;have g1:decide (0≤vI G n)=true:=decide_eq_true (of_decide_eq_true g1);have g3:decide (vI G n*i.bytes≤140737488355328)=true:=decide_eq_true (of_decide_eq_true g3);have g0:decide (1≤i.bytes)=true:=decide_eq_true (Nat.le_of_ble_eq_true hb0);have g5:decide ((B2 (vV G zv)).length=i.size)=true:=decide_eq_true (Na hb1);have g6:decide (1≤i.size)=true:=decide_eq_true (Nat.le_of_ble_eq_true hb2);simp only [hok,g0,g1,g3,g5,g6,Bool.and_self,vV,P0,vR,vN,here,D9,I1,C8,Sp,T4,Ad]
theorem tW {C:A2} {H:DHp} {t:TypeId} {x:EV}:Ww G (fQ C.P H t x) (Qf C (B8 G H) t (vV G x)):=by
 intro c v hp h hc;unfold fQ at h;unfold Qf;split at h
 rotate_left
 ·simp at h
 rename_i e mb j off n hu;simp only [hu,vV,vR];split at h
 rotate_left
 ·simp at h
 rename_i z zv b hz hzv hj;split at h
 ·simp at h
 rename_i hr;rw [Bool.or_eq_false_iff] at hr;obtain ⟨hr,hb⟩:=hr;have hr:isRec (C8 G b)=false:=hr;have hb:(Nb (some zv) z&&Nat.ble 1 z)=true:=by simpa using hb
 obtain ⟨hb1,hb2⟩:=L9 hb;simp only [hz,Ct (G:=G) hzv,E9 hj,hr,Bool.not_false,Bool.true_and];simp only [Option.some.injEq,Prod.mk.injEq] at h;obtain ⟨rfl,rfl,rfl⟩:=h;obtain ⟨g1,hc⟩:=B6 hc;obtain ⟨g2,g3⟩:=B6 hc;rw [L3] at g1 g3;rw [Ns,T4] at g2;rw [I8,P7,R4] at g3;simp only [vN] at g1;have g1:decide (1≤vN G n)=true:=g1;have g3:decide (vN G off+vN G n*z≤(vL G b.cells).length)=true:=g3;have g5:decide ((B2 (vV G zv)).length=z)=true:=decide_eq_true (Na hb1)
 have g6:decide (1≤z)=true:=decide_eq_true (Nat.le_of_ble_eq_true hb2);simp only [g1,g2,g5,g6,C8,vV,vVs,I1,Hx,J7,Sp,T4];have g7:=of_decide_eq_true g3;simp only [g7,decide_true,Bool.and_self]
theorem bU {C:A2} (hG:C.G=G) {F:DFr} {H:DHp} {op:Op}:Ww G (Kr C.P F H op) (G4 C (vVs G F) (B8 G H) op):=by
 intro c v hp h hc;unfold Kr at h;split at h
 ·-- store
  simp only [G4,←vV_evD];split at h
  ·rename_i i off z he hz;simp only [he,hz,vV,vR];split at h
   ·rename_i b hb;split at h
    ·simp at h
    rename_i hr;have hr:∀ l,isRec ⟨b.esz,l⟩=false:=fun _=>hr;simp only [Option.some.injEq,Prod.mk.injEq] at h;obtain ⟨rfl,rfl,rfl⟩:=h;obtain ⟨g1,hc⟩:=B6 hc;obtain ⟨g2,g3⟩:=B6 hc;rw [L3,I8,R4] at g3;simp only [vN] at g3;have g3:decide (vN G off+z≤(vL G b.cells).length)=true:=g3;simp only [hr,Bool.not_false,E9 hb,C8,Ps _ g1,Fx g2,g3,beq_self_eq_true,Bool.and_self,vV,vVs,I1,Ug (Fx g2)]
   ·simp at h
  ·simp at h
 ·-- alloc
  simp only [G4];split at h
  ·rename_i z hz;simp only [Ct (G:=G) hz];simp only [Option.some.injEq,Prod.mk.injEq] at h;obtain ⟨rfl,rfl,rfl⟩:=h;simp only [vV,P0,vR,vN,here,D9,I1,C8,T4]
  ·simp at h
 ·-- box
  simp only [G4,←vV_evD];split at h
  ·rename_i hk;simp only [Option.some.injEq,Prod.mk.injEq] at h;obtain ⟨rfl,rfl,rfl⟩:=h;simp only [dZ hk,vV,P0,vR,vN,here,D9,I1,C8,T4]
  ·simp at h
 ·-- buildSlice
  rename_i t n parts;simp only [G4];split at h
  rotate_left
  ·simp at h
  rename_i e hu;simp only [hu];split at h
  rotate_left
  ·simp at h
  rename_i z zv hz hzv;simp only [hz,Ct (G:=G) hzv];split at h
  rotate_left
  ·simp at h
  rename_i cs hcs;split at h
  rotate_left
  ·simp at h
  rename_i hb;obtain ⟨hok,hb⟩:=L9 hb;obtain ⟨hb1,hb2⟩:=L9 hb;have e0:B2 (vV G zv)=vVs G cs:=by rw [←T4,hcs];simp only [vL]
  have e1:(vVs G cs).length=z:=by rw [Q3];exact Nat.eq_of_beq_eq_true hb2
  split at h
  ·rename_i c' cs' hf;simp only [Option.some.injEq,Prod.mk.injEq] at h;obtain ⟨rfl,rfl,rfl⟩:=h
   have:=Rp _ _ _ _ hf hc
   have e2:vL G (.of (List.replicate n cs).flatten)=(List.replicate n (B2 (vV G zv))).flatten:=by
    simp only [vL,e0,M2,List.map_flatten,List.map_replicate]
   rw [e2,List.map_map] at this
   have e3:(List.map ((fun p:Nat×EV=>(p.1,vV G p.2)) ∘ fun p:Nat×Operand=>(p.1,evD F p.2)) parts.toList)=List.map (fun p=>(p.1,ev (vVs G F) p.2)) parts.toList:=by
    refine List.map_congr_left fun p _=>?_;simp [vV_evD]
   rw [e3] at this;have hb1:decide (n*z≤16777216)=true:=decide_eq_true (Nat.le_of_ble_eq_true hb1);rw [e0] at this;simp only [hok,e0,this,e1,hb1,decide_true,Bool.and_self,vV,P0,vR,vN,here,D9,I1,C8]
  ·simp at h
 ·-- makeSlice
  simp only [G4,←vV_evD];split at h
  rotate_left
  ·simp at h
  rename_i e k l k' c' hu hl hc';simp only [hu,hl,hc',vV];split at h
  rotate_left
  ·simp at h
  rename_i i zv hi hz;simp only [hi,Ct (G:=G) hz];split at h
  rotate_left
  ·simp at h
  rename_i hb;obtain ⟨hok,hb⟩:=L9 hb;obtain ⟨hb1,hb2⟩:=L9 hb;simp only [Option.some.injEq,Prod.mk.injEq] at h;obtain ⟨rfl,rfl,rfl⟩:=h;obtain ⟨g1,hc⟩:=B6 hc;obtain ⟨g2,hc⟩:=B6 hc;obtain ⟨g3,g4⟩:=B6 hc;rw [R5] at g1 g2 g3 g4
  have ebig:vI G (Kr.mkBig c' i.bytes)=vI G c'*i.bytes:=by
   unfold Kr.mkBig
   split<;>simp [vI,vVs,vV,Yo]
  rw [ebig] at g3;simp only [vI] at g1 g3 g4;have g1:decide (0≤vI G l)=true:=decide_eq_true (of_decide_eq_true g1);have g2:decide (vI G l≤vI G c')=true:=decide_eq_true (of_decide_eq_true g2);have g3:decide (vI G c'*i.bytes≤140737488355328)=true:=decide_eq_true (of_decide_eq_true g3);have g4:decide (vI G c'≤140737488355328)=true:=decide_eq_true (of_decide_eq_true g4);have g5:decide ((B2 (vV G zv)).length=i.size)=true:=decide_eq_true (Na hb1);have g6:decide (1≤i.size)=true:=decide_eq_true (Nat.le_of_ble_eq_true hb2)
  simp only [hok,g1,g2,g3,g4,g5,g6,Bool.and_self,vV,P0,vR,vN,here,D9,I1,C8,Sp,T4,Ad]
 ·-- convert
  simp only [G4,←vV_evD];split at h
  ·rename_i s h1 he;simp only [h1,he,vV];simp only [Option.some.injEq,Prod.mk.injEq] at h;obtain ⟨rfl,rfl,rfl⟩:=h;rw [L3,Ac] at hc;simp only [vN] at hc;have hc:decide ((vS G s).length≤140737488355328)=true:=hc;simp only [hc,vV,P0,vR,vN,here,D9,I1,C8,Ac,Uh]
  ·rename_i mb i off n h1 he;simp only [h1,he,vV,vR];split at h
   ·rename_i h2;simp only [h2];split at h
    ·rename_i b hb;split at h
     ·simp at h
     rename_i hr;have hr:isRec (C8 G b)=false:=hr;simp only [E9 hb,hr,Bool.not_false,Bool.true_and];simp only [Option.some.injEq,Prod.mk.injEq] at h;obtain ⟨rfl,rfl,rfl⟩:=h;rw [L3] at hc;simp only [vN] at hc;have hc:Nat.ble 1 (vN G n)=true:=Nat.ble_eq_true_of_le (A6.1 hc);simp only [hc,vV,vR,I1]
    ·simp at h
   ·simp at h
  ·simp at h
 ·-- append
  simp only [G4];split at h
  rotate_left
  ·simp at h
  rename_i s x t u h1 h2;simp only [h1,h2,←vV_evD];split at h
  ·rename_i e hu;simp only [hu];exact aI hG _ _ _ h hc
  ·rename_i hu;simp only [hu];exact aI hG _ _ _ h hc
  ·rename_i k hu;simp only [hu];exact mD _ _ _ h hc
  ·simp at h
 ·-- clear
  simp only [G4];split at h
  rotate_left
  ·simp at h
  rename_i x t h1 h2;simp only [h1,h2,←vV_evD];exact tW _ _ _ h hc
 ·simp at h
theorem pN {C:A2} (hG:C.G=G) {fam:TypeId→Option (Nat×Nat)} {F:DFr} {H:DHp} {op:Op} {c0:EB} {x:FamR} (h:fH fam C.P F H op=some (c0,x)) (h0:vB G c0=true):WoF G x (J4 C (vVs G F) (B8 G H) op):=by
 unfold fH at h;split at h
 ·rename_i t a;simp only [J4,←vV_evD];split at h
  ·rename_i r off he;simp only [he,vV];split at h
   ·simp at h
   ·rename_i hr;split at h
    ·rename_i c1 cs hcs;split at h
     ·rename_i y hp;simp only [Option.some.injEq,Prod.mk.injEq] at h;obtain ⟨rfl,rfl⟩:=h
      have hl:Hd C (B8 G H) t (vR G r) (vN G off)=Q4 C.P t (vL G cs) (vN G off):=by
       unfold Hd;rw [Hh hG hcs h0];cases r with
       | rw i=>simp only [vR,Jm]
       | ro n=>exact absurd rfl (hr n)
       | fm b c k=>simp only [vR,Jm]
      rw [hl];exact Yf hp
     ·simp at h
    ·simp at h
  ·simp at h
 ·simp only [J4,←vV_evD];split at h
  ·rename_i fs cs hu he;simp only [hu,he,vV];split at h
   ·rename_i fd hf;simp only [hf];split at h
    ·rename_i y hp;simp only [Option.some.injEq,Prod.mk.injEq] at h;obtain ⟨rfl,rfl⟩:=h
     have:=Yf (G:=G) hp
     simpa only [vN] using this
    ·simp at h
   ·simp at h
  ·simp at h
 ·simp only [J4,←vV_evD];split at h
  ·rename_i len e cs k i hu he hi;simp only [hu,he,hi,vV];split at h
   ·rename_i z hz;simp only [hz];split at h
    ·rename_i y hp;simp only [Option.some.injEq,Prod.mk.injEq] at h;obtain ⟨rfl,rfl⟩:=h;obtain ⟨g1,g2⟩:=B6 h0
     have:=Yf (G:=G) hp
     rw [Fv,Ad] at this;rw [R5] at g1 g2;have g1:decide (0≤vI G i)=true:=decide_eq_true (by have:=of_decide_eq_true g1;simpa only [vI] using this);have g2:decide (vI G i<len)=true:=decide_eq_true (by have:=of_decide_eq_true g2;simpa only [vI] using this);cases y with
     | val c v=>exact fun hc=>by simp only [this hc,g1,g2,Bool.and_self]
     | ptr n c v=>exact ⟨fun hc=>by simp only [this.1 hc,g1,g2,Bool.and_self],fun hc=>by simp only [this.2 hc,g1,g2,Bool.and_self]⟩
    ·simp at h
   ·simp at h
  ·simp at h
 ·simp at h
theorem aJ (b:Nat) (f:Nat→Blk):∀ (c:Nat) (H:Hp),(acts H ((List.range c).map fun j=>Hop.set (b+j) (f j))).length=H.length∧∀ i,(acts H ((List.range c).map fun j=>Hop.set (b+j) (f j)))[i]?=if b≤i∧i<b+c∧i<H.length then some (some (f (i - b))) else H[i]?
 | 0,H=>⟨by simp [acts],fun i=>by rw [if_neg (by omega)];simp [acts]⟩
 | c+1,H=>by
  have app:∀ (hs ks:List Hop) (H:Hp),acts H (hs++ks)=acts (acts H hs) ks:=by
   intro hs
   induction hs with
   | nil=>intro ks H;rfl
   | cons h hs ih=>intro ks H;exact ih ks _
  obtain ⟨h1,h2⟩:=aJ b f c H;rw [List.range_succ,List.map_append,app];simp only [List.map_cons,List.map_nil,acts,Hop.act];refine ⟨by rw [List.length_set,h1],fun i=>?_⟩;rw [List.getElem?_set,h1];by_cases e:b+c=i
  ·subst e;rw [if_pos rfl];by_cases hl:b+c<H.length
   ·rw [if_pos hl,if_pos (by omega),show b+c - b=c by omega]
   ·rw [if_neg hl,if_neg (by omega),List.getElem?_eq_none (by omega)]
  ·rw [if_neg e,h2];by_cases hi:b≤i∧i<b+c∧i<H.length
   ·rw [if_pos hi,if_pos (by omega)]
   ·rw [if_neg hi,if_neg (by omega)]
theorem lN {H:DHp} {b c z:Nat} {l l2:EL} {ls:List EV} {k:Nat} {N:List AV} (hf:Rt H b c=some (z,l,ls)) (hr:Uw (vL G l) (vVs G ls)=true) (hk:k<c) (hkl:k<(vL G l).length) (h2:vL G l2=Xn (vL G l) k N) :
  acts (B8 G H) ((Rq b c z l2).map (I1 G))=(B8 G H).set (b+k) (some ⟨z,N⟩):=by
 have e0:(Rq b c z l2).map (I1 G)=(List.range c).map fun j=>Hop.set (b+j) ⟨z,If (Xn (vL G l) k N) j⟩:=by
  unfold Rq;rw [List.map_map];refine List.map_congr_left fun j _=>?_;simp only [Function.comp,I1,C8,vL,vN,h2]
 rw [e0];obtain ⟨h1,h3⟩:=aJ b (fun j=>⟨z,If (Xn (vL G l) k N) j⟩) c (B8 G H);refine List.ext_getElem? fun i=>?_;rw [h3,List.getElem?_set]
 have hput:∀ j,If (Xn (vL G l) k N) j=if k=j then N else If (vL G l) j:=fun j=>by
  unfold If Xn;rw [List.getElem?_set];by_cases e:k=j
  ·subst e;rw [if_pos rfl,if_pos rfl,if_pos hkl]
  ·rw [if_neg e,if_neg e]
 by_cases hi:b≤i∧i<b+c∧i<(B8 G H).length
 ·rw [if_pos hi,hput];by_cases e:b+k=i
  ·subst e;rw [if_pos rfl,if_pos (by omega),if_pos hi.2.2]
  ·rw [if_neg e,if_neg (by omega)]
   have:=Wa hf hr (i:=i - b) (by omega)
   rw [show b+(i - b)=i by omega] at this;rw [this]
 ·rw [if_neg hi];by_cases e:b+k=i
  ·subst e
   have:=Wa hf hr hk
   have:=(List.getElem?_eq_some_iff.1 this).1
   omega
  ·rw [if_neg e]
theorem mN {C:A2} (hG:C.G=G) {F:DFr} {H:DHp} {op:Op} {c:EB} {hs:List DHop} (h:Xa C.P F H op=some (c,hs)) (hc:vB G c=true) :
  ∃ hp,G4 C (vVs G F) (B8 G H) op=some (true,.tup [],hp)∧hp.act (B8 G H)=acts (B8 G H) (hs.map (I1 G)):=by
 unfold Xa at h;split at h
 ·rename_i t a x;simp only [G4,←vV_evD];split at h
  ·rename_i b cc k off z he hz;simp only [he,hz,vV,vR];split at h
   ·rename_i z0 l ls hf;simp only [Option.some.injEq,Prod.mk.injEq] at h;obtain ⟨rfl,rfl⟩:=h;obtain ⟨g1,hc⟩:=B6 hc;obtain ⟨g2,hc⟩:=B6 hc;obtain ⟨g3,hc⟩:=B6 hc;obtain ⟨g4,hc⟩:=B6 hc;obtain ⟨g5,g6⟩:=B6 hc;rw [L3,I8] at g1 g3;simp only [vN] at g1 g3;have g1:=A6.1 g1;have g3:=A6.1 g3;simp only [vB] at g2;rw [L3,I8,R4] at g6;simp only [vN,vL] at g6;have g6:decide (vN G off+z≤(If (vL G l) (vN G k)).length)=true:=g6;have hr:∀ l',isRec ⟨z0,l'⟩=false:=fun _=>(Tp hf).1
    refine ⟨.set (b+vN G k) ⟨z0,J7 (If (vL G l) (vN G k)) (vN G off) (vV G (evD F x))⟩,?_,?_⟩
    ·simp only [Wa hf g2 (show vN G k<cc by omega),hr,Bool.not_false,Ps _ g4,Fx g5,g6,beq_self_eq_true,Bool.and_self]
    ·rw [lN (k:=vN G k) (N:=J7 (If (vL G l) (vN G k)) (vN G off) (vV G (evD F x))) hf g2 (by omega) (by omega) (by simp only [vL,Ug (Fx g5)])];rfl
   ·simp at h
  ·simp at h
 ·simp at h
theorem jP {F:DFr} {op:Op} {f:FuncId} {args:List EV} (h:Rz F op=some (f,args)):callOp (vVs G F) op=some (f,vVs G args):=by
 unfold Rz at h;split at h
 ·simp only [callOp,←vV_evD];split at h
  ·rename_i g cap he;simp only [Option.some.injEq,Prod.mk.injEq] at h;obtain ⟨rfl,rfl⟩:=h;simp only [he,vV,Me,dT]
  ·simp at h
 ·simp at h
theorem mL {F:DFr} {op:Op} {i:Nat} {args:List EV} (h:Wz F op=some (i,args)):yldOp (vVs G F) op=some (i,vVs G args):=by
 unfold Wz at h;split at h
 ·simp only [yldOp,←vV_evD];split at h
  ·rename_i g he;simp only [Option.some.injEq,Prod.mk.injEq] at h;obtain ⟨rfl,rfl⟩:=h;simp only [he,vV,dT]
  ·simp at h
 ·simp at h
theorem nW {C:A2} (hG:C.G=G) {F:DFr} {H:DHp} (x:ResultVar):Wo G (Xj C.P F H x) (Oo C (vVs G F) (B8 G H) x):=by
 intro c v h hc;unfold Xj at h;unfold Oo;split at h
 ·simp only [Option.some.injEq,Prod.mk.injEq] at h;obtain ⟨rfl,rfl⟩:=h;simp only [Cn,U3]
 ·simp only [U3];simp only [Cn] at h;split at h
  ·rename_i r off he;simp only [he,vV];exact iZ hG _ _ h hc
  ·simp at h
theorem Ot {C:A2} (hG:C.G=G) {F:DFr} {H:DHp}:∀ (xs:List ResultVar) (c:EB) (vs:List EV),Lh C.P F H xs=some (c,vs)→vB G c=true→Dp C (vVs G F) (B8 G H) xs=some (true,vVs G vs)
 | [],c,vs,h,_=>by
  simp only [Lh,Option.some.injEq,Prod.mk.injEq] at h;obtain ⟨rfl,rfl⟩:=h;simp only [Dp,vVs]
 | x::xs,c,vs,h,hc=>by
  unfold Lh at h;split at h
  ·rename_i c1 v h1;split at h
   ·rename_i d r h2;simp only [Option.some.injEq,Prod.mk.injEq] at h;obtain ⟨rfl,rfl⟩:=h;obtain ⟨g1,g2⟩:=B6 hc;simp only [Dp,nW hG x _ _ h1 g1,Ot hG xs _ _ h2 g2,Bool.and_self,vVs]
   ·simp at h
  ·simp at h
theorem cU {C:A2} (hG:C.G=G) {fn:Func} {F:DFr} {H:DHp}:Wo G (rR C.P fn F H) (Mo C fn (vVs G F) (B8 G H)):=by
 intro c v h hc;unfold rR at h;unfold Mo;split at h
 ·rename_i c' v' hr;simp only [Option.some.injEq,Prod.mk.injEq] at h;obtain ⟨rfl,rfl⟩:=h;simp only [Ot hG _ _ _ hr hc,vVs]
 ·rename_i c' vs hn hr;simp only [Option.some.injEq,Prod.mk.injEq] at h;obtain ⟨rfl,rfl⟩:=h;rw [Ot hG _ _ _ hr hc];cases vs with
  | nil=>simp only [vVs,vV]
  | cons x l=>cases l with
   | nil=>exact absurd rfl (hn _)
   | cons y l=>simp only [vVs,vV]
 ·simp at h
end Go.Am
namespace Go.Am
variable {G:Nat→List AV}
def vT (G:Nat→List AV) (Q:Ex→List AV→Hp→Prop) (R:AV→Hp→Prop):T→Prop
 | .fail=>False
 | .chk b t=>vB G b=true∧vT G Q R t
 | .tst b x y=>(vB G b=true→vT G Q R x)∧(vB G b=false→vT G Q R y)
 | .imp b t=>vB G b=true→vT G Q R t
 | .allI _ k=>∀ x,vT G Q R (k x)
 | .allN _ k=>∀ x,vT G Q R (k x)
 | .allB _ k=>∀ x,vT G Q R (k x)
 | .allL _ k=>∀ x,vT G Q R (k x)
 | .namI _ e k=>∀ x,x=vI G e→vT G Q R (k x)
 | .namN _ e k=>∀ x,x=vN G e→vT G Q R (k x)
 | .namB _ e k=>∀ x,x=vB G e→vT G Q R (k x)
 | .namL _ e k=>∀ x,x=vL G e→vT G Q R (k x)
 | .leaf e F H=>Q e (vVs G F) (B8 G H)
 | .ret v H=>R (vV G v) (B8 G H)
section
variable {Q:Ex→List AV→Hp→Prop} {R:AV→Hp→Prop}
theorem T1:∀ (b:EB) {t:T},vT G Q R (Bs b t)→vB G b=true∧vT G Q R t
 | .lit true,t,h=>⟨rfl,h⟩
 | .lit false,t,h=>h.elim
 | .and a b,t,h=>by
  simp only [Bs] at h;obtain ⟨h1,h⟩:=T1 a h;obtain ⟨h2,h⟩:=T1 b h;exact ⟨by simp [vB,h1,h2],h⟩
 | .var ..,t,h=>h
 | .cmp ..,t,h=>h
 | .not ..,t,h=>h
 | .eqB ..,t,h=>h
 | .eqS ..,t,h=>h
 | .isI ..,t,h=>h
 | .isB ..,t,h=>h
 | .isT ..,t,h=>h
 | .isR ..,t,h=>h
 | .get ..,t,h=>h
 | .leN ..,t,h=>h
 | .eqN ..,t,h=>h
 | .leaf ..,t,h=>h
 | .u8s ..,t,h=>h
 | .cells ..,t,h=>h
 | .isF ..,t,h=>h
 | .isP ..,t,h=>h
 | .isNil ..,t,h=>h
 | .rows ..,t,h=>h
 | .uf ..,t,h=>h
def Bran (G:Nat→List AV) (Q:Ex→List AV→Hp→Prop) (R:AV→Hp→Prop) (n:Nat) (b:EB) (x y:Facts→T):Prop:=
 (vB G b=true∧∃ fs':Facts,fs'.n=n∧vT G Q R (x fs'))∨(vB G b=false∧∃ fs':Facts,fs'.n=n∧vT G Q R (y fs'))
theorem N1 {fs:Facts} {b:EB} {x y:Facts→T} (h:vT G Q R (match dec fs b with | some true=>.chk b (x fs) | some false=>.chk (.not b) (y fs) | none=>.tst b (x (Fo fs b true)) (y (Fo fs b false)))):Bran G Q R fs.n b x y:=by
 have hl:∀ v,(Fo fs b v).n=fs.n:=fun v=>by unfold Fo;rfl
 split at h
 ·exact .inl ⟨h.1,fs,rfl,h.2⟩
 ·refine .inr ⟨?_,fs,rfl,h.2⟩
  have:=h.1
  simpa [vB] using this
 ·cases hb:vB G b with
  | true=>exact .inl ⟨hb,_,hl _,h.1 hb⟩
  | false=>exact .inr ⟨hb,_,hl _,h.2 hb⟩
theorem T0:∀ (b:EB) (fs:Facts) (x y:Facts→T),vT G Q R (X0 fs b x y)→Bran G Q R fs.n b x y
 | .lit true,fs,x,y,h=>.inl ⟨rfl,fs,rfl,h⟩
 | .lit false,fs,x,y,h=>.inr ⟨rfl,fs,rfl,h⟩
 | .not b,fs,x,y,h=>by
  simp only [X0] at h;rcases T0 b fs y x h with ⟨h1,h2⟩ | ⟨h1,h2⟩
  ·exact .inr ⟨by simp [vB,h1],h2⟩
  ·exact .inl ⟨by simp [vB,h1],h2⟩
 | .and a b,fs,x,y,h=>by
  simp only [X0] at h;rcases T0 a fs _ _ h with ⟨h1,fs1,e1,h2⟩ | ⟨h1,h2⟩
  ·rcases T0 b fs1 _ _ h2 with ⟨h3,h4⟩ | ⟨h3,h4⟩
   ·rw [e1] at h4;exact .inl ⟨by simp [vB,h1,h3],h4⟩
   ·rw [e1] at h4;exact .inr ⟨by simp [vB,h1,h3],h4⟩
  ·exact .inr ⟨by simp [vB,h1],h2⟩
 | .eqB a b,fs,x,y,h=>by
  simp only [X0] at h;rcases T0 a fs _ _ h with ⟨h1,fs1,e1,h2⟩ | ⟨h1,fs1,e1,h2⟩
  ·rcases T0 b fs1 _ _ h2 with ⟨h3,h4⟩ | ⟨h3,h4⟩
   ·rw [e1] at h4;exact .inl ⟨by simp [vB,h1,h3],h4⟩
   ·rw [e1] at h4;exact .inr ⟨by simp [vB,h1,h3],h4⟩
  ·rcases T0 b fs1 _ _ h2 with ⟨h3,h4⟩ | ⟨h3,h4⟩
   ·rw [e1] at h4;exact .inr ⟨by simp [vB,h1,h3],h4⟩
   ·rw [e1] at h4;exact .inl ⟨by simp [vB,h1,h3],h4⟩
 | .var ..,fs,x,y,h=>N1 h
 | .cmp ..,fs,x,y,h=>N1 h
 | .eqS ..,fs,x,y,h=>N1 h
 | .isI ..,fs,x,y,h=>N1 h
 | .isB ..,fs,x,y,h=>N1 h
 | .isT ..,fs,x,y,h=>N1 h
 | .isR ..,fs,x,y,h=>N1 h
 | .get ..,fs,x,y,h=>N1 h
 | .leN ..,fs,x,y,h=>N1 h
 | .eqN ..,fs,x,y,h=>N1 h
 | .leaf ..,fs,x,y,h=>N1 h
 | .u8s ..,fs,x,y,h=>N1 h
 | .cells ..,fs,x,y,h=>N1 h
 | .isF ..,fs,x,y,h=>N1 h
 | .isP ..,fs,x,y,h=>N1 h
 | .isNil ..,fs,x,y,h=>N1 h
 | .rows ..,fs,x,y,h=>N1 h
 | .uf ..,fs,x,y,h=>N1 h
theorem Hw {o:Option (EB×EV)} {k:EV→T} (h:vT G Q R (Vb o k)):∃ c v,o=some (c,v)∧vB G c=true∧vT G Q R (k v):=by
 unfold Vb at h;split at h
 ·rename_i c v;obtain ⟨h1,h2⟩:=T1 c h;exact ⟨c,v,rfl,h1,h2⟩
 ·exact h.elim
end
def Ds (G:Nat→List AV) (P:EV→List DHop→Prop):Outs→Prop
 | .one v hs=>P v hs
 | .chk b x=>vB G b=true→Ds G P x
 | .tst b x y=>(vB G b=true→Ds G P x)∧(vB G b=false→Ds G P y)
 | .namI e f=>∀ j,Ds G P (f (.var j (vI G e)))
 | .namN e f=>∀ j,Ds G P (f (.var j (vN G e)))
 | .namB e f=>∀ j,Ds G P (f (.var j (vB G e)))
 | .namL e f=>∀ j,Ds G P (f (.var j (vL G e)))
theorem W1 {Q:Ex→List AV→Hp→Prop} {R:AV→Hp→Prop} {P:EV→List DHop→Prop} {k:Facts→EV→List DHop→T}:∀ (o:Outs) (fs:Facts),vT G Q R (An fs o k)→Ds G P o→∃ fs' v hs,P v hs∧vT G Q R (k fs' v hs)
 | .one v hs,fs,h,ho=>⟨fs,v,hs,ho,h⟩
 | .chk b x,fs,h,ho=>by
  simp only [An] at h;obtain ⟨h1,h2⟩:=T1 b h;exact W1 x fs h2 (ho h1)
 | .tst b x y,fs,h,ho=>by
  simp only [An] at h;rcases T0 b fs _ _ h with ⟨h1,fs1,_,h2⟩ | ⟨h1,fs1,_,h2⟩
  ·exact W1 x fs1 h2 (ho.1 h1)
  ·exact W1 y fs1 h2 (ho.2 h1)
 | .namI e f,fs,h,ho=>W1 (f (.var fs.n (vI G e))) (fresh fs) (h _ rfl) (ho _)
 | .namN e f,fs,h,ho=>W1 (f (.var fs.n (vN G e))) (fresh fs) (h _ rfl) (ho _)
 | .namB e f,fs,h,ho=>W1 (f (.var fs.n (vB G e))) (fresh fs) (h _ rfl) (ho _)
 | .namL e f,fs,h,ho=>W1 (f (.var fs.n (vL G e))) (fresh fs) (h _ rfl) (ho _)
def I0 (G:Nat→List AV) (Q:Ex→DFr→DHp→Prop):Nat→LOut→Prop
 | _,.one e F H=>Q e F H
 | n,.chk b x=>vB G b=true∧I0 G Q n x
 | n,.tst b x y=>(vB G b=true→I0 G Q n x)∧(vB G b=false→I0 G Q n y)
 | n,.imp b x=>vB G b=true→I0 G Q n x
 | n,.allI f=>∀ x,I0 G Q (n+1) (f (.var n x))
 | n,.allN f=>∀ x,I0 G Q (n+1) (f (.var n x))
 | n,.allB f=>∀ x,I0 G Q (n+1) (f (.var n x))
 | n,.allL f=>∀ x,I0 G Q (n+1) (f (.var n x))
 | n,.namI e f=>I0 G Q (n+1) (f (.var n (vI G e)))
 | n,.namN e f=>I0 G Q (n+1) (f (.var n (vN G e)))
 | n,.namB e f=>I0 G Q (n+1) (f (.var n (vB G e)))
 | n,.namL e f=>I0 G Q (n+1) (f (.var n (vL G e)))
theorem M1 {Q:Ex→List AV→Hp→Prop} {R:AV→Hp→Prop} {k:Facts→Ex→DFr→DHp→T}:∀ (o:LOut) (fs:Facts),vT G Q R (T9 fs o k)→I0 G (fun e F H=>∃ fs',vT G Q R (k fs' e F H)) fs.n o
 | .one e F H,fs,h=>⟨fs,h⟩
 | .chk b x,fs,h=>by
  simp only [T9] at h;obtain ⟨h1,h2⟩:=T1 b h;exact ⟨h1,M1 x fs h2⟩
 | .tst b x y,fs,h=>by
  simp only [T9] at h;rcases T0 b fs _ _ h with ⟨h1,fs1,e1,h2⟩ | ⟨h1,fs1,e1,h2⟩
  ·have:=M1 x fs1 h2
   rw [e1] at this;exact ⟨fun _=>this,fun hb=>by rw [h1] at hb;simp at hb⟩
  ·have:=M1 y fs1 h2
   rw [e1] at this;exact ⟨fun hb=>by rw [h1] at hb;simp at hb,fun _=>this⟩
 | .imp b x,fs,h=>fun hb=>M1 x (Fo fs b true) (h hb)
 | .allI f,fs,h=>fun x=>M1 (f (.var fs.n x)) (fresh fs) (h x)
 | .allN f,fs,h=>fun x=>M1 (f (.var fs.n x)) (fresh fs) (h x)
 | .allB f,fs,h=>fun x=>M1 (f (.var fs.n x)) (fresh fs) (h x)
 | .allL f,fs,h=>fun x=>M1 (f (.var fs.n x)) (fresh fs) (h x)
 | .namI e f,fs,h=>M1 (f (.var fs.n _)) (fresh fs) (h _ rfl)
 | .namN e f,fs,h=>M1 (f (.var fs.n _)) (fresh fs) (h _ rfl)
 | .namB e f,fs,h=>M1 (f (.var fs.n _)) (fresh fs) (h _ rfl)
 | .namL e f,fs,h=>M1 (f (.var fs.n _)) (fresh fs) (h _ rfl)
def E0 (C:A2) (f:FuncId) (args:List EV) (H:DHp) (v:EV) (hs:List DHop):Prop:=
 ACalls C f (vVs C.G args) (B8 C.G H) fun v' H'=>v'=vV C.G v∧H'=acts (B8 C.G H) (hs.map (I1 C.G))
def DYld (C:A2) (i:Nat) (args:List EV) (H:DHp) (v:EV) (hs:List DHop):Prop:=
 AYld C i (vVs C.G args) (B8 C.G H) fun v' H'=>v'=vV C.G v∧H'=acts (B8 C.G H) (hs.map (I1 C.G))
structure DGood (C:A2) (K:DCfg) (lps:List Code):Prop where
 hP:K.P=C.P
 mix:C.P.follows .mixedOrders=true
 calls:∀ f args H o,K.sum f args H=some o→Ds C.G (E0 C f args H) o
 loops:∀ m c F H o,m≤K.M→c∈lps→K.loop c F H=some o→∀ n (Q:Post),I0 C.G (fun e F' H'=>Q e (vVs C.G F') (B8 C.G H')) n o→AWp C m (.loop c) (vVs C.G F) (B8 C.G H) Q
 inl:∀ f fn c,K.inl f=true→C.P.funcs[f]?=some fn→fn.body=some c→∀ b∈loopsOf c,b∈lps
 rngs:∀ m c F H o,m≤K.M→c∈lps→K.rng c F H=some o→∀ n (Q:Post),I0 C.G (fun e F' H'=>Q e (vVs C.G F') (B8 C.G H')) n o→AWp C m c (vVs C.G F) (B8 C.G H) Q
 ylds:∀ i args H o,K.ysum i args H=some o→Ds C.G (DYld C i args H) o
def K0 (C:A2):Cfg:={ C:=C,inl:=fun _=>false,strict:=.lazy,unr:=false,sum:=fun _ _ _=>none,loop:=fun _ _ _=>none,M:=0 }
theorem Lt {C:A2} (h:C.P.follows .mixedOrders=true) (lps:List Code):Ei (K0 C) lps:=⟨h,fun f args H v hs h=>by simp [K0] at h,fun m c F H e F' H' _ _ h=>by simp [K0] at h⟩
noncomputable def qM (G:Nat→List AV):DTrK→TrK
 | .still=>.still
 | .read r=>.read (vR G r)
 | .write=>.write
noncomputable def Yx (G:Nat→List AV) (t:Wv):Tr:=⟨qM G t.kd,t.len,t.hs.map (I1 G)⟩
noncomputable def vWk (G:Nat→List AV):DWk→Wk
 | .code c=>.code c
 | .ops all l=>.ops all l
 | .dr all l trs=>.dr all l (trs.map (Yx G))
theorem cE (i:Nat):∀ (hs:List DHop) (len:Nat),Fj i len (hs.map (I1 G))=Kv i len hs
 | [],_=>rfl
 | h::hs,len=>by cases h<;>simp only [List.map_cons,I1,Fj,Kv,cE i hs]
theorem Za (r:ER) (hs:List DHop) (len:Nat) (h:Ku r len hs=false):Hy (vR G r) len (hs.map (I1 G))=false:=by
 cases r with
 | rw i=>simp only [Ku] at h;simp only [vR,Hy,cE,h]
 | ro n=>simp only [vR,Hy]
 | fm b c k=>simp [Ku] at h
theorem qC (x y:Wv) (h:Yq x y=true):Y9 (Yx G x) (Yx G y)=true:=by
 obtain ⟨kx,lx,hx⟩:=x;obtain ⟨ky,ly,hy⟩:=y;cases kx<;>cases ky<;>simp only [Yx,qM,Y9,Yq] at h ⊢
 ·rw [Za _ _ _ (by simpa using h)];rfl
 ·rw [Za _ _ _ (by simpa using h)];rfl
 ·cases h
theorem pR (all:List Oper) (trs:List Wv) (h:Yk all trs=true):S4 all (trs.map (Yx G))=true:=by
 unfold Yk at h;unfold S4;simp only [Bool.and_eq_true,List.all_eq_true,Bool.or_eq_true] at h ⊢;refine ⟨h.1,fun j hj i hi=>?_⟩;rcases h.2 j hj i hi with h1 | h1
 ·exact .inl h1
 ·refine .inr ?_;simp only [List.getElem?_map]
  revert h1
  cases all[i]?<;>cases all[j]?<;>cases trs[i]?<;>cases trs[j]?<;>simp;intro g1 g2;exact ⟨g1,qC _ _ g2⟩
theorem Io:∀ (H':DHp) (p:Bool) (i:Nat) (hs:List DHop),Y7 p i H'=some hs→S8 p i (B8 G H')=some (hs.map (I1 G))
 | [],false,i,hs,h=>by simp [Y7] at h;subst h;rfl
 | [],true,i,hs,h=>by simp [Y7] at h
 | some b::H',false,i,hs,h=>by
  simp only [Y7] at h;split at h
  ·rename_i hs' h1;simp at h;subst h
   have:=Io H' false (i+1) hs' h1
   simp only [B8] at this;simp only [B8,List.map_cons,Option.map_some,S8,this,I1]
  ·simp at h
 | some b::H',true,i,hs,h=>by
  simp only [Y7] at h;split at h
  ·rename_i hs' h1;simp at h;subst h
   have:=Io H' false (i+1) hs' h1
   simp only [B8] at this;simp only [B8,List.map_cons,Option.map_some,S8,this,I1]
  ·simp at h
 | none::H',false,i,hs,h=>by
  simp only [Y7] at h;split at h
  ·rename_i hs' h1;simp at h;subst h
   have:=Io H' true (i+1) hs' h1
   simp only [B8] at this;simp only [B8,List.map_cons,Option.map_none,S8,this,I1,C8,vL,vVs]
  ·simp at h
 | none::H',true,i,hs,h=>by
  simp only [Y7] at h;split at h
  ·rename_i hs' h1;simp at h;subst h
   have:=Io H' true (i+1) hs' h1
   simp only [B8] at this;simp only [B8,List.map_cons,Option.map_none,S8,this,I1,C8,vL,vVs]
  ·simp at h
theorem Yl:∀ (H H':DHp) (i:Nat) (hs:List DHop),Fq i H H'=some hs→V9 false i (B8 G H) (B8 G H')=some (hs.map (I1 G))
 | [],H',i,hs,h=>by
  simp only [Fq] at h
  have:=Io (G:=G) H' false i hs h
  simp only [B8,List.map_nil,V9] at this ⊢;exact this
 | x::H,some b::H',i,hs,h=>by
  cases x<;>simp only [Fq] at h
  all_goals
   split at h
   ·rename_i hs' h1;simp at h;subst h
    have:=Yl H H' (i+1) hs' h1
    simp only [B8] at this;simp only [B8,List.map_cons,Option.map_some,Option.map_none,V9,Bool.false_and,this,I1]
   ·simp at h
 | none::H,none::H',i,hs,h=>by
  simp only [Fq] at h
  have:=Yl H H' (i+1) hs h
  simp only [B8] at this;simp only [B8,List.map_cons,Option.map_none,V9,this]
 | some _::H,none::H',i,hs,h=>by simp [Fq] at h
 | some _::H,[],i,hs,h=>by simp [Fq] at h
 | none::H,[],i,hs,h=>by simp [Fq] at h
theorem Tn (fn:Func) (args:List EV):vVs G (Gg fn args)=J1 fn (vVs G args):=by
 unfold Gg J1;rw [Me,Q3];congr 1;rw [M2,List.map_replicate];simp only [vV,vVs]
theorem W4 (F:DFr) (d:Option Tmp) (v:EV):vVs G (J0 F d v)=put (vVs G F) d (vV G v):=by
 cases d<;>simp only [J0,Mi,put,gY]
theorem Zi {K:DCfg} {r1 r2:Code→Bool} (h:∀ c,r1 c=true→r2 c=true):∀ c,N0 K r1 c=true→N0 K r2 c=true:=by
 have op:∀ o,Z7 K r1 o=true→Z7 K r2 o=true:=fun o ho=>by
  unfold Z7 at ho ⊢
  split at ho<;>first
   | rfl
   | (simp at ho;done)
   | skip
  split at ho
  ·rename_i g _ _;obtain ⟨h1,h2⟩:=L9 ho;rw [h1];simp only [Bool.true_and];split at h2
   ·split at h2
    ·exact h _ h2
    ·rfl
   ·rfl
  ·simp at ho
 intro c
 induction c with
 | region id ops d=>simp only [N0,List.all_eq_true];exact fun h o ho=>op o (h o ho)
 | seq a b iha ihb=>simp only [N0,Bool.and_eq_true];exact fun h=>⟨iha h.1,ihb h.2⟩
 | cond x a b iha ihb=>simp only [N0,Bool.and_eq_true];exact fun h=>⟨iha h.1,ihb h.2⟩
 | block id c ih=>exact ih
 | scope c ih=>exact ih
 | _=>intro h;simp_all [N0]
theorem Sf {K:DCfg}:∀ d c,L8 K d c=true→L8 K (d+1) c=true
 | 0,c,h=>by simp [L8] at h
 | d+1,c,h=>Zi (Sf d) c h
def F5 (H:DHp):T→Prop
 | .fail=>True
 | .chk _ t=>F5 H t
 | .tst _ x y=>F5 H x∧F5 H y
 | .imp _ t=>F5 H t
 | .allI _ k=>∀ x,F5 H (k x)
 | .allN _ k=>∀ x,F5 H (k x)
 | .allB _ k=>∀ x,F5 H (k x)
 | .allL _ k=>∀ x,F5 H (k x)
 | .namI _ _ k=>∀ x,F5 H (k x)
 | .namN _ _ k=>∀ x,F5 H (k x)
 | .namB _ _ k=>∀ x,F5 H (k x)
 | .namL _ _ k=>∀ x,F5 H (k x)
 | .leaf ..=>True
 | .ret _ H'=>H'=H
theorem Db {H:DHp}:∀ (b:EB) {t:T},F5 H t→F5 H (Bs b t)
 | .lit true,t,h=>h
 | .lit false,t,h=>trivial
 | .and a b,t,h=>by simp only [Bs];exact Db a (Db b h)
 | .var ..,t,h=>h
 | .cmp ..,t,h=>h
 | .not ..,t,h=>h
 | .eqB ..,t,h=>h
 | .eqS ..,t,h=>h
 | .isI ..,t,h=>h
 | .isB ..,t,h=>h
 | .isT ..,t,h=>h
 | .isR ..,t,h=>h
 | .get ..,t,h=>h
 | .leN ..,t,h=>h
 | .eqN ..,t,h=>h
 | .leaf ..,t,h=>h
 | .u8s ..,t,h=>h
 | .cells ..,t,h=>h
 | .isF ..,t,h=>h
 | .isP ..,t,h=>h
 | .isNil ..,t,h=>h
 | .rows ..,t,h=>h
 | .uf ..,t,h=>h
theorem N2 {H:DHp} {fs:Facts} {b:EB} {x y:Facts→T} (hx:∀ fs,F5 H (x fs)) (hy:∀ fs,F5 H (y fs)) :
  F5 H (match dec fs b with | some true=>.chk b (x fs) | some false=>.chk (.not b) (y fs) | none=>.tst b (x (Fo fs b true)) (y (Fo fs b false))):=by
 split
 ·exact hx _
 ·exact hy _
 ·exact ⟨hx _,hy _⟩
theorem Z2 {H:DHp}:∀ (b:EB) (fs:Facts) (x y:Facts→T),(∀ fs,F5 H (x fs))→(∀ fs,F5 H (y fs))→F5 H (X0 fs b x y)
 | .lit true,fs,x,y,hx,hy=>hx _
 | .lit false,fs,x,y,hx,hy=>hy _
 | .not b,fs,x,y,hx,hy=>by simp only [X0];exact Z2 b fs y x hy hx
 | .and a b,fs,x,y,hx,hy=>by simp only [X0];exact Z2 a fs _ _ (fun fs=>Z2 b fs x y hx hy) hy
 | .eqB a b,fs,x,y,hx,hy=>by simp only [X0];exact Z2 a fs _ _ (fun fs=>Z2 b fs x y hx hy) (fun fs=>Z2 b fs y x hy hx)
 | .var ..,fs,x,y,hx,hy=>N2 hx hy
 | .cmp ..,fs,x,y,hx,hy=>N2 hx hy
 | .eqS ..,fs,x,y,hx,hy=>N2 hx hy
 | .isI ..,fs,x,y,hx,hy=>N2 hx hy
 | .isB ..,fs,x,y,hx,hy=>N2 hx hy
 | .isT ..,fs,x,y,hx,hy=>N2 hx hy
 | .isR ..,fs,x,y,hx,hy=>N2 hx hy
 | .get ..,fs,x,y,hx,hy=>N2 hx hy
 | .leN ..,fs,x,y,hx,hy=>N2 hx hy
 | .eqN ..,fs,x,y,hx,hy=>N2 hx hy
 | .leaf ..,fs,x,y,hx,hy=>N2 hx hy
 | .u8s ..,fs,x,y,hx,hy=>N2 hx hy
 | .cells ..,fs,x,y,hx,hy=>N2 hx hy
 | .isF ..,fs,x,y,hx,hy=>N2 hx hy
 | .isP ..,fs,x,y,hx,hy=>N2 hx hy
 | .isNil ..,fs,x,y,hx,hy=>N2 hx hy
 | .rows ..,fs,x,y,hx,hy=>N2 hx hy
 | .uf ..,fs,x,y,hx,hy=>N2 hx hy
theorem jB {H:DHp} {fs:Facts} {o:EB×FamR} {k:Facts→EV→T} (h:∀ fs v,F5 H (k fs v)):F5 H (Ye fs o k):=by
 obtain ⟨c0,x⟩:=o;cases x with
 | val c v=>exact Db c0 (Db c (h _ _))
 | ptr n c v=>exact Db c0 (Z2 n fs _ _ (fun fs=>h _ _) (fun fs=>Db c (h _ _)))
theorem Lr {H:DHp} {o:Option (EB×EV)} {k:EV→T} (h:∀ v,F5 H (k v)):F5 H (Vb o k):=by
 unfold Vb;split
 ·exact Db _ (h _)
 ·trivial
def Vc:Outs→Prop
 | .one _ hs=>hs=[]
 | .chk _ x=>Vc x
 | .tst _ x y=>Vc x∧Vc y
 | .namI _ f=>∀ x,Vc (f x)
 | .namN _ f=>∀ x,Vc (f x)
 | .namB _ f=>∀ x,Vc (f x)
 | .namL _ f=>∀ x,Vc (f x)
theorem Da {H:DHp} {k:Facts→EV→List DHop→T} (hk:∀ fs v,F5 H (k fs v [])):∀ (o:Outs) (fs:Facts),Vc o→F5 H (An fs o k)
 | .one v hs,fs,ho=>by have:hs=[]:=ho;subst this;exact hk _ _
 | .chk b x,fs,ho=>Db b (Da hk x fs ho)
 | .tst b x y,fs,ho=>Z2 b fs _ _ (fun fs=>Da hk x fs ho.1) (fun fs=>Da hk y fs ho.2)
 | .namI e f,fs,ho=>fun x=>Da hk _ _ (ho _)
 | .namN e f,fs,ho=>fun x=>Da hk _ _ (ho _)
 | .namB e f,fs,ho=>fun x=>Da hk _ _ (ho _)
 | .namL e f,fs,ho=>fun x=>Da hk _ _ (ho _)
theorem Qz {H:DHp}:∀ (t:T) (o:Outs),G0 true H t=some o→Vc o
 | .ret v H',o,h=>by simp [G0] at h;subst h;rfl
 | .chk b t,o,h=>by
  simp only [G0] at h;split at h
  ·rename_i o' h1;simp at h;subst h;exact Qz t o' h1
  ·simp at h
 | .tst b x y,o,h=>by
  simp only [G0] at h;split at h
  ·rename_i o1 o2 h1 h2;simp at h;subst h;exact ⟨Qz x o1 h1,Qz y o2 h2⟩
  ·simp at h
 | .fail,o,h=>by simp [G0] at h
 | .allI ..,o,h=>by simp [G0] at h
 | .allN ..,o,h=>by simp [G0] at h
 | .allB ..,o,h=>by simp [G0] at h
 | .allL ..,o,h=>by simp [G0] at h
 | .leaf ..,o,h=>by simp [G0] at h
 | .imp ..,o,h=>by simp [G0] at h
 | .namI ..,o,h=>by simp [G0] at h
 | .namN ..,o,h=>by simp [G0] at h
 | .namB ..,o,h=>by simp [G0] at h
 | .namL ..,o,h=>by simp [G0] at h
def bB (K:DCfg):DWk→Bool
 | .code c=>L8 K 20 c
 | .ops _ l=>l.all (Z7 K (L8 K 20))
 | .dr _ l _=>l.all (Z7 K (L8 K 20))
theorem Zh {K:DCfg} {o:Oper} {F:DFr} {f:FuncId} {args:List EV} (hk:kdOf K.P o.op=.call) (hr:Z7 K (L8 K 20) o=true) (hc:Rz F o.op=some (f,args)) :
  K.inl f=true∧∀ fn c,K.P.funcs[f]?=some fn→fn.body=some c→L8 K 20 c=true:=by
 unfold Z7 at hr;rw [hk] at hr;simp only at hr;split at hr
 ·rename_i g args' ts hop;rw [hop] at hc;simp only [Rz,evD,Option.some.injEq,Prod.mk.injEq] at hc;obtain ⟨rfl,_⟩:=hc;obtain ⟨h1,h2⟩:=L9 hr;refine ⟨h1,fun fn c hf hb=>?_⟩;rw [hf] at h2;simp only [hb] at h2;exact h2
 ·simp at hr
theorem cS {K:DCfg} {o:Oper} {F:DFr} {i:Nat} {args:List EV} (hk:kdOf K.P o.op=.call) (hr:Z7 K (L8 K 20) o=true) (hc:Wz F o.op=some (i,args)):False:=by
 unfold Z7 at hr;rw [hk] at hr;simp only at hr;split at hr
 ·rename_i g args' ts hop;rw [hop] at hc;simp [Wz,evD] at hc
 ·simp at hr
theorem dx_ro {K:DCfg}:∀ n m wk F H fs q,bB K wk=true→(∀ e F fs,F5 H (q e F H fs))→F5 H (dx K n m wk F H fs q):=by
  intro n
  induction n with
  | zero => intro m wk F H fs q _ _; trivial
  | succ n ih=>
    intro m wk F H fs q hr hq
    have guard:∀ {all:List Oper} {g:Option (Nat×Bool)} {go skip:DFr→Facts→T},(∀ F fs,F5 H (go F fs))→(∀ F fs,F5 H (skip F fs))→F5 H (Ls fs all g F go skip):=by
      intro all g go skip h1 h2;unfold Ls;split
      · exact h1 _ _
      · split
        · split
          · refine Z2 _ _ _ _ (fun fs=>?_) (fun fs=>?_)<;>split<;>first | exact h1 _ _ | exact h2 _ _
          · exact h2 _ _
          · trivial
        · trivial
    cases wk with
    | ops all l=>
      show F5 H (Hz K (dx K n) m all l F H fs q);cases l with
      | nil=>exact hq _ _ _
      | cons o l=>
        obtain ⟨dst,op,ty,pos,after,g⟩:=o;simp only [bB,List.all_cons,Bool.and_eq_true] at hr;obtain ⟨ho,hl⟩:=hr;simp only [Hz];refine guard (fun F fs=>?_) (fun F fs=>ih _ _ _ _ _ _ hl hq);unfold Xe;split
        · exact Lr fun v=>ih _ (.ops all l) _ _ _ _ hl hq
        · split
          · exact jB fun fs v=>ih _ (.ops all l) _ _ _ _ hl hq
          · exact Lr fun v=>ih _ (.ops all l) _ _ _ _ hl hq
        · rename_i hk;simp [Z7,hk] at ho
        · rename_i hk;split
          · rename_i f args hc;obtain ⟨hi,hb⟩:=Zh hk ho hc;rw [hi];simp only;split
            · rename_i fn hf;split
              · rename_i c hbody;split
                · trivial
                · refine ih _ (.code c) _ _ _ _ (hb fn c hf hbody) fun e F fs=>?_;unfold On;split
                  · trivial
                  · exact Lr fun v=>ih _ _ _ _ _ _ hl hq
              · trivial
            · trivial
          · split
            · rename_i i args hy;exact (cS hk ho hy).elim
            · trivial
    | dr all l trs=>
      show F5 H (Em K (dx K n) m all l trs F H fs q);cases l with
      | nil=>
        simp only [Em];split
        · exact hq _ _ _
        · trivial
      | cons o l=>
        obtain ⟨dst,op,ty,pos,after,g⟩:=o;simp only [bB,List.all_cons,Bool.and_eq_true] at hr;obtain ⟨ho,hl⟩:=hr;simp only [Em];refine guard (fun F fs=>?_) (fun F fs=>ih _ (.dr all l _) _ _ _ _ hl hq);unfold Oh;split
        · exact Lr fun v=>ih _ (.dr all l _) _ _ _ _ hl hq
        · split
          · exact jB fun fs v=>ih _ (.dr all l _) _ _ _ _ hl hq
          · exact Lr fun v=>ih _ (.dr all l _) _ _ _ _ hl hq
        · rename_i hk;simp [Z7,hk] at ho
        · rename_i hk;split
          · rename_i f args hc;obtain ⟨hi,hb⟩:=Zh hk ho hc;rw [hi];simp only;split
            · rename_i fn hf;split
              · rename_i c hbody;split
                · trivial
                · split
                  · rename_i o' ho';rw [hb fn c hf hbody] at ho';exact Da (fun fs v=>ih _ (.dr all l _) _ _ _ _ hl hq) o' fs (Qz _ _ ho')
                  · trivial
              · trivial
            · trivial
          · split
            · rename_i i args hy;exact (cS hk ho hy).elim
            · trivial
    | code c=>
      have sub:∀ {c':Code},N0 K (L8 K 19) c'=true→bB K (.code c')=true:=fun h=>h;show F5 H (T5 K (dx K n) m c F H fs q);have hr:N0 K (L8 K 19) c=true:=hr
      have opsOk:∀ {l:List Oper},l.all (Z7 K (L8 K 19))=true→l.all (Z7 K (L8 K 20))=true:=fun {l} h=>by
        have:=Zi (K:=K) (r1:=L8 K 19) (r2:=L8 K 20) (fun c=>Sf 19 c) (.region 0 l.toArray false) (by simpa [N0] using h)
        simpa [N0] using this
      cases c with
      | skip=>exact hq _ _ _
      | region id ops draw=>
        simp only [N0] at hr;cases draw with
        | true=>exact ih _ (.dr _ _ _) _ _ _ _ (opsOk hr) hq
        | false=>exact ih _ (.ops _ _) _ _ _ _ (opsOk hr) hq
      | seq a b=>
        simp only [N0,Bool.and_eq_true] at hr;refine ih _ (.code a) _ _ _ _ (sub hr.1) fun e F fs=>?_;unfold aY;split
        · exact ih _ (.code b) _ _ _ _ (sub hr.2) hq
        · exact hq _ _ _
      | cond x a b=>
        simp only [N0,Bool.and_eq_true] at hr;obtain ⟨ra,rb⟩:=hr;simp only [T5,Jb];split
        · split
          · exact Z2 _ _ _ _ (fun fs=>ih _ (.code a) _ _ _ _ (sub ra) hq) (fun fs=>ih _ (.code b) _ _ _ _ (sub rb) hq)
          · trivial
        · split
          · exact ih _ (.code a) _ _ _ _ (sub ra) hq
          · exact ih _ (.code b) _ _ _ _ (sub rb) hq
        · trivial
      | block id c=>
        refine ih _ (.code c) _ _ _ _ (sub hr) fun e F fs=>?_;unfold Wp;split
        · split
          · exact hq _ _ _
          · exact hq _ _ _
        · exact hq _ _ _
      | loop c=>simp [N0] at hr
      | exit i=>exact hq _ _ _
      | scope c=>exact ih _ (.code c) _ _ _ _ (sub hr) hq
      | label i=>exact hq _ _ _
      | ret=>exact hq _ _ _
      | _=>simp [N0] at hr
theorem Ra {C:A2} {f:FuncId} {args:List EV} {H:DHp} {ro:Bool}:∀ (t:T) (o:Outs),G0 ro H t=some o→(ro=true→F5 H t)→
  (∀ R:AV→Hp→Prop,vT C.G (fun _ _ _=>False) R t→ACalls C f (vVs C.G args) (B8 C.G H) R)→Ds C.G (E0 C f args H) o
 | .ret v H',o,h,hro,hc=>by
  simp only [G0] at h;split at h
  ·simp at h;subst h
   have:=hro rfl
   simp only [F5] at this;subst this;exact hc _ ⟨rfl,rfl⟩
  ·split at h
   ·rename_i hs hd;simp at h;subst h;have e:=Gk 0 [] _ _ _ rfl (Yl (G:=C.G) _ _ _ _ hd);simp only [List.nil_append] at e;exact hc _ ⟨rfl,e.symm⟩
   ·simp at h
 | .chk b t,o,h,hro,hc=>by
  simp only [G0] at h;split at h
  ·rename_i o' h1;simp at h;subst h;exact fun hb=>Ra t o' h1 hro fun R hR=>hc R ⟨hb,hR⟩
  ·simp at h
 | .tst b x y,o,h,hro,hc=>by
  simp only [G0] at h;split at h
  ·rename_i o1 o2 h1 h2;simp at h;subst h
   exact ⟨fun hb=>Ra x o1 h1 (fun hr=>(hro hr).1) fun R hR=>hc R ⟨fun _=>hR,fun hb'=>by rw [hb] at hb';simp at hb'⟩,
    fun hb=>Ra y o2 h2 (fun hr=>(hro hr).2) fun R hR=>hc R ⟨fun hb'=>by rw [hb] at hb';simp at hb',fun _=>hR⟩⟩
  ·simp at h
 | .fail,o,h,_,_=>by simp [G0] at h
 | .allI ..,o,h,_,_=>by simp [G0] at h
 | .allN ..,o,h,_,_=>by simp [G0] at h
 | .allB ..,o,h,_,_=>by simp [G0] at h
 | .allL ..,o,h,_,_=>by simp [G0] at h
 | .leaf ..,o,h,_,_=>by simp [G0] at h
 | .imp ..,o,h,_,_=>by simp [G0] at h
 | .namI ..,o,h,_,_=>by simp [G0] at h
 | .namN ..,o,h,_,_=>by simp [G0] at h
 | .namB ..,o,h,_,_=>by simp [G0] at h
 | .namL ..,o,h,_,_=>by simp [G0] at h
theorem jI {C:A2} {K:DCfg} {Q:Ex→List AV→Hp→Prop} {R:AV→Hp→Prop} (hG:C.G=C.G) {F:DFr} {H:DHp} {op:Op} {o:EB×FamR} {fs:Facts} {k:Facts→EV→T} (ho:fH K.fam C.P F H op=some o) (h:vT C.G Q R (Ye fs o k)) :
  ∃ fs2 v,J4 C (vVs C.G F) (B8 C.G H) op=some (true,vV C.G v)∧vT C.G Q R (k fs2 v):=by
 obtain ⟨c0,x⟩:=o;cases x with
 | val c v=>
  simp only [Ye] at h;obtain ⟨h0,h⟩:=T1 c0 h;obtain ⟨h1,h⟩:=T1 c h;exact ⟨fs,v,pN hG ho h0 h1,h⟩
 | ptr n c v=>
  simp only [Ye] at h;obtain ⟨h0,h⟩:=T1 c0 h;have hw:=pN hG ho h0;rcases T0 n fs _ _ h with ⟨h1,fs1,_,h2⟩ | ⟨h1,fs1,_,h2⟩
  ·exact ⟨fs1,.nilp,by rw [hw.1 h1];simp only [vV],h2⟩
  ·obtain ⟨h3,h4⟩:=T1 c h2;exact ⟨fs1,v,hw.2 h3,h4⟩
theorem xD {F:DFr} {op:Op}:Ic (vVs G F) op=(Qs F op).map (vR G):=by
 unfold Ic Qs;cases op<;>simp only [Option.map_none]
 ·simp only [←vV_evD];generalize evD F _=x;cases x<;>simp only [vV,Option.map_some,Option.map_none]
 ·simp only [←vV_evD];generalize evD F _=x;cases x<;>simp only [vV,Option.map_some,Option.map_none]
theorem H8 {P P':Ex→DFr→DHp→Prop} (hp:∀ e F H,P e F H→P' e F H):∀ (o:LOut) (n:Nat),I0 G P n o→I0 G P' n o
 | .one e F H,n,h=>hp _ _ _ h
 | .chk b x,n,h=>⟨h.1,H8 hp x n h.2⟩
 | .tst b x y,n,h=>⟨fun hb=>H8 hp x n (h.1 hb),fun hb=>H8 hp y n (h.2 hb)⟩
 | .imp b x,n,h=>fun hb=>H8 hp x n (h hb)
 | .allI f,n,h=>fun x=>H8 hp (f (.var n x)) (n+1) (h x)
 | .allN f,n,h=>fun x=>H8 hp (f (.var n x)) (n+1) (h x)
 | .allB f,n,h=>fun x=>H8 hp (f (.var n x)) (n+1) (h x)
 | .allL f,n,h=>fun x=>H8 hp (f (.var n x)) (n+1) (h x)
 | .namI e f,n,h=>H8 hp (f (.var n _)) (n+1) h
 | .namN e f,n,h=>H8 hp (f (.var n _)) (n+1) h
 | .namB e f,n,h=>H8 hp (f (.var n _)) (n+1) h
 | .namL e f,n,h=>H8 hp (f (.var n _)) (n+1) h
def LpD (K:DCfg) (lps:List Code) (wk:DWk):Prop:=
 match wk with
 | .code c=>∀ b∈loopsOf c,b∈lps
 | _=>True
theorem eN {Q:Ex→List AV→Hp→Prop} {R:AV→Hp→Prop} {fs:Facts} {all:List Oper} {g:Option (Nat×Bool)} {F:DFr} {go skip:DFr→Facts→T} (h:vT G Q R (Ls fs all g F go skip)) :
  ∃ F' fs',vVs G F'=vVs G F∧F'.length=F.length∧((wantA all g (vVs G F)=some true∧vT G Q R (go F' fs'))∨(wantA all g (vVs G F)=some false∧vT G Q R (skip F' fs'))):=by
 unfold Ls at h;unfold wantA;split at h
 ·exact ⟨F,fs,rfl,rfl,.inl ⟨rfl,h⟩⟩
 ·rename_i j want;simp only;split at h
  ·rename_i t ht;simp only [ht,U3];rw [Cn] at h;split at h
   ·rename_i b hb
    have hv:∀ x:Bool,vB G b=x→vVs G (J0 F (some t) (.bool (.lit x)))=vVs G F:=fun x hx=>by
     rw [W4];simp only [put,vV,vB];refine R6 ?_ (by simp);rw [U3,hb];simp only [vV,hx]
    rw [hb];simp only [vV];rcases T0 b fs _ _ h with ⟨h1,fs1,_,h2⟩ | ⟨h1,fs1,_,h2⟩
    ·refine ⟨J0 F (some t) (.bool (.lit true)),fs1,hv _ h1,by simp [J0,Mi],?_⟩;rw [h1];cases want
     ·exact .inr ⟨rfl,h2⟩
     ·exact .inl ⟨rfl,h2⟩
    ·refine ⟨J0 F (some t) (.bool (.lit false)),fs1,hv _ h1,by simp [J0,Mi],?_⟩;rw [h1];cases want
     ·exact .inl ⟨rfl,h2⟩
     ·exact .inr ⟨rfl,h2⟩
   ·rename_i hb;rw [hb];simp only [vV,vVs];exact ⟨F,fs,rfl,rfl,.inr ⟨trivial,h⟩⟩
   ·exact h.elim
  ·exact h.elim
theorem In {C:A2} {K:DCfg} {lps:List Code} (hK:DGood C K lps):∀ n m wk F H fs q (Q:Post) (QQ:Ex→List AV→Hp→Prop) (RR:AV→Hp→Prop),
    (∀ e F H fs,vT C.G QQ RR (q e F H fs)→Q e (vVs C.G F) (B8 C.G H))→LpD K lps wk→vT C.G QQ RR (dx K n m wk F H fs q)→Snd (K0 C) m (vWk C.G wk) (vVs C.G F) (B8 C.G H) Q:=by
  have hG:C.G=C.G:=rfl;have hP:=hK.hP;intro n
  induction n with
  | zero => intro m wk F H fs q Q QQ RR _ _ h; exact h.elim
  | succ n ih=>
    intro m wk F H fs q Q QQ RR hq hlp h;have g0:=Lt (C:=C) hK.mix lps;cases wk with
    | ops all l=>
      change vT C.G QQ RR (Hz K (dx K n) m all l F H fs q) at h;cases l with
      | nil=>exact fun r ρ a w hm hH hF=>⟨.normal,ρ,_,_,rfl,hq _ _ _ _ h,N5.refl m ρ,hH,hF,Frm.refl ρ w⟩
      | cons o l=>
        obtain ⟨dst,op,ty,pos,after,guard⟩:=o;simp only [Hz] at h;obtain ⟨F',fs',hFe,_,h⟩:=eN h;rw [← hFe];rw [← hFe] at h;rcases h with ⟨hw,h⟩ | ⟨hw,h⟩
        · unfold Xe at h;rw [hP] at h;split at h
          · rename_i hk;obtain ⟨c,v,h1,h2,h3⟩:=Hw h
            have:=ih m (.ops all l) _ _ _ _ _ _ _ hq trivial h3
            rw [W4] at this;exact M5 (lps:=lps) g0 (.pure hw hk (iP _ _ h1 h2)) this
          · rename_i hk;split at h
            · rename_i o ho;obtain ⟨fs2,v,h1,h3⟩:=jI hG (o:=o) ho h
              have:=ih m (.ops all l) _ _ _ _ _ _ _ hq trivial h3
              rw [W4] at this;exact M5 (lps:=lps) g0 (.read hw hk h1) this
            · obtain ⟨c,v,h1,h2,h3⟩:=Hw h
              have:=ih m (.ops all l) _ _ _ _ _ _ _ hq trivial h3
              rw [W4] at this;exact M5 (lps:=lps) g0 (.read hw hk (iM hG _ _ h1 h2)) this
          · rename_i hk;split at h
            · rename_i c v x hx;obtain ⟨h2,h3⟩:=T1 c h
              have:=ih m (.ops all l) _ _ _ _ _ _ _ hq trivial h3
              rw [W4,Sq] at this;exact M5 (lps:=lps) g0 (.write hw hk (bU hG _ _ _ hx h2)) this
            · split at h
              · rename_i c hs hx;obtain ⟨h2,h3⟩:=T1 c h;obtain ⟨hp,e1,e2⟩:=mN hG hx h2
                have:=ih m (.ops all l) _ _ _ _ _ _ _ hq trivial h3
                rw [W4,Cu,←e2] at this;simp only [vV,vVs] at this;exact M5 (lps:=lps) g0 (.write hw hk e1) this
              · exact h.elim
          · rename_i hk;split at h
            · rename_i f args hc;have hc:=jP (G:=C.G) hc;split at h
              · rename_i hi;split at h
                · rename_i fn hfn;split at h
                  · rename_i c hb;split at h
                    · exact h.elim
                    · rename_i hnm
                      have hbody:∀ (r:Option Nat),Ap r c=true→∀ (ρ:Env) (a:Act) (w:World),(B8 C.G H).length≤(B8 C.G H).length→B0 C ρ (B8 C.G H) w→D5 ρ (J1 fn (vVs C.G args)) a→
                          c.wpIn (W r) 0 C.P (AP C (B8 C.G H).length ρ w (J6 C fn fun v' H'=>∃ v H1 fs,v'=vV C.G v∧H'=B8 C.G H1∧vT C.G QQ RR (dx K n m (.ops all l) (J0 F' dst v) H1 fs q))) a w:=by
                        have:=ih H.length (.code c) (Gg fn args) H fs' _ (J6 C fn fun v' H'=>∃ v H1 fs,v'=vV C.G v∧H'=B8 C.G H1∧vT C.G QQ RR (dx K n m (.ops all l) (J0 F' dst v) H1 fs q)) QQ RR (fun e F1 H1 fs1 ht=>by
                          unfold On at ht;split at ht
                          · exact ht.elim
                          · rename_i hne;obtain ⟨cc,v,q1,q2,q3⟩:=Hw ht;have e1:=cU hG _ _ q1 q2;cases e with
                            | exit i=>exact absurd rfl (hne i)
                            | normal=>simp only [J6];rw [e1];exact ⟨v,H1,fs1,rfl,rfl,q3⟩
                            | ret=>simp only [J6];rw [e1];exact ⟨v,H1,fs1,rfl,rfl,q3⟩) (fun b hb'=>hK.inl f fn c hi hfn hb b hb') h
                        rw [Tn] at this;rw [← D9 (G := C.G) H] at this;exact this
                      have hcall:=acalls_of (f:=f) (C:=C) (fn:=fn) (K:=fun v' H'=>∃ v H1 fs,v'=vV C.G v∧H'=B8 C.G H1∧vT C.G QQ RR (dx K n m (.ops all l) (J0 F' dst v) H1 fs q)) hfn hb hnm (fun r hr ρ a w hH hF=>hbody r hr ρ a w (Nat.le_refl _) hH hF);intro r ρ a w hm hH hF;unfold wpListIn;rw [Q9 hF hw,if_pos rfl];obtain ⟨cargs,hv,h1⟩:=Kp (w:=w) (o:=⟨dst,op,ty,pos,after,guard⟩) hF hc hcall.1;refine Ce (Xs hc) ?_;have h1:(execOp a.eval ⟨dst,op,ty,pos,after,guard⟩).run (K0 C).C.P w=.ok (.enter f cargs.toArray) w:=h1;rw [h1]
                      refine ⟨fun h=>by simp [W,Fence.wide] at h,Jw.2 ((hcall.2 ρ w cargs hH hv).mono ?_)⟩;rintro e w' ⟨v',cv,ρ',H',rfl,⟨v,H1,fs1,rfl,rfl,g1⟩,g2,g3,g4,g5⟩;have hp:=N5.of_le hH g2 hm
                      have:=ih m (.ops all l) _ _ _ _ _ _ _ hq trivial g1
                      rw [W4] at this;exact N6 (fun e a w h=>AP.link hp g5 h) l _ _ (this r ρ' _ w' (W5 hm hH g3 hp) g3 ((hF.mono g2).put _ _ _ g4))
                  · exact h.elim
                · exact h.elim
              · split at h
                · rename_i o ho;obtain ⟨fs1,v,hs,h1,h2⟩:=W1 o fs' h (hK.calls _ _ _ _ ho)
                  have:=ih m (.ops all l) _ _ _ _ _ _ _ hq trivial h2
                  rw [W4,Cu] at this;exact M5 (lps:=lps) g0 (.call hw hk hc h1) this
                · exact h.elim
            · split at h
              · rename_i i args hy;have hy:=mL (G:=C.G) hy;split at h
                · rename_i o ho;obtain ⟨fs1,v,hs,h1,h2⟩:=W1 o fs' h (hK.ylds _ _ _ _ ho)
                  have:=ih m (.ops all l) _ _ _ _ _ _ _ hq trivial h2
                  rw [W4,Cu] at this;intro r ρ a w hm hH hF;unfold wpListIn;rw [Q9 hF hw,if_pos rfl];refine h1 ρ _ w a ⟨dst,op,ty,pos,after,guard⟩ r _ _ hH hF hy ?_;rintro v' H' ρ' cv w' ⟨rfl,rfl⟩ g3 g4 g2 g5;have hp:=N5.of_le hH g2 hm;exact N6 (fun e a w h=>AP.link hp g5 h) l _ _ (this r ρ' _ w' (W5 hm hH g3 hp) g3 ((hF.mono g2).put _ _ _ g4))
                · exact h.elim
              · exact h.elim
        · have:=ih m (.ops all l) _ _ _ _ _ _ _ hq trivial h
          rw [W4] at this;simp only [vV,vVs] at this;exact M5 (lps:=lps) g0 (.skip hw) this
    | dr all l trs=>
      change vT C.G QQ RR (Em K (dx K n) m all l trs F H fs q) at h;cases l with
      | nil=>
        simp only [Em] at h;split at h
        · rename_i hd;exact ⟨[],_,_,.nil _ _,by have:=pR (G:=C.G) all trs hd;simpa using this,hq _ _ _ _ h⟩
        · exact h.elim
      | cons o l=>
        obtain ⟨dst,op,ty,pos,after,guard⟩:=o;simp only [Em] at h;obtain ⟨F',fs',hFe,_,h⟩:=eN h;rw [← hFe];rw [← hFe] at h
        have go:∀ {tr:Wv} {v:EV} {H':DHp} {fs1:Facts},St (K0 C) all ⟨dst,op,ty,pos,after,guard⟩ (vVs C.G F') (B8 C.G H) (Yx C.G tr) (vV C.G v) (B8 C.G H')→
            vT C.G QQ RR (dx K n m (.dr all l (trs++[tr])) (J0 F' dst v) H' fs1 q)→Snd (K0 C) m (vWk C.G (.dr all (⟨dst,op,ty,pos,after,guard⟩::l) trs)) (vVs C.G F') (B8 C.G H) Q:=by
          intro tr v H' fs1 hst hrec
          have:=ih m (.dr all l (trs++[tr])) _ _ _ _ _ _ _ hq trivial hrec
          rw [W4] at this;obtain ⟨trs',F1,H1,g1,g2,g3⟩:=this;exact ⟨Yx C.G tr::trs',F1,H1,.cons hst g1,by simpa using g2,g3⟩
        rcases h with ⟨hw,h⟩ | ⟨hw,h⟩
        · unfold Oh at h;rw [hP] at h;split at h
          · rename_i hk;obtain ⟨c,v,h1,h2,h3⟩:=Hw h;refine go (tr:=⟨.still,H.length,[]⟩) ?_ h3
            have:=St.pure (K:=K0 C) (all:=all) (o:=⟨dst,op,ty,pos,after,guard⟩) (H:=B8 C.G H) hw hk (iP _ _ h1 h2)
            rw [D9] at this;exact this
          · rename_i hk
            obtain ⟨fs2,v,h1,h3⟩:∃ fs2 v,J4 C (vVs C.G F') (B8 C.G H) op=some (true,vV C.G v)∧vT C.G QQ RR (dx K n m (.dr all l (trs++[⟨(match Qs F' op with | some r=>.read r | none=>.still),H.length,[]⟩])) (J0 F' dst v) H fs2 q):=by
              split at h
              · rename_i o ho;exact jI hG (o:=o) ho h
              · obtain ⟨c,v,h1,h2,h3⟩:=Hw h;exact ⟨_,v,iM hG _ _ h1 h2,h3⟩
            refine go ?_ h3
            have:=St.read (K:=K0 C) (all:=all) (o:=⟨dst,op,ty,pos,after,guard⟩) (H:=B8 C.G H) hw hk h1
            rw [D9] at this;refine cast (congrArg (fun tr=>St (K0 C) all ⟨dst,op,ty,pos,after,guard⟩ (vVs C.G F') (B8 C.G H) tr (vV C.G v) (B8 C.G H)) ?_) this;simp only [Yx,List.map_nil];congr 1;rw [xD];cases Qs F' op<;>simp only [Option.map_some,Option.map_none,qM]
          · rename_i hk;split at h
            · rename_i c v x hx;obtain ⟨h2,h3⟩:=T1 c h;refine go ?_ h3
              have:=St.write (K:=K0 C) (all:=all) (o:=⟨dst,op,ty,pos,after,guard⟩) hw hk (bU hG _ _ _ hx h2)
              rw [D9,←Sq] at this;exact this
            · exact h.elim
          · rename_i hk;split at h
            · rename_i f args hc;have hc:=jP (G:=C.G) hc
              have fin:∀ {o:Outs} {fs1:Facts},Ds C.G (E0 C f args H) o→vT C.G QQ RR (An fs1 o fun fs v hs=>dx K n m (.dr all l (trs++[⟨.write,H.length,hs⟩])) (J0 F' dst v) (Fs H hs) fs q)→
                  Snd (K0 C) m (vWk C.G (.dr all (⟨dst,op,ty,pos,after,guard⟩::l) trs)) (vVs C.G F') (B8 C.G H) Q:=by
                intro o fs1 ho ht;obtain ⟨fs2,v,hs,h1,h2⟩:=W1 o fs1 ht ho;refine go ?_ h2
                have:=St.call (K:=K0 C) (all:=all) (o:=⟨dst,op,ty,pos,after,guard⟩) hw hk hc h1
                rw [D9,←Cu] at this;exact this
              split at h
              · rename_i hi;split at h
                · rename_i fn hfn;split at h
                  · rename_i c hb;split at h
                    · exact h.elim
                    · rename_i hnm;split at h
                      · rename_i o ho;refine fin (Ra _ _ ho (fun hr=>?_) fun R hR=>?_) h
                        · refine dx_ro n _ (.code c) _ _ _ _ hr fun e F fs=>?_;unfold On;split
                          · trivial
                          · exact Lr fun v=>rfl
                        · refine acalls_of (f:=f) (C:=C) (fn:=fn) hfn hb hnm fun r hr ρ a w hH hF=>?_
                          have:=ih H.length (.code c) (Gg fn args) H fs' _ (J6 C fn R) (fun _ _ _=>False) R (fun e F1 H1 fs1 ht=>by
                            unfold On at ht;split at ht
                            · exact ht.elim
                            · rename_i hne;obtain ⟨cc,v,q1,q2,q3⟩:=Hw ht;have e1:=cU hG _ _ q1 q2;cases e with
                              | exit i=>exact absurd rfl (hne i)
                              | normal=>simp only [J6];rw [e1];exact q3
                              | ret=>simp only [J6];rw [e1];exact q3) (fun b hb'=>hK.inl f fn c hi hfn hb b hb') hR
                          rw [Tn,←D9 (G:=C.G) H] at this;exact this r hr ρ a w (Nat.le_refl _) hH hF
                      · exact h.elim
                  · exact h.elim
                · exact h.elim
              · split at h
                · rename_i o ho;exact fin (hK.calls _ _ _ _ ho) h
                · exact h.elim
            · split at h
              · rename_i i args hy;have hy:=mL (G:=C.G) hy;split at h
                · rename_i o ho;obtain ⟨fs2,v,hs,h1,h2⟩:=W1 o fs' h (hK.ylds _ _ _ _ ho);refine go ?_ h2
                  have:=St.yld (K:=K0 C) (all:=all) (o:=⟨dst,op,ty,pos,after,guard⟩) hw hy h1
                  rw [D9,←Cu] at this;exact this
                · exact h.elim
              · exact h.elim
        · refine go (tr:=⟨.still,H.length,[]⟩) (v:=.tup []) ?_ h
          have:=St.skip (K:=K0 C) (all:=all) (o:=⟨dst,op,ty,pos,after,guard⟩) (H:=B8 C.G H) hw
          rw [D9] at this;simp only [vV,vVs];exact this
    | code c=>
      change vT C.G QQ RR (T5 K (dx K n) m c F H fs q) at h;intro r hr ρ a w hm hH hF;have here:∀ ae,Q ae (vVs C.G F) (B8 C.G H)→AP C m ρ w Q (Of ae) a w:=fun ae hq=>⟨ae,ρ,_,_,rfl,hq,N5.refl m ρ,hH,hF,Frm.refl ρ w⟩;cases c with
      | skip=>exact wpIn_skip (here .normal (hq _ _ _ _ h))
      | region id ops draw=>
        cases draw with
        | true=>
          obtain ⟨trs',F',H',g1,g2,g3⟩:=ih m (.dr ops.toList ops.toList []) F H fs q Q QQ RR hq trivial h
          have:=Wj (id:=id) (r:=r) (Q:=AP C m ρ w Q) (lps:=lps) g0 g1 (by simpa using g2) hH hF fun ρ' a' w' q1 q2 q3 q4=>⟨.normal,ρ',F',H',rfl,g3,N5.of_le hH q3 hm,q1,q2,q4⟩
          rwa [Array.toArray_toList] at this
        | false=>
          have:=ih m (.ops ops.toList ops.toList) F H fs q Q QQ RR hq trivial h r ρ a w hm hH hF
          rw [Array.toArray_toList] at this;exact wpIn_region_list this
      | seq x y=>
        have hx:LpD K lps (.code x):=fun b hb=>hlp b (List.mem_append.2 (.inl hb));have hy:LpD K lps (.code y):=fun b hb=>hlp b (List.mem_append.2 (.inr hb))
        have key:=ih m (.code x) F H fs (aY (dx K n) m y q) (fun e F1 H1=>match e with
          | .normal=>∀ ρ' a' w',m≤H1.length→B0 C ρ' H1 w'→D5 ρ' F1 a'→y.wpIn (W r) 0 C.P (AP C m ρ' w' Q) a' w'
          | e=>Q e F1 H1) QQ RR (fun e F1 H1 fs1 ht=>by
            cases e with
            | normal=>exact fun ρ' a' w' q1 q2 q3=>ih m (.code y) F1 H1 fs1 q Q QQ RR hq hy ht r (Hm hr).2 ρ' a' w' q1 q2 q3
            | exit i=>exact hq _ _ _ _ ht
            | ret=>exact hq _ _ _ _ ht) hx h r (Hm hr).1 ρ a w hm hH hF
        refine wpIn_seq (Code.wpIn_mono ?_ key);rintro e a' w' ⟨ae,ρ',F',H',rfl,h2,h3,h4,h5,h6⟩;cases ae with
        | normal=>exact Code.wpIn_mono (fun e a w h=>AP.link h3 h6 h) (h2 ρ' a' w' (W5 hm hH h4 h3) h4 h5)
        | exit i=>exact ⟨.exit i,ρ',F',H',rfl,h2,h3,h4,h5,h6⟩
        | ret=>exact ⟨.ret,ρ',F',H',rfl,h2,h3,h4,h5,h6⟩
      | cond c x y=>
        have hx:LpD K lps (.code x):=fun b hb=>hlp b (List.mem_append.2 (.inl hb));have hy:LpD K lps (.code y):=fun b hb=>hlp b (List.mem_append.2 (.inr hb));simp only [T5,Jb] at h;split at h
        · rename_i t;rw [Cn] at h;split at h
          · rename_i b hb;have hv:=hF.at t;rw [U3,hb] at hv;simp only [vV,VR] at hv
            have hs:∀ x:Bool,vB C.G b=x→vVs C.G (J0 F (some t) (.bool (.lit x)))=vVs C.G F:=fun x hx=>by
              rw [W4];simp only [put,vV,vB];refine R6 ?_ (by simp);rw [U3,hb];simp only [vV,hx]
            rcases T0 b fs _ _ h with ⟨h1,fs1,_,h2⟩ | ⟨h1,fs1,_,h2⟩
            · rw [h1] at hv
              have:=ih m (.code x) _ H fs1 q Q QQ RR hq hx h2 r (Ao hr).1 ρ a w hm hH
              rw [hs _ h1] at this;exact wpIn_cond_true hv (this hF)
            · rw [h1] at hv
              have:=ih m (.code y) _ H fs1 q Q QQ RR hq hy h2 r (Ao hr).2 ρ a w hm hH
              rw [hs _ h1] at this;exact wpIn_cond_false hv (this hF)
          · exact h.elim
        · rename_i b;cases b with
          | true=>exact wpIn_cond_true rfl (ih m (.code x) F H fs q Q QQ RR hq hx h r (Ao hr).1 ρ a w hm hH hF)
          | false=>exact wpIn_cond_false rfl (ih m (.code y) F H fs q Q QQ RR hq hy h r (Ao hr).2 ρ a w hm hH hF)
        · exact h.elim
      | block id c=>
        have key:=ih m (.code c) F H fs (Wp id q) (Aw id Q) QQ RR (fun e F1 H1 fs1 ht=>by
          cases e with
          | normal=>exact hq _ _ _ _ ht
          | ret=>exact hq _ _ _ _ ht
          | exit i=>
            simp only [Wp] at ht;simp only [Aw];cases hb:(i==id) with
            | true=>rw [hb] at ht;exact hq _ _ _ _ ht
            | false=>rw [hb] at ht;exact hq _ _ _ _ ht) (fun b hb=>hlp b hb) h r (Oz hr) ρ a w hm hH hF
        refine wpIn_block (Code.wpIn_mono ?_ key);rintro e a' w' ⟨ae,ρ',F',H',rfl,h2,h3⟩;cases ae with
        | normal=>exact ⟨.normal,ρ',F',H',rfl,h2,h3⟩
        | ret=>exact ⟨.ret,ρ',F',H',rfl,h2,h3⟩
        | exit i=>
          simp only [Aw] at h2;show (if i=id then AP C m ρ w Q .normal a' w' else AP C m ρ w Q (.exit i) a' w');split at h2
          · rename_i hi;rw [if_pos (by simpa using hi)];exact ⟨.normal,ρ',F',H',rfl,h2,h3⟩
          · rename_i hi;rw [if_neg (by simpa using hi)];exact ⟨.exit i,ρ',F',H',rfl,h2,h3⟩
      | loop c=>
        simp only [T5] at h;split at h
        · rename_i hm';split at h
          · rename_i o ho;have hmem:c∈lps:=hlp c (List.mem_cons_self ..);exact hK.loops m c F H o (Nat.le_of_ble_eq_true hm') hmem ho fs.n Q (H8 (fun e F' H' ⟨fs',ht⟩=>hq _ _ _ _ ht) o fs.n (M1 o fs h)) r hr ρ a w hH hF
          · exact h.elim
        · exact h.elim
      | rangeFunc g ps as bd=>
        simp only [T5] at h;split at h
        · rename_i hm';split at h
          · rename_i o ho;have hmem:Code.rangeFunc g ps as bd∈lps:=hlp _ (List.mem_cons_self ..);exact hK.rngs m _ F H o (Nat.le_of_ble_eq_true hm') hmem ho fs.n Q (H8 (fun e F' H' ⟨fs',ht⟩=>hq _ _ _ _ ht) o fs.n (M1 o fs h)) r hr ρ a w hH hF
          · exact h.elim
        · exact h.elim
      | exit i=>exact wpIn_exit (here (.exit i) (hq _ _ _ _ h))
      | scope c=>
        refine Ej (Code.wpIn_mono ?_ (ih m (.code c) F H fs q Q QQ RR hq (fun b hb=>hlp b hb) h r (Zq hr) ρ a w hm hH hF));rintro e a' w' h;obtain ⟨ae,ρ',F',H',rfl,h2⟩:=h;cases ae with
        | normal=>exact ⟨.normal,ρ',F',H',rfl,h2⟩
        | ret=>exact ⟨.ret,ρ',F',H',rfl,h2⟩
        | exit i=>exact ⟨.exit i,ρ',F',H',rfl,h2⟩
      | label i=>exact wpIn_label (here .normal (hq _ _ _ _ h))
      | ret=>exact wpIn_ret (here .ret (hq _ _ _ _ h))
      | _=>exact h.elim
end Go.Am
namespace Go.Am
variable {C:A2}
def f0 (n:Nat):Facts:=⟨n,[]⟩
noncomputable def G6 (K:DCfg) (fuel n0:Nat) (fn:Func) (args:List EV) (H:DHp) (keep:Nat):T:=
 dx K fuel H.length (.code (B4 fn)) (Gg fn args) H (f0 n0) (On K.P fn fun v H' _=>.ret v (H'.take keep))
def rdD (live:List Nat) (F:DFr):List EV:=live.map fun i=>F.getD i .undef
def Vy (N:Nat) (live:List Nat) (vs:List EV):DFr:=(List.range N).map fun i=>(((live.zip vs).find? fun p=>Nat.beq p.1 i).map (·.2)).getD .undef
def fC (N:Nat) (live:List Nat):DK:=fun e F H _=>match Nat.beq F.length N with
 | true=>.leaf e (rdD live F) H
 | false=>.fail
noncomputable def E8 (K:DCfg) (fuel n0 m:Nat) (c:Code) (N:Nat) (live:List Nat) (vs:List EV) (H:DHp):T:=
 dx K fuel m (.code c) (Vy N live vs) H (f0 n0) (fC N live)
theorem Uf {G:Nat→List AV} (N:Nat) (live:List Nat) (vs:List EV):vVs G (Vy N live vs)=fl N live (vVs G vs):=by
 unfold Vy fl fr;rw [M2,List.map_map];refine List.map_congr_left fun i _=>?_;simp only [Function.comp]
 induction live generalizing vs with
 | nil=>simp [vV]
 | cons x live ih=>
  cases vs with
  | nil=>simp [vV,vVs]
  | cons v vs=>
   simp only [vVs,List.zip_cons_cons,List.find?_cons];split
   ·rename_i h;simp only [Option.map_some,Option.getD_some]
   ·rename_i h;exact ih vs
theorem Ue {G:Nat→List AV} (live:List Nat) (F:DFr):vVs G (rdD live F)=Cy live (vVs G F):=by
 unfold rdD Cy;rw [M2,List.map_map];refine List.map_congr_left fun i _=>?_;simp only [Function.comp,U3]
theorem C7 {K : DCfg} {fuel n0 : Nat} {f : FuncId} {fn : Func} {args : List EV} {H : DHp} {keep : Nat} {R : AV → Hp → Prop} (hK : DGood C K (loopsOf (B4 fn))) (hf : C.P.funcs[f]? = some fn) (hb : fn.body = some (B4 fn)) (hn : (fn.name == "runtime.NumGoroutine") = false)
  (h:vT C.G (fun _ _ _=>False) R (G6 K fuel n0 fn args H keep)):ACalls C f (vVs C.G args) (B8 C.G H) fun v H'=>R v (H'.take keep):=by
 refine acalls_of hf hb hn fun r hr ρ a w hH hF=>?_
 have:=In hK fuel H.length (.code (B4 fn)) (Gg fn args) H (f0 n0) _ (J6 C fn fun v H'=>R v (H'.take keep)) (fun _ _ _=>False) R (fun e F1 H1 fs1 ht=>by
  unfold On at ht;split at ht
  ·exact ht.elim
  ·rename_i hne;obtain ⟨cc,v,q1,q2,q3⟩:=Hw ht;rw [hK.hP] at q1;have e1:=cU rfl _ _ q1 q2;have e2:B8 C.G (H1.take keep)=(B8 C.G H1).take keep:=by simp only [B8,List.map_take]
   simp only [vT,e2] at q3;cases e with
   | exit i=>exact absurd rfl (hne i)
   | normal=>simp only [J6];rw [e1];exact q3
   | ret=>simp only [J6];rw [e1];exact q3) (fun b hb=>hb) h
 simp only [vWk,Tn] at this
 have:=this r hr ρ a w (by simp [D9]) hH hF
 rw [←D9 (G:=C.G) H] at this;exact this
theorem D4 {K:DCfg} {fuel n0 m:Nat} {c:Code} {N:Nat} {live:List Nat} {vs:List EV} {H:DHp} {Q:Ex→List AV→Hp→Prop} (hK:DGood C K (loopsOf c)) (hm:m≤H.length)
  (h:vT C.G Q (fun _ _=>False) (E8 K fuel n0 m c N live vs H)):AWp C m c (fl N live (vVs C.G vs)) (B8 C.G H) (lv N live Q):=by
 have:=In hK fuel m (.code c) (Vy N live vs) H (f0 n0) _ (lv N live Q) Q (fun _ _=>False) (fun e F1 H1 fs1 ht=>by
  unfold fC at ht;split at ht
  ·rename_i hb;simp only [vT,Ue] at ht;simp only [lv,Q3,hb];exact ht
  ·exact ht.elim) (fun b hb=>hb) h
 rw [Uf] at this;exact fun r hr ρ a w hH hF=>this r hr ρ a w (by simpa [D9] using hm) hH hF
abbrev DSum:=List EV→DHp→Option Outs
def Wi:List (Nat×DSum)→FuncId→List EV→DHp→Option Outs
 | [],_,_,_=>none
 | (g,s)::l,f,args,H=>match Nat.beq g f with
  | true=>s args H
  | false=>Wi l f args H
def C5 (C:A2) (f:FuncId) (s:DSum):Prop:=∀ args H o,s args H=some o→Ds C.G (E0 C f args H) o
def P6 (C:A2) (l:List (Nat×DSum)):Prop:=∀ f args H o,Wi l f args H=some o→Ds C.G (E0 C f args H) o
theorem P6.nil:P6 C []:=fun f args H o h=>by simp [Wi] at h
theorem P6.cons {g:Nat} {s:DSum} {l:List (Nat×DSum)} (h:C5 C g s) (k:P6 C l):P6 C ((g,s)::l):=by
 intro f args H o ho;simp only [Wi] at ho;split at ho
 ·rename_i hg
  have:=Nat.eq_of_beq_eq_true hg
  subst this;exact h args H o ho
 ·exact k f args H o ho
theorem E0.of {f:FuncId} {s:Sum1} (hs:Sd C f s) {args:List EV} {H:DHp} {v:EV} {hs':List DHop} (h:s (vVs C.G args) (B8 C.G H)=some (true,vV C.G v,hs'.map (I1 C.G))):E0 C f args H v hs':=
 hs _ _ _ _ h
abbrev DLoop:=List EV→DHp→Option LOut
def Ck (N:Nat) (live:List Nat):LOut→LOut
 | .one e vs H=>.one e (Vy N live vs) H
 | .chk b x=>.chk b (Ck N live x)
 | .tst b x y=>.tst b (Ck N live x) (Ck N live y)
 | .imp b x=>.imp b (Ck N live x)
 | .allI k=>.allI fun x=>Ck N live (k x)
 | .allN k=>.allN fun x=>Ck N live (k x)
 | .allB k=>.allB fun x=>Ck N live (k x)
 | .allL k=>.allL fun x=>Ck N live (k x)
 | .namI e k=>.namI e fun x=>Ck N live (k x)
 | .namN e k=>.namN e fun x=>Ck N live (k x)
 | .namB e k=>.namB e fun x=>Ck N live (k x)
 | .namL e k=>.namL e fun x=>Ck N live (k x)
structure DL where
 ex:Nat
 N:Nat
 live:List Nat
 S:DLoop
def Gh:List DL→Code→DFr→DHp→Option LOut
 | [],_,_,_=>none
 | d::l,c,F,H=>match Nj c with
  | some i=>match Nat.beq i d.ex with
   | true=>match Nat.beq F.length d.N with
    | true=>match d.S (rdD d.live F) H with
     | some o=>some (Ck d.N d.live o)
     | none=>none
    | false=>none
   | false=>Gh l c F H
  | none=>none
theorem K9 {G:Nat→List AV} {Q:Ex→DFr→DHp→Prop} {N:Nat} {live:List Nat}:∀ (o:LOut) (n:Nat),I0 G Q n (Ck N live o)→I0 G (fun e vs H=>Q e (Vy N live vs) H) n o
 | .one e F H,n,h=>h
 | .chk b x,n,h=>⟨h.1,K9 x n h.2⟩
 | .tst b x y,n,h=>⟨fun hb=>K9 x n (h.1 hb),fun hb=>K9 y n (h.2 hb)⟩
 | .imp b x,n,h=>fun hb=>K9 x n (h hb)
 | .allI f,n,h=>fun x=>K9 (f (.var n x)) (n+1) (h x)
 | .allN f,n,h=>fun x=>K9 (f (.var n x)) (n+1) (h x)
 | .allB f,n,h=>fun x=>K9 (f (.var n x)) (n+1) (h x)
 | .allL f,n,h=>fun x=>K9 (f (.var n x)) (n+1) (h x)
 | .namI e f,n,h=>K9 (f (.var n _)) (n+1) h
 | .namN e f,n,h=>K9 (f (.var n _)) (n+1) h
 | .namB e f,n,h=>K9 (f (.var n _)) (n+1) h
 | .namL e f,n,h=>K9 (f (.var n _)) (n+1) h
def Lp (m:Nat) (Q:Ex→List AV→Hp→Prop) (e:Ex) (vs'':List AV) (H'':Hp):Prop:=(∃ vs',wk vs' vs''∧Q e vs' H'')∨∃ vs' H',C2 m vs' H' vs'' H''∧Q e vs' H'
def H5 (C:A2) (M:Nat) (c:Code) (d:DL):Prop:=
 ∀ m vs H o,m≤M→d.S vs H=some o→∀ n (Q:Ex→List AV→Hp→Prop),I0 C.G (fun e vs' H'=>Q e (vVs C.G vs') (B8 C.G H')) n o→
  AWp C m (.loop c) (fl d.N d.live (vVs C.G vs)) (B8 C.G H) (lv d.N d.live (Lp m Q))
def Y2 (C:A2) (M:Nat) (cs:List Code) (ls:Code→DFr→DHp→Option LOut):Prop:=∀ m c F H o,m≤M→c∈cs→ls c F H=some o→∀ n (Q:Post),I0 C.G (fun e F' H'=>Q e (vVs C.G F') (B8 C.G H')) n o→AWp C m (.loop c) (vVs C.G F) (B8 C.G H) Q
theorem Y2.nil {M:Nat} {ls:Code→DFr→DHp→Option LOut}:Y2 C M [] ls:=fun m c F H o _ h=>by simp at h
theorem AWp.wkd {m:Nat} {c:Code} {F:Fr} {H:Hp} {N:Nat} {live:List Nat} {Q:Ex→List AV→Hp→Prop} {Q':Post} (h:AWp C m c F H (lv N live (Lp m Q))) (hq:∀ e vs H',Q e vs H'→Q' e (fl N live vs) H'):AWp C m c F H Q':=by
 intro r hr ρ a w hH hF;refine Code.wpIn_mono ?_ (h r hr ρ a w hH hF);rintro e a' w' ⟨ae,ρ',F',H',rfl,h2,h3,h4,h5,h6⟩;obtain ⟨h7,h8⟩:=Au h2;have hN:F'.length=N:=Nat.eq_of_beq_eq_true h7;rcases h8 with ⟨vs',h8,h9⟩ | ⟨vs',H1,h8,h9⟩
 ·exact ⟨ae,ρ',_,H',rfl,hq _ _ _ h9,h3,h4,mR h5 hN h8,h6⟩
 ·obtain ⟨ρ2,g1,g2,g3,g4⟩:=h8.live (N:=N) (live:=live) h4 h5.nod (by rw [←h5.len,hN]) (by simp [Cy]) (fun j i v q1 q2=>by
   simp only [Cy,List.getElem?_map,q1,Option.map_some,Option.some.injEq] at q2;subst q2;by_cases hi:i<F'.length
   ·exact h5.val i _ (by simp [List.getD,hi])
   ·simp [List.getD,hi,VR])
  exact ⟨ae,ρ2,_,H1,rfl,hq _ _ _ h9,h3.trans g3,g1,g2,h6.trans g4⟩
def bM (i:Nat):List DL→Option DL
 | []=>none
 | d::l=>match Nat.beq i d.ex with
  | true=>some d
  | false=>bM i l
theorem Sk {c:Code} {F:DFr} {H:DHp} {o:LOut} {i:Nat} (he:Nj c=some i):∀ (l:List DL),Gh l c F H=some o→∃ d,bM i l=some d∧F.length=d.N∧∃ o',d.S (rdD d.live F) H=some o'∧o=Ck d.N d.live o'
 | [],h=>by simp [Gh] at h
 | d::l,h=>by
  simp only [Gh,he] at h;simp only [bM];split at h
  ·rename_i hi;split at h
   ·rename_i hN;split at h
    ·rename_i o' ho;simp at h;subst h;exact ⟨d,rfl,Nat.eq_of_beq_eq_true hN,o',ho,rfl⟩
    ·simp at h
   ·simp at h
  ·exact Sk he l h
theorem Y2.cons {M:Nat} {c:Code} {cs:List Code} {l:List DL} {d:DL} {i:Nat} (he:Nj c=some i) (hp:bM i l=some d) (h:H5 C M c d) (k:Y2 C M cs (Gh l)):Y2 C M (c::cs) (Gh l):=by
 intro m c' F H o hm hc ho n Q hQ;rcases List.mem_cons.1 hc with rfl | hc
 ·obtain ⟨d',h1,h2,o',h3,rfl⟩:=Sk he l ho;rw [hp] at h1;simp at h1;subst h1
  have:=h m _ _ _ hm h3 n (fun e vs H'=>Q e (fl d.N d.live vs) H') (by
   have:=K9 o' n hQ
   refine H8 (fun e vs H' hq=>?_) o' n this;rw [Uf] at hq
   exact hq)
  have:=this.wkd (Q':=Q) fun e vs H' h=>h
  intro r hr ρ a w hH hF;refine this r hr ρ a w hH ?_
  have:=Ou (live:=d.live) (N:=d.N) hF (by rw [Q3];exact h2)
  rw [Ue];exact this
 ·exact k m c' F H o hm hc ho n Q hQ
theorem Y2.cast {M:Nat} {cs ds:List Code} {ls:Code→DFr→DHp→Option LOut} (h:Y2 C M ds ls) (e:cs=ds):Y2 C M cs ls:=by rw [e];exact h
theorem lone {m m':Nat} {c:Code} {N:Nat} {live:List Nat} {vs:List AV} {H:Hp} {e:Ex} {vs':List EV} {H':DHp} {Q:Ex→List AV→Hp→Prop}
  (h:AWp C m c (fl N live vs) H (lv N live fun e' vs'' H''=>e'=e∧wk (vVs C.G vs') vs''∧H''=B8 C.G H')) (hq:Q e (vVs C.G vs') (B8 C.G H')) :
  AWp C m c (fl N live vs) H (lv N live (Lp m' Q)):=
 h.lmono fun e' vs'' H'' ⟨h1,h2,h3⟩=>.inl ⟨_,h2,by rw [h1,h3];exact hq⟩
theorem C2.pin {m m':Nat} (hm:m'≤m) {F F':Fr} {H H':Hp} (h:C2 m F H F' H'):C2 m' F H F' H':=by
 obtain ⟨θ,g1,g2,g3,g4⟩:=h.ex;exact ⟨θ,g1,by omega,fun i hi=>g3 i (by omega),g4⟩
theorem Lp.pin {m m':Nat} (hm:m'≤m) {Q:Ex→List AV→Hp→Prop} {e:Ex} {vs:List AV} {H:Hp} (h:Lp m Q e vs H):Lp m' Q e vs H:=by
 rcases h with h | ⟨vs',H',h1,h2⟩
 ·exact .inl h
 ·exact .inr ⟨vs',H',h1.pin hm,h2⟩
def Dc (P:Program) (inl:List Nat) (sums:List (Nat×DSum)) (ls:List DL) (M:Nat):DCfg:={ P:=P,inl:=eK inl,sum:=Wi sums,loop:=Gh ls,M:=M }
theorem D3 {P:Program} {G:Nat→List AV} {B:Nat} {inl:List Nat} {sums:List (Nat×DSum)} {ls:List DL} {M:Nat} {cs:List Code} (hm:P.follows .mixedOrders=true) (hp:Xp P inl=true) (hs:P6 ⟨P,G,B⟩ sums) (hl:Y2 ⟨P,G,B⟩ M cs (Gh ls)) :
  DGood ⟨P,G,B⟩ (Dc P inl sums ls M) cs:=
 ⟨rfl,hm,hs,hl,oG hp,fun m c F H o _ _ h=>by simp [Dc] at h,fun i args H o h=>by simp [Dc] at h⟩
end Go.Am
