/-
  Written terms: what the abstract machine over them says of values, and The machine over written terms: a piece of code becomes a tree.
-/
import Derived.Test.YthejjolnlngahaaBase3
namespace Go.Am
mutual
/-- whole numbers -/
inductive EI
 | lit (n:Int)
 | var (j:Nat) (x:Int)
 | bin (o:BinOp) (k:IntKind) (a b:EI)
 | conv (k:IntKind) (a:EI)
 | neg (k:IntKind) (a:EI)
 | cpl (k:IntKind) (a:EI)
 | ofN (n:EN)
 | mx (a b:EI)
 | mn (a b:EI)
 | get (l:EL) (o:EN)
 | uf (j:Nat) (f:List AV→Int) (as:List EV)
/-- counts -/
inductive EN
 | lit (n:Nat)
 | var (j:Nat) (x:Nat)
 | toN (a:EI)
 | add (a b:EN)
 | mul (a:EN) (z:Nat)
 | sub (a b:EN)
 | len (l:EL)
 | slen (s:ES)
 | rk (l:EL) (o:EN)
 | ro (l:EL) (o:EN)
 | rn (l:EL) (o:EN)
 | fk (b:Nat) (l:EL) (o:EN)
 | fo (l:EL) (o:EN)
 | fn (l:EL) (o:EN)
 | uf (j:Nat) (f:List AV→Nat) (as:List EV)
/-- truth values -/
inductive EB
 | lit (b:Bool)
 | var (j:Nat) (x:Bool)
 | cmp (o:BinOp) (a b:EI)
 | not (b:EB)
 | and (a b:EB)
 | eqB (a b:EB)
 | eqS (a b:ES)
 | isI (k:IntKind) (l:EL) (o:EN)
 | isB (l:EL) (o:EN)
 | isT (l:EL) (o:EN)
 | isR (l:EL) (o:EN)
 | get (l:EL) (o:EN)
 | leN (a b:EN)
 | eqN (a b:EN)
 | leaf (l:EL) (o:EN) (ls:List Lf)
 | u8s (l:EL)
 | cells (l:EL)
 | isF (b c:Nat) (l:EL) (o:EN)
 | isP (b c:Nat) (l:EL) (o:EN)
 | isNil (l:EL) (o:EN)
 | rows (l:EL) (ls:List EV)
 | uf (j:Nat) (f:List AV→Bool) (as:List EV)
/-- texts -/
inductive ES
 | lit (s:List UInt8)
 | var (j:Nat) (x:List UInt8)
 | app (a b:ES)
 | sub (s:ES) (lo hi:EN)
 | get (l:EL) (o:EN)
 | ofL (l:EL)
 | uf (j:Nat) (f:List AV→List UInt8) (as:List EV)
/-- cells -/
inductive EL
 | of (cs:List EV)
 | var (j:Nat) (x:List AV)
 | ro (n:EN)
 | set (l:EL) (o:EN) (v:EV)
 | app (a b:EL)
 | sub (l:EL) (o n:EN)
 | bytes (s:ES)
 | rep (n:EN) (l:EL)
 | row (l:EL) (k:EN)
 | put (l:EL) (k:EN) (v:EL)
 | uf (j:Nat) (f:List AV→List AV) (as:List EV)
/-- values -/
inductive EV
 | undef
 | bool (b:EB)
 | int (k:IntKind) (n:EI)
 | str (s:ES)
 | nilp
 | ptr (r:ER) (o:EN)
 | nils
 | slice (mb:Bool) (r:ER) (o n:EN)
 | nilf
 | func (f:FuncId) (cap:List EV)
 | agg (l:EL)
 | tup (vs:List EV)
 | yld (i:Nat)
/-- places -/
inductive ER
 | rw (i:Nat)
 | ro (n:EN)
 | fm (b c:Nat) (k:EN)
end
def Qy (o:BinOp) (k:IntKind) (x y:Int):Int:=
 match o with
 | .add=>k.wrap (x+y)
 | .sub=>k.wrap (x - y)
 | .mul=>k.wrap (x*y)
 | .quo=>k.wrap (x.tdiv y)
 | .rem=>x.tmod y
 | .and=>Dr k x y
 | .or=>kOr k x y
 | .xor=>nW k x y
 | .andNot=>Uo k x y
 | .shl=>Mu k x y
 | .shr=>Cn k x y
 | _=>0
def Qw (o:BinOp) (x y:Int):Bool:=
 match o with
 | .eql=>x==y
 | .neq=>x != y
 | .lss=>decide (x<y)
 | .leq=>decide (x≤y)
 | .gtr=>decide (x>y)
 | .geq=>decide (x≥y)
 | _=>false
def leB (x y:Nat):Bool:=decide (x≤y)
def u8s (cs:List AV):Bool:=cs.all Qi
def N9 (cs:List AV):Bool:=cs.all isCell
def Ca (cs:List AV):List UInt8:=cs.map Ri
def cE (s:List UInt8):List AV:=s.map fun b=>.int .u8 b.toNat
def B9 (cs:List AV) (o n:Nat):List AV:=(cs.drop o).take n
def repL (n:Nat) (cs:List AV):List AV:=(List.replicate n cs).flatten
def A0 (L:List AV) (k:Nat):List AV:=match L[k]? with | some (.agg cs)=>cs | _=>[]
def P5 (L:List AV) (k:Nat) (cs:List AV):List AV:=L.set k (.agg cs)
def O3 (b:Nat) (cs:List AV) (o:Nat):Nat:=match cs[o]? with | some (.slice _ (.rw i) _ _)=>i - b | some (.ptr (.rw i) _)=>i - b | _=>0
def Ay (cs:List AV) (o:Nat):Nat:=match cs[o]? with | some (.slice _ (.rw _) f _)=>f | some (.ptr (.rw _) f)=>f | _=>0
def Ib (cs:List AV) (o:Nat):Nat:=match cs[o]? with | some (.slice _ (.rw _) _ n)=>n | _=>0
def Kt (b c:Nat) (cs:List AV) (o:Nat):Bool:=match cs[o]? with | some (.slice true (.rw i) _ _)=>Nat.ble b i&&Nat.blt i (b+c) | _=>false
def nX (b c:Nat) (cs:List AV) (o:Nat):Bool:=match cs[o]? with | some (.ptr (.rw i) _)=>Nat.ble b i&&Nat.blt i (b+c) | _=>false
def aT (cs:List AV) (o:Nat):Bool:=match cs[o]? with | some .nilp=>true | _=>false
open Classical in
noncomputable def Eh (l:List AV) (ls:List AV):Bool:=decide (∀ v∈ls,v=.agg l)
section
variable (G:Nat→List AV)
mutual
noncomputable def vI:EI→Int
 | .lit n=>n
 | .var _ x=>x
 | .bin o k a b=>Qy o k (vI a) (vI b)
 | .conv k a=>k.wrap (vI a)
 | .neg k a=>k.wrap (0 - vI a)
 | .cpl k a=>aS k (vI a)
 | .ofN n=>(vN n:Int)
 | .mx a b=>if vI b>vI a then vI b else vI a
 | .mn a b=>if vI b<vI a then vI b else vI a
 | .get l o=>A3 (vL l) (vN o)
 | .uf _ f as=>f (vVs as)
termination_by structural x=>x
noncomputable def vN:EN→Nat
 | .lit n=>n
 | .var _ x=>x
 | .toN a=>(vI a).toNat
 | .add a b=>vN a+vN b
 | .mul a z=>vN a*z
 | .sub a b=>vN a - vN b
 | .len l=>(vL l).length
 | .slen s=>(vS s).length
 | .rk l o=>E7 (vL l) (vN o)
 | .ro l o=>G1 (vL l) (vN o)
 | .rn l o=>C2 (vL l) (vN o)
 | .fk b l o=>O3 b (vL l) (vN o)
 | .fo l o=>Ay (vL l) (vN o)
 | .fn l o=>Ib (vL l) (vN o)
 | .uf _ f as=>f (vVs as)
termination_by structural x=>x
noncomputable def vB:EB→Bool
 | .lit b=>b
 | .var _ x=>x
 | .cmp o a b=>Qw o (vI a) (vI b)
 | .not b=>!(vB b)
 | .and a b=>vB a&&vB b
 | .eqB a b=>vB a==vB b
 | .eqS a b=>vS a==vS b
 | .isI k l o=>isI k (vL l) (vN o)
 | .isB l o=>isB (vL l) (vN o)
 | .isT l o=>Yf (vL l) (vN o)
 | .isR l o=>Io (vL l) (vN o)
 | .get l o=>D9 (vL l) (vN o)
 | .leN a b=>leB (vN a) (vN b)
 | .eqN a b=>Nat.beq (vN a) (vN b)
 | .leaf l o ls=>D5 (vL l) (vN o) ls
 | .u8s l=>u8s (vL l)
 | .cells l=>N9 (vL l)
 | .isF b c l o=>Kt b c (vL l) (vN o)
 | .isP b c l o=>nX b c (vL l) (vN o)
 | .isNil l o=>aT (vL l) (vN o)
 | .rows l ls=>Eh (vL l) (vVs ls)
 | .uf _ f as=>f (vVs as)
termination_by structural x=>x
noncomputable def vS:ES→List UInt8
 | .lit s=>s
 | .var _ x=>x
 | .app a b=>vS a++vS b
 | .sub s lo hi=>((vS s).take (vN hi)).drop (vN lo)
 | .get l o=>So (vL l) (vN o)
 | .ofL l=>Ca (vL l)
 | .uf _ f as=>f (vVs as)
termination_by structural x=>x
noncomputable def vL:EL→List AV
 | .of cs=>vVs cs
 | .var _ x=>x
 | .ro n=>G (vN n)
 | .set l o v=>B5 (vL l) (vN o) (vV v)
 | .app a b=>vL a++vL b
 | .sub l o n=>B9 (vL l) (vN o) (vN n)
 | .bytes s=>cE (vS s)
 | .rep n l=>repL (vN n) (vL l)
 | .row l k=>A0 (vL l) (vN k)
 | .put l k v=>P5 (vL l) (vN k) (vL v)
 | .uf _ f as=>f (vVs as)
termination_by structural x=>x
noncomputable def vV:EV→AV
 | .undef=>.undef
 | .bool b=>.bool (vB b)
 | .int k n=>.int k (vI n)
 | .str s=>.str (vS s)
 | .nilp=>.nilp
 | .ptr r o=>.ptr (vR r) (vN o)
 | .nils=>.nils
 | .slice mb r o n=>.slice mb (vR r) (vN o) (vN n)
 | .nilf=>.nilf
 | .func f cap=>.func f (vVs cap)
 | .agg l=>.agg (vL l)
 | .tup vs=>.tup (vVs vs)
 | .yld i=>.yld i
termination_by structural x=>x
noncomputable def vVs:List EV→List AV
 | []=>[]
 | x::l=>vV x::vVs l
termination_by structural x=>x
noncomputable def vR:ER→Ref
 | .rw i=>.rw i
 | .ro n=>.ro (vN n)
 | .fm b _ k=>.rw (b+vN k)
termination_by structural x=>x
end
end
mutual
def Db:EI→EI→Bool
 | .lit a,.lit b=>a==b
 | .var j _,.var i _=>Nat.beq j i
 | .bin o k a b,.bin o' k' a' b'=>o==o'&&(k==k'&&(Db a a'&&Db b b'))
 | .conv k a,.conv k' a'=>k==k'&&Db a a'
 | .neg k a,.neg k' a'=>k==k'&&Db a a'
 | .cpl k a,.cpl k' a'=>k==k'&&Db a a'
 | .ofN a,.ofN b=>eqN a b
 | .mx a b,.mx a' b'=>Db a a'&&Db b b'
 | .mn a b,.mn a' b'=>Db a a'&&Db b b'
 | .get l o,.get l' o'=>eqN o o'&&R5 l l'
 | .uf j _ a,.uf j' _ a'=>Nat.beq j j'&&Ir a a'
 | _,_=>false
termination_by structural x=>x
def eqN:EN→EN→Bool
 | .lit a,.lit b=>Nat.beq a b
 | .var j _,.var i _=>Nat.beq j i
 | .toN a,.toN b=>Db a b
 | .add a b,.add a' b'=>eqN a a'&&eqN b b'
 | .mul a z,.mul a' z'=>Nat.beq z z'&&eqN a a'
 | .sub a b,.sub a' b'=>eqN a a'&&eqN b b'
 | .len a,.len b=>R5 a b
 | .slen a,.slen b=>eqS a b
 | .rk l o,.rk l' o'=>eqN o o'&&R5 l l'
 | .ro l o,.ro l' o'=>eqN o o'&&R5 l l'
 | .rn l o,.rn l' o'=>eqN o o'&&R5 l l'
 | .fk b l o,.fk b' l' o'=>Nat.beq b b'&&(eqN o o'&&R5 l l')
 | .fo l o,.fo l' o'=>eqN o o'&&R5 l l'
 | .fn l o,.fn l' o'=>eqN o o'&&R5 l l'
 | .uf j _ a,.uf j' _ a'=>Nat.beq j j'&&Ir a a'
 | _,_=>false
termination_by structural x=>x
def eqB:EB→EB→Bool
 | .lit a,.lit b=>a==b
 | .var j _,.var i _=>Nat.beq j i
 | .cmp o a b,.cmp o' a' b'=>o==o'&&(Db a a'&&Db b b')
 | .not a,.not b=>eqB a b
 | .and a b,.and a' b'=>eqB a a'&&eqB b b'
 | .eqB a b,.eqB a' b'=>eqB a a'&&eqB b b'
 | .eqS a b,.eqS a' b'=>eqS a a'&&eqS b b'
 | .isI k l o,.isI k' l' o'=>k==k'&&(eqN o o'&&R5 l l')
 | .isB l o,.isB l' o'=>eqN o o'&&R5 l l'
 | .isT l o,.isT l' o'=>eqN o o'&&R5 l l'
 | .isR l o,.isR l' o'=>eqN o o'&&R5 l l'
 | .get l o,.get l' o'=>eqN o o'&&R5 l l'
 | .leN a b,.leN a' b'=>eqN a a'&&eqN b b'
 | .eqN a b,.eqN a' b'=>eqN a a'&&eqN b b'
 | .leaf l o _,.leaf l' o' _=>eqN o o'&&R5 l l'
 | .u8s l,.u8s l'=>R5 l l'
 | .cells l,.cells l'=>R5 l l'
 | .isF b _ l o,.isF b' _ l' o'=>Nat.beq b b'&&(eqN o o'&&R5 l l')
 | .isP b _ l o,.isP b' _ l' o'=>Nat.beq b b'&&(eqN o o'&&R5 l l')
 | .isNil l o,.isNil l' o'=>eqN o o'&&R5 l l'
 | .rows l ls,.rows l' ls'=>R5 l l'&&Ir ls ls'
 | .uf j _ a,.uf j' _ a'=>Nat.beq j j'&&Ir a a'
 | _,_=>false
termination_by structural x=>x
def eqS:ES→ES→Bool
 | .lit a,.lit b=>a==b
 | .var j _,.var i _=>Nat.beq j i
 | .app a b,.app a' b'=>eqS a a'&&eqS b b'
 | .sub s l h,.sub s' l' h'=>eqS s s'&&(eqN l l'&&eqN h h')
 | .get l o,.get l' o'=>eqN o o'&&R5 l l'
 | .ofL l,.ofL l'=>R5 l l'
 | .uf j _ a,.uf j' _ a'=>Nat.beq j j'&&Ir a a'
 | _,_=>false
termination_by structural x=>x
def R5:EL→EL→Bool
 | .of a,.of b=>Ir a b
 | .var j _,.var i _=>Nat.beq j i
 | .ro a,.ro b=>eqN a b
 | .set l o v,.set l' o' v'=>eqN o o'&&(eqV' v v'&&R5 l l')
 | .app a b,.app a' b'=>R5 a a'&&R5 b b'
 | .sub l a b,.sub l' a' b'=>R5 l l'&&(eqN a a'&&eqN b b')
 | .bytes a,.bytes b=>eqS a b
 | .rep n l,.rep n' l'=>eqN n n'&&R5 l l'
 | .row l k,.row l' k'=>eqN k k'&&R5 l l'
 | .put l k v,.put l' k' v'=>eqN k k'&&(R5 v v'&&R5 l l')
 | .uf j _ a,.uf j' _ a'=>Nat.beq j j'&&Ir a a'
 | _,_=>false
termination_by structural x=>x
def eqV':EV→EV→Bool
 | .undef,.undef=>true
 | .bool a,.bool b=>eqB a b
 | .int k a,.int k' b=>k==k'&&Db a b
 | .str a,.str b=>eqS a b
 | .nilp,.nilp=>true
 | .ptr r o,.ptr r' o'=>eqR r r'&&eqN o o'
 | .nils,.nils=>true
 | .slice _ r o n,.slice _ r' o' n'=>eqR r r'&&(eqN o o'&&eqN n n')
 | .nilf,.nilf=>true
 | .func f c,.func f' c'=>Nat.beq f f'&&Ir c c'
 | .agg a,.agg b=>R5 a b
 | .tup a,.tup b=>Ir a b
 | .yld i,.yld j=>Nat.beq i j
 | _,_=>false
termination_by structural x=>x
def Ir:List EV→List EV→Bool
 | [],[]=>true
 | x::l,y::m=>eqV' x y&&Ir l m
 | _,_=>false
termination_by structural x=>x
def eqR:ER→ER→Bool
 | .rw i,.rw j=>Nat.beq i j
 | .ro a,.ro b=>eqN a b
 | .fm b _ k,.fm b' _ k'=>Nat.beq b b'&&eqN k k'
 | _,_=>false
termination_by structural x=>x
end
def C7 (a b:EB):EB:=
 match a with
 | .lit true=>b
 | .lit false=>.lit false
 | a=>match b with
  | .lit true=>a
  | .lit false=>.lit false
  | b=>.and a b
def Bc:EB→EB
 | .lit b=>.lit (!b)
 | .not b=>b
 | b=>.not b
def Yc (a b:EB):EB:=
 match a,b with
 | .lit true,b=>b
 | .lit false,b=>Bc b
 | a,.lit true=>a
 | a,.lit false=>Bc a
 | a,b=>.eqB a b
def E4 (o:BinOp) (a b:EI):EB:=
 match a,b with
 | .lit x,.lit y=>.lit (Qw o x y)
 | a,b=>.cmp o a b
def Ak (o:BinOp) (k:IntKind) (a b:EI):EI:=
 match a,b with
 | .lit x,.lit y=>.lit (Qy o k x y)
 | a,b=>.bin o k a b
def aJ (k:IntKind):EI→EI
 | .lit x=>.lit (k.wrap x)
 | a=>.conv k a
def gV (k:IntKind):EI→EI
 | .lit x=>.lit (k.wrap (0 - x))
 | a=>.neg k a
def gW (k:IntKind):EI→EI
 | .lit x=>.lit (aS k x)
 | a=>.cpl k a
def Aj:EN→EI
 | .lit n=>.lit n
 | n=>.ofN n
def W3:EI→EN
 | .lit n=>.lit n.toNat
 | .ofN n=>n
 | a=>.toN a
def K4 (a b:EN):EN:=
 match a,b with
 | .lit x,.lit y=>.lit (x+y)
 | a,.lit 0=>a
 | .lit 0,b=>b
 | .add a (.lit x),.lit y=>.add a (.lit (x+y))
 | a,b=>.add a b
def O0 (a:EN) (z:Nat):EN:=
 match z with
 | 1=>a
 | z=>match a with
  | .lit x=>.lit (x*z)
  | a=>.mul a z
def gU (a b:EN):EN:=
 match a,b with
 | .lit x,.lit y=>.lit (x - y)
 | a,.lit 0=>a
 | a,b=>.sub a b
def P7 (a b:EN):EB:=
 match a,b with
 | .lit x,.lit y=>.lit (Nat.ble x y)
 | .lit 0,_=>.lit true
 | a,b=>.leN a b
def Yb (a b:EN):EB:=
 match a,b with
 | .lit x,.lit y=>.lit (Nat.beq x y)
 | a,b=>.eqN a b
def Sd (a b:ES):EB:=
 match a,b with
 | .lit x,.lit y=>.lit (x==y)
 | a,b=>.eqS a b
def gX (a b:ES):ES:=
 match a,b with
 | .lit x,.lit y=>.lit (x++y)
 | .lit [],b=>b
 | a,.lit []=>a
 | a,b=>.app a b
def W4:EL→EN
 | .of cs=>.lit cs.length
 | .bytes s=>.slen s
 | .sub l o n=>.len (.sub l o n)
 | l=>.len l
def aV:EV→Bool
 | .agg _=>true
 | _=>false
def Kn (l:EL) (o:EN) (v:EV):EL:=
 match l,o with
 | .of cs,.lit n=>match v with
  | .agg (.of ds)=>.of (cs.take n++(ds++cs.drop (n+ds.length)))
  | .agg d=>.set (.of cs) (.lit n) (.agg d)
  | v=>.of (cs.set n v)
 | l,o=>.set l o v
def Cj (l:EL) (o n:EN):EL:=
 match l,o,n with
 | .of cs,.lit a,.lit b=>.of ((cs.drop a).take b)
 | l,o,n=>.sub l o n
def Se (a b:EL):EL:=
 match a,b with
 | .of cs,.of ds=>.of (cs++ds)
 | .of [],b=>b
 | a,.of []=>a
 | a,b=>.app a b
def Oh:ES→EL
 | .lit s=>.of (s.map fun b=>.int .u8 (.lit b.toNat))
 | s=>.bytes s
def Sc (n:EN) (l:EL):EL:=
 match n,l with
 | .lit k,.of cs=>.of ((List.replicate k cs).flatten)
 | n,l=>.rep n l
def Qg:EN→Option Nat
 | .lit n=>some n
 | _=>none
def W0:EL→Nat→Option (EB×EV)
 | .of cs,n=>match cs[n]? with
  | some v=>some (.lit true,v)
  | none=>none
 | .set l o v,n=>match Qg o,aV v with
  | some m,false=>match Nat.beq m n with
   | true=>some (P7 (.lit (n+1)) (W4 l),v)
   | false=>W0 l n
  | _,_=>none
 | _,_=>none
def rdI (k:IntKind) (l:EL) (o:EN):Option (EB×EI):=
 match Qg o with
 | some n=>match W0 l n with
  | some (c,.int k' e)=>if k=k' then some (c,e) else none
  | some _=>none
  | none=>some (.isI k l o,.get l o)
 | none=>some (.isI k l o,.get l o)
def rdB (l:EL) (o:EN):Option (EB×EB):=
 match Qg o with
 | some n=>match W0 l n with
  | some (c,.bool e)=>some (c,e)
  | some _=>none
  | none=>some (.isB l o,.get l o)
 | none=>some (.isB l o,.get l o)
end Go.Am
namespace Go.Am
structure Rc where
 esz:Nat
 cells:EL
abbrev DHp:=List (Option Rc)
abbrev DFr:=List EV
noncomputable def Kx (F:DFr) (n:Nat):EV:=
 List.rec (motive:=fun _=>Nat→EV) (fun _=>.undef) (fun x _ ih n=>Nat.rec (motive:=fun _=>EV) x (fun m _=>ih m) n) F n
noncomputable def gF (F:DFr) (n:Nat) (v:EV):DFr:=
 List.rec (motive:=fun _=>Nat→DFr) (fun _=>[]) (fun x xs ih n=>Nat.rec (motive:=fun _=>DFr) (v::xs) (fun m _=>x::ih m) n) F n
theorem Dv:∀ (F:DFr) (n:Nat),Kx F n=F.getD n .undef
 | [],n=>rfl
 | x::F,0=>rfl
 | x::F,n+1=>by
  have:=Dv F n
  show Kx F n=_;rw [this];rfl
theorem Ka:∀ (F:DFr) (n:Nat) (v:EV),gF F n v=F.set n v
 | [],n,v=>rfl
 | x::F,0,v=>rfl
 | x::F,n+1,v=>by
  have:=Ka F n v
  show x::gF F n v=_;rw [this];rfl
structure Facts where
 n:Nat
 l:List (EB×Bool)
inductive T
 | fail
 | chk (b:EB) (t:T)
 | tst (b:EB) (x y:T)
 | imp (b:EB) (t:T)
 | allI (j:Nat) (k:Int→T)
 | allN (j:Nat) (k:Nat→T)
 | allB (j:Nat) (k:Bool→T)
 | allL (j:Nat) (k:List AV→T)
 | namI (j:Nat) (e:EI) (k:Int→T)
 | namN (j:Nat) (e:EN) (k:Nat→T)
 | namB (j:Nat) (e:EB) (k:Bool→T)
 | namL (j:Nat) (e:EL) (k:List AV→T)
 | leaf (e:Ex) (F:List EV) (H:DHp)
 | ret (v:EV) (H:DHp)
inductive DHop
 | set (i:Nat) (b:Rc)
 | new (b:Rc)
 | app (j:Nat) (b:Rc)
def DHop.act (H:DHp):DHop→DHp
 | .set i b=>H.set i (some b)
 | .new b=>H++[some b]
 | .app j b=>H.set j none++[some b]
def Em (H:DHp):List DHop→DHp
 | []=>H
 | h::hs=>Em (h.act H) hs
inductive Outs
 | one (v:EV) (hs:List DHop)
 | chk (b:EB) (x:Outs)
 | tst (b:EB) (x y:Outs)
 | namI (e:EI) (k:EI→Outs)
 | namN (e:EN) (k:EN→Outs)
 | namB (e:EB) (k:EB→Outs)
 | namL (e:EL) (k:EL→Outs)
inductive LOut
 | one (e:Ex) (F:DFr) (H:DHp)
 | chk (b:EB) (x:LOut)
 | tst (b:EB) (x y:LOut)
 | imp (b:EB) (x:LOut)
 | allI (k:EI→LOut)
 | allN (k:EN→LOut)
 | allB (k:EB→LOut)
 | allL (k:EL→LOut)
 | namI (e:EI) (k:EI→LOut)
 | namN (e:EN) (k:EN→LOut)
 | namB (e:EB) (k:EB→LOut)
 | namL (e:EL) (k:EL→LOut)
def nf:EB→EB×Bool
 | .not b=>match nf b with | (b,s)=>(b,!s)
 | .cmp .neq a b=>(.cmp .eql a b,false)
 | .cmp .geq a b=>(.cmp .lss a b,false)
 | .cmp .gtr a b=>(.cmp .lss b a,true)
 | .cmp .leq a b=>(.cmp .lss b a,false)
 | b=>(b,true)
def look (b:EB):List (EB×Bool)→Option Bool
 | []=>none
 | (c,v)::fs=>match eqB b c with
  | true=>some v
  | false=>look b fs
def maxO:Option Int→Int→Option Int
 | none,b=>some b
 | some a,b=>some (if a<b then b else a)
def minO:Option Int→Int→Option Int
 | none,b=>some b
 | some a,b=>some (if b<a then b else a)
def Rt (a:EI):List (EB×Bool)→Option Int×Option Int
 | []=>match a with
  | .ofN _=>(some 0,none)
  | _=>(none,none)
 | (.cmp .eql b (.lit m),true)::fs=>match Db a b with
  | true=>(some m,some m)
  | false=>Rt a fs
 | (.cmp .lss b (.lit m),v)::fs=>match Db a b,v,Rt a fs with
  | true,true,(lo,hi)=>(lo,minO hi (m - 1))
  | true,false,(lo,hi)=>(maxO lo m,hi)
  | _,_,r=>r
 | (.cmp .lss (.lit m) b,v)::fs=>match Db a b,v,Rt a fs with
  | true,true,(lo,hi)=>(maxO lo (m+1),hi)
  | true,false,(lo,hi)=>(lo,minO hi m)
  | _,_,r=>r
 | _::fs=>Rt a fs
def decR (o:BinOp) (r:Option Int×Option Int) (s:Option Int×Option Int):Option Bool:=
 match o with
 | .lss=>match r,s with
  | (lo,hi),(lo',hi')=>match hi,lo' with
   | some a,some b=>match decide (a<b),lo,hi' with
    | true,_,_=>some true
    | false,some c,some d=>if d≤c then some false else none
    | false,_,_=>none
   | _,_=>match lo,hi' with
    | some c,some d=>if d≤c then some false else none
    | _,_=>none
 | .eql=>match r,s with
  | (lo,hi),(lo',hi')=>match (match hi,lo' with | some a,some b=>decide (a<b) | _,_=>false)||(match hi',lo with | some a,some b=>decide (a<b) | _,_=>false) with
   | true=>some false
   | false=>match lo,hi,lo',hi' with
    | some a,some b,some c,some d=>if a=b∧c=d∧a=c then some true else none
    | _,_,_,_=>none
 | _=>none
def Nx (fs:List (EB×Bool)):EI→Option Int×Option Int
 | .lit n=>(some n,some n)
 | a=>Rt a fs
def decN (fs:List (EB×Bool)) (b:EB):Option Bool:=
 match look b fs with
 | some v=>some v
 | none=>match b with
  | .cmp .eql x y=>match Db x y with
   | true=>some true
   | false=>decR .eql (Nx fs x) (Nx fs y)
  | .cmp .lss x y=>match Db x y with
   | true=>some false
   | false=>decR .lss (Nx fs x) (Nx fs y)
  | .eqS x y=>match eqS x y with
   | true=>some true
   | false=>none
  | .leN x y=>match eqN x y with
   | true=>some true
   | false=>none
  | .eqN x y=>match eqN x y with
   | true=>some true
   | false=>none
  | _=>none
def dec (fs:Facts) (b:EB):Option Bool:=
 match nf b with
 | (b,s)=>match decN fs.l b with
  | some v=>some (v==s)
  | none=>none
def Ej (fs:Facts) (b:EB) (v:Bool):Facts:=
 match nf b with
 | (b,s)=>⟨fs.n,(b,v==s)::fs.l⟩
def fresh (fs:Facts):Facts:=⟨fs.n+1,fs.l⟩
def Av (b:EB) (t:T):T:=
 match b with
 | .lit true=>t
 | .lit false=>.fail
 | .and a b=>Av a (Av b t)
 | b=>.chk b t
def V5 (fs:Facts) (b:EB) (x y:Facts→T):T:=
 match b with
 | .lit true=>x fs
 | .lit false=>y fs
 | .not b=>V5 fs b y x
 | .and a b=>V5 fs a (fun fs=>V5 fs b x y) y
 | .eqB a b=>V5 fs a (fun fs=>V5 fs b x y) (fun fs=>V5 fs b y x)
 | b=>match dec fs b with
  | some true=>.chk b (x fs)
  | some false=>.chk (.not b) (y fs)
  | none=>.tst b (x (Ej fs b true)) (y (Ej fs b false))
def Rz (o:Option (EB×EV)) (k:EV→T):T:=match o with | some (c,v)=>Av c (k v) | none=>.fail
def Yi:Value→EV
 | .bool b=>.bool (.lit b)
 | .int k n=>.int k (.lit n)
 | .string s=>.str (.lit s.data.toList)
 | .pointer none=>.nilp
 | .slice none 0 0=>.nils
 | .nilFunc=>.nilf
 | _=>.undef
def iH:Value→EV
 | .agg cs=>.agg (.of (cs.toList.map Yi))
 | v=>Yi v
noncomputable def evD (F:DFr):Operand→EV
 | .tmp t=>Kx F t
 | .const v=>iH v
 | .global _=>.undef
 | .func f=>.func f []
def binIntD (op:BinOp) (k:IntKind) (x y:EI):Option (EB×EV):=
 match op with
 | .add=>some (.lit true,.int k (Ak .add k x y))
 | .sub=>some (.lit true,.int k (Ak .sub k x y))
 | .mul=>some (.lit true,.int k (Ak .mul k x y))
 | .quo=>some (Bc (E4 .eql y (.lit 0)),.int k (Ak .quo k x y))
 | .rem=>some (Bc (E4 .eql y (.lit 0)),.int k (Ak .rem k x y))
 | .and=>some (.lit true,.int k (Ak .and k x y))
 | .or=>some (.lit true,.int k (Ak .or k x y))
 | .xor=>some (.lit true,.int k (Ak .xor k x y))
 | .andNot=>some (.lit true,.int k (Ak .andNot k x y))
 | .eql=>some (.lit true,.bool (E4 .eql x y))
 | .neq=>some (.lit true,.bool (Bc (E4 .eql x y)))
 | .lss=>some (.lit true,.bool (E4 .lss x y))
 | .leq=>some (.lit true,.bool (E4 .leq x y))
 | .gtr=>some (.lit true,.bool (E4 .gtr x y))
 | .geq=>some (.lit true,.bool (E4 .geq x y))
 | _=>none
def Nm (op:BinOp) (k:IntKind) (x y:EI):Option (EB×EV):=
 match op with
 | .shl=>some (E4 .leq (.lit 0) y,.int k (Ak .shl k x y))
 | .shr=>some (E4 .leq (.lit 0) y,.int k (Ak .shr k x y))
 | _=>none
def Eg:ES→EN
 | .lit s=>.lit s.length
 | s=>.slen s
def Vk (op:BinOp) (x y:ES):Option (EB×EV):=
 match op with
 | .add=>some (P7 (K4 (Eg x) (Eg y)) (.lit 9223372036854775807),.str (gX x y))
 | .eql=>some (.lit true,.bool (Sd x y))
 | .neq=>some (.lit true,.bool (Bc (Sd x y)))
 | _=>none
def Ek (op:BinOp) (c:Bool) (b:EB):Option (EB×EV):=
 match op with
 | .eql=>some (.lit c,.bool b)
 | .neq=>some (.lit c,.bool (Bc b))
 | _=>none
def Bb (P:Program) (t:TypeId) (l:EL) (o:EN):Option (EB×EV):=
 match P.underlying t with
 | some (.int k)=>match rdI k l o with
  | some (c,e)=>some (c,.int k e)
  | none=>none
 | some .bool=>match rdB l o with
  | some (c,e)=>some (c,.bool e)
  | none=>none
 | some (.struct _)=>match E1 P t with
  | some z=>some (P7 (K4 o (.lit z)) (W4 l),.agg (Cj l o (.lit z)))
  | none=>none
 | some (.array _ _)=>match E1 P t with
  | some z=>some (P7 (K4 o (.lit z)) (W4 l),.agg (Cj l o (.lit z)))
  | none=>none
 | some _=>match Qg o with
  | some n=>W0 l n
  | none=>none
 | none=>none
def Ow (P:Program) (rec:TypeId→EV→EV→Option (EB×EB)) (xs ys:EL):List Field→Option (EB×EB)
 | []=>some (.lit true,.lit true)
 | f::fs=>
  if f.name ≠ "_" then
   match Bb P f.type xs (.lit f.offset),Bb P f.type ys (.lit f.offset) with
   | some (c1,a),some (c2,b)=>
    match rec f.type a b,Ow P rec xs ys fs with
    | some (c3,r),some (c4,s)=>some (C7 c1 (C7 c2 (C7 c3 c4)),C7 r s)
    | _,_=>none
   | _,_=>none
  else Ow P rec xs ys fs
def Sz (P:Program) (rec:TypeId→EV→EV→Option (EB×EB)) (e:TypeId) (z:Nat) (xs ys:EL):List Nat→Option (EB×EB)
 | []=>some (.lit true,.lit true)
 | i::is=>
   match Bb P e xs (.lit (i*z)),Bb P e ys (.lit (i*z)) with
   | some (c1,a),some (c2,b)=>
    match rec e a b,Sz P rec e z xs ys is with
    | some (c3,r),some (c4,s)=>some (C7 c1 (C7 c2 (C7 c3 c4)),C7 r s)
    | _,_=>none
   | _,_=>none
def Vc (P:Program):Nat→TypeId→EV→EV→Option (EB×EB)
 | 0,_,_,_=>none
 | n+1,t,x,y=>
  match P.underlying t with
  | some (.int _)=>match x,y with
   | .int k a,.int k' b=>if k=k' then some (.lit true,E4 .eql a b) else none
   | _,_=>none
  | some .bool=>match x,y with
   | .bool a,.bool b=>some (.lit true,Yc a b)
   | _,_=>none
  | some .string=>match x,y with
   | .str a,.str b=>some (.lit true,Sd a b)
   | _,_=>none
  | some (.struct fs)=>match x,y with
   | .agg xs,.agg ys=>match P.stoodInHeld t with
    | true=>none
    | false=>Ow P (Vc P n) xs ys fs.toList
   | _,_=>none
  | some (.array m e)=>match x,y with
   | .agg xs,.agg ys=>match E1 P e with
    | some z=>Sz P (Vc P n) e z xs ys (List.range m)
    | none=>none
   | _,_=>none
  | _=>none
def eqA1 (P:Program) (t:TypeId) (as:List AV):Bool:=match as with
 | [x,y]=>match Lr P 10 t x y with
  | some (c,_)=>c
  | none=>false
 | _=>false
def eqA2 (P:Program) (t:TypeId) (as:List AV):Bool:=match as with
 | [x,y]=>match Lr P 10 t x y with
  | some (_,b)=>b
  | none=>false
 | _=>false
def gZ:EL→Bool
 | .of _=>true
 | _=>false
def oF (P:Program) (t:TypeId) (xs ys:EL):Option (EB×EB):=
 match gZ xs||gZ ys||(match E1 P t with | some z=>Nat.ble z 8 | none=>false) with
 | true=>Vc P 10 t (.agg xs) (.agg ys)
 | false=>some (.uf (100000+t) (eqA1 P t) [.agg xs,.agg ys],.uf (200000+t) (eqA2 P t) [.agg xs,.agg ys])
def oS (P:Program) (op:BinOp) (t:TypeId) (x y:EV):Option (EB×EV):=
 match x,y with
 | .int k a,.int k' b=>
  match op with
  | .shl | .shr=>Nm op k a b
  | _=>if k=k' then binIntD op k a b else none
 | .str a,.str b=>Vk op a b
 | .bool a,.bool b=>Ek op (Ol (P.underlying t)) (Yc a b)
 | .ptr _ _,.nilp=>Ek op (Ew (P.underlying t)) (.lit false)
 | .nilp,.ptr _ _=>Ek op (Ew (P.underlying t)) (.lit false)
 | .nilp,.nilp=>Ek op (Ew (P.underlying t)) (.lit true)
 | .slice false _ _ _,.nils=>Ek op (Dt (P.underlying t)) (.lit false)
 | .nils,.nils=>Ek op (Dt (P.underlying t)) (.lit true)
 | .func _ _,.nilf=>Ek op (Gi (P.underlying t)) (.lit false)
 | .nilf,.nilf=>Ek op (Gi (P.underlying t)) (.lit true)
 | .agg xs,.agg ys=>
  match P.eqGuardType P.depth t with
  | true=>none
  | false=>match oF P t xs ys with
   | some (c,b)=>match op with
    | .eql=>some (c,.bool b)
    | .neq=>some (c,.bool (Bc b))
    | _=>none
   | none=>none
 | _,_=>none
def unD (op:UnOp) (x:EV):Option (EB×EV):=
 match op,x with
 | .neg,.int k n=>some (.lit true,.int k (gV k n))
 | .xor,.int k n=>some (.lit true,.int k (gW k n))
 | .not,.bool b=>some (.lit true,.bool (Bc b))
 | _,_=>none
def iI (P:Program) (src dst:TypeId) (x:EV):Option (EB×EV):=
 match P.underlying src,P.underlying dst,x with
 | some _,some (.int k),.int _ n=>some (.lit true,.int k (aJ k n))
 | some _,some .string,.str s=>some (.lit true,.str s)
 | _,_,_=>none
def bM (P:Program) (s:TypeId) (x:EV) (f:Nat):Option (EB×EV):=
 match P.underlying s,x with
 | some (.struct fs),.ptr r off=>
  match fs[f]? with
  | some fd=>
   match E1 P fd.type with
   | some 0=>none
   | some _=>some (.lit true,.ptr r (K4 off (.lit fd.offset)))
   | none=>none
  | none=>none
 | _,_=>none
def aW (P:Program) (t:TypeId) (x i:EV):Option (EB×EV):=
 match i with
 | .int _ i=>
  match P.underlying t,x with
  | some (.array len e),.ptr r off=>
   match E1 P e with
   | some z=>some (C7 (E4 .leq (.lit 0) i) (E4 .lss i (.lit len)),.ptr r (K4 (O0 (W3 i) z) off))
   | none=>none
  | some (.slice e),.slice _ r off len=>
   match E1 P e with
   | some z=>some (C7 (E4 .leq (.lit 0) i) (E4 .lss i (Aj len)),.ptr r (K4 (O0 (W3 i) z) off))
   | none=>none
  | _,_=>none
 | _=>none
def Fc (x:Option EV) (d:EI):Option EI:=
 match x with
 | none=>some d
 | some (.int _ i)=>some i
 | some _=>none
def Ze (P:Program) (t:TypeId) (x:EV) (lo hi:Option EV):Option (EB×EV):=
 match P.underlying t,x with
 | some (.slice e),.slice mb r off len=>
  match E1 P e,Fc lo (.lit 0),Fc hi (Aj len) with
  | some z,some l,some h=>some (C7 (E4 .leq (.lit 0) l) (C7 (E4 .leq l h) (E4 .leq h (Aj len))),.slice mb r (K4 (O0 (W3 l) z) off) (gU (W3 h) (W3 l)))
  | _,_,_=>none
 | some (.slice e),.nils=>
  match E1 P e,Fc lo (.lit 0),Fc hi (.lit 0) with
  | some _,some l,some h=>some (C7 (E4 .leq (.lit 0) l) (C7 (E4 .leq l h) (E4 .leq h (.lit 0))),.nils)
  | _,_,_=>none
 | some .string,.str s=>
  match Fc lo (.lit 0),Fc hi (Aj (Eg s)) with
  | some l,some h=>some (C7 (E4 .leq (.lit 0) l) (C7 (E4 .leq l h) (E4 .leq h (Aj (Eg s)))),.str (.sub s (W3 l) (W3 h)))
  | _,_=>none
 | _,_=>none
def T6:EV→EL
 | .agg cs=>cs
 | v=>.of [v]
def Sk:EV→Bool
 | .undef=>false
 | _=>true
def Ok:EV→Bool
 | .undef | .agg _ | .tup _=>false
 | _=>true
def Hi:EL→EB
 | .of cs=>.lit (cs.all Ok)
 | .sub l o n=>.cells (.sub l o n)
 | l=>.cells l
def Fx (v:EV):EB:=
 match v with
 | .agg l=>Hi l
 | v=>.lit (Ok v)
def Jc (v:EV) (z:Nat):EB:=
 match v with
 | .agg l=>Yb (W4 l) (.lit z)
 | _=>.lit (Nat.beq 1 z)
def Kz (place:Nat→Option (Nat×Nat)) (cells:EL):List (Nat×EV)→Option (EB×EL)
 | []=>some (.lit true,cells)
 | (i,v)::rest=>
  match place i with
  | none=>none
  | some (off,size)=>
   match Kz place (Kn cells (.lit off) v) rest with
   | none=>none
   | some (c,r)=>match Sk v with
    | true=>some (C7 (Jc v size) (C7 (P7 (.lit (off+size)) (W4 cells)) c),r)
    | false=>none
def Fo (P:Program) (t:TypeId):Option EV:=
 match P.info? t with
 | some i=>match i.zero with
  | some z=>some (iH z)
  | none=>none
 | none=>none
def cI (P:Program) (t:TypeId) (parts:List (Nat×EV)):Option (EB×EV):=
 match P.underlying t,Fo P t with
 | some (.struct fs),some (.agg z)=>
  match Dn P fs.toList with
  | some ps=>
   match Kz (fun i=>ps[i]?) z parts with
   | some (c,cs)=>some (c,.agg cs)
   | none=>none
  | none=>none
 | some (.array _ e),some (.agg z)=>
  match E1 P e with
  | some n=>
   match Kz (fun i=>some (i*n,n)) z parts with
   | some (c,cs)=>some (c,.agg cs)
   | none=>none
  | none=>none
 | _,_=>none
def nU (P:Program) (t:TypeId) (x:EV):Option (EB×EV):=
 match P.underlying t,x with
 | some .string,.str s=>some (.lit true,.int .i64 (Aj (Eg s)))
 | some (.array n _),_=>some (.lit true,.int .i64 (.lit n))
 | some (.slice _),.slice _ _ _ n=>some (.lit true,.int .i64 (Aj n))
 | some (.slice _),.nils=>some (.lit true,.int .i64 (.lit 0))
 | _,_=>none
def oO (P:Program) (t:TypeId) (x:EV):Option (EB×EV):=
 match P.underlying t,x with
 | some (.slice _),.nils=>some (.lit true,.int .i64 (.lit 0))
 | _,_=>none
def nS (x y:EV):Option (EB×EV):=
 match x,y with
 | .int k a,.int k' b=>if k=k' then some (.lit true,.int k (.mx a b)) else none
 | _,_=>none
def nQ (x y:EV):Option (EB×EV):=
 match x,y with
 | .int k a,.int k' b=>if k=k' then some (.lit true,.int k (.mn a b)) else none
 | _,_=>none
def gS (c a b:EV):Option (EB×EV):=
 match c with
 | .bool (.lit true)=>some (.lit true,a)
 | .bool (.lit false)=>some (.lit true,b)
 | _=>none
def Mp (x:EV):Option (EB×EV):=
 match x with
 | .ptr r o=>some (.lit true,.ptr r o)
 | .func f c=>some (.lit true,.func f c)
 | .slice m r o n=>some (.lit true,.slice m r o n)
 | _=>none
noncomputable def Xz (P:Program) (F:DFr) (op:Op):Option (EB×EV):=
 match op with
 | .move x=>some (.lit true,evD F x)
 | .assign x=>some (.lit true,evD F x)
 | .pick c a b=>gS (evD F c) (evD F a) (evD F b)
 | .nilCheck x=>Mp (evD F x)
 | .binOp op t x y _=>oS P op t (evD F x) (evD F y)
 | .unOp op _ x=>unD op (evD F x)
 | .convert s d x=>iI P s d (evD F x)
 | .fieldAddr s x f=>bM P s (evD F x) f
 | .indexAddr t x i=>aW P t (evD F x) (evD F i)
 | .slice t x lo hi none=>Ze P t (evD F x) (lo.map (evD F)) (hi.map (evD F))
 | .build t parts=>cI P t (parts.toList.map fun p=>(p.1,evD F p.2))
 | .extract x i=>match evD F x with
  | .tup vs=>match vs[i]? with
   | some v=>some (.lit true,v)
   | none=>none
  | _=>none
 | .makeFunc (.func f) first cap=>if first.size=0 then some (.lit true,.func f (cap.toList.map (evD F))) else none
 | .call { callee:=.builtin .len,args,argTypes }=>
  match args.toList,argTypes.toList with
  | [x],[t]=>nU P t (evD F x)
  | _,_=>none
 | .call { callee:=.builtin .cap,args,argTypes }=>
  match args.toList,argTypes.toList with
  | [x],[t]=>oO P t (evD F x)
  | _,_=>none
 | .call { callee:=.builtin .max,args,.. }=>
  match args.toList with
  | [x,y]=>nS (evD F x) (evD F y)
  | _=>none
 | .call { callee:=.builtin .min,args,.. }=>
  match args.toList with
  | [x,y]=>nQ (evD F x) (evD F y)
  | _=>none
 | _=>none
def Mv (b:Rc):Bool:=Nat.beq b.esz 4294967291
def X8 (z:Nat):Nat→DHp→Nat→Option (List EV)
 | _,_,0=>some []
 | j,some ⟨z',.row l (.lit i)⟩::H,n+1=>match Nat.beq z z'&&Nat.beq i j with
  | true=>match X8 z (j+1) H n with
   | some ls=>some (.agg l::ls)
   | none=>none
  | false=>none
 | _,_,_+1=>none
def Ov (H:DHp) (b c:Nat):Option (Nat×EL×List EV):=
 match H.drop b with
 | some ⟨z,.row l (.lit _)⟩::_=>match Nat.beq z 4294967291 with
  | true=>none
  | false=>match X8 z 0 (H.drop b) c with
   | some ls=>some (z,l,ls)
   | none=>none
 | _=>none
def Oq (b c z:Nat) (l:EL):List DHop:=(List.range c).map fun j=>.set (b+j) ⟨z,.row l (.lit j)⟩
def Dz (H:DHp):ER→Option (EB×EL)
 | .rw i=>match H[i]? with
  | some (some b)=>match Mv b with
   | true=>none
   | false=>some (.lit true,b.cells)
  | _=>none
 | .ro n=>some (.lit true,.ro n)
 | .fm b c k=>match Ov H b c with
  | some (_,l,ls)=>some (C7 (P7 (K4 k (.lit 1)) (.lit c)) (.rows l ls),.row l k)
  | none=>none
def gY (l:Lf) (cs:EL) (off:EN):EV:=
 match l with
 | .int k=>.int k (.get cs off)
 | .bool=>.bool (.get cs off)
 | .str=>.str (.get cs off)
 | .sl=>.slice true (.ro (.rk cs off)) (.ro cs off) (.rn cs off)
def Jj (cs:EL):EN→List Lf→List EV
 | _,[]=>[]
 | off,l::ls=>gY l cs off::Jj cs (K4 off (.lit 1)) ls
def Zx (P:Program) (t:TypeId) (cs:EL) (off:EN):Option (EB×EV):=
 match P.underlying t with
 | some (.int k)=>some (.isI k cs off,.int k (.get cs off))
 | some .bool=>some (.isB cs off,.bool (.get cs off))
 | some .string=>some (.isT cs off,.str (.get cs off))
 | some (.slice _)=>some (.isR cs off,.slice true (.ro (.rk cs off)) (.ro cs off) (.rn cs off))
 | some (.struct _)=>match E1 P t,Oi P 10 t with
  | some z,some ls=>match Nat.beq ls.length z with
   | true=>some (.leaf cs off ls,.agg (.of (Jj cs off ls)))
   | false=>none
  | _,_=>none
 | some (.array _ _)=>match E1 P t,Oi P 10 t with
  | some z,some ls=>match Nat.beq ls.length z with
   | true=>some (.leaf cs off ls,.agg (.of (Jj cs off ls)))
   | false=>none
  | _,_=>none
 | _=>none
def kE (P:Program) (r:ER) (t:TypeId) (cs:EL) (off:EN):Option (EB×EV):=
 match r with
 | .rw _=>Bb P t cs off
 | .ro _=>Zx P t cs off
 | .fm _ _ _=>Bb P t cs off
def Ye (P:Program) (H:DHp) (t:TypeId) (r:ER) (off:EN):Option (EB×EV):=
 match Dz H r with
 | some (c0,cs)=>match kE P r t cs off with
  | some (c,v)=>some (C7 c0 c,v)
  | none=>none
 | none=>none
def Up (cs:List AV) (o:Nat):Bool:=match cs[o]? with | some (.slice true (.ro _) _ _)=>true | _=>false
def pS:List AV→Bool:=fun vs=>match vs with
 | [.agg cs,.int _ o]=>Up cs o.toNat
 | _=>false
inductive FL where
 | int (k:IntKind)
 | bool
 | sl (b c:Nat)
def pW (rec:TypeId→Option (List FL)):Nat→List Field→Option (List FL)
 | _,[]=>some []
 | acc,f::fs=>
  match Nat.beq f.offset acc with
  | true=>match rec f.type with
   | some a=>match pW rec (acc+a.length) fs with
    | some b=>some (a++b)
    | none=>none
   | none=>none
  | false=>none
def pV (P:Program) (fam:TypeId→Option (Nat×Nat)):Nat→TypeId→Option (List FL)
 | 0,_=>none
 | n+1,t=>
  match P.underlying t with
  | some (.int k)=>some [.int k]
  | some .bool=>some [.bool]
  | some (.slice _)=>match fam t with
   | some (b,c)=>some [.sl b c]
   | none=>none
  | some (.struct fs)=>pW (pV P fam n) 0 fs.toList
  | _=>none
def Ou (l:EL) (o:EN):FL→EV
 | .int k=>.int k (.get l o)
 | .bool=>.bool (.get l o)
 | .sl b c=>match c with
  | 0=>.slice true (.ro (.rk l o)) (.ro l o) (.rn l o)
  | _=>.slice true (.fm b c (.fk b l o)) (.fo l o) (.fn l o)
def Ot (l:EL) (o:EN):FL→EB
 | .int k=>.isI k l o
 | .bool=>.isB l o
 | .sl b c=>match c with
  | 0=>.uf 1099 pS [.agg l,.int .i64 (.ofN o)]
  | _=>.isF b c l o
def Sw (l:EL):EN→List FL→List EV
 | _,[]=>[]
 | o,f::fs=>Ou l o f::Sw l (K4 o (.lit 1)) fs
def Yh (l:EL):EN→List FL→EB
 | _,[]=>.lit true
 | o,f::fs=>C7 (Ot l o f) (Yh l (K4 o (.lit 1)) fs)
inductive FamR where
 | val (c:EB) (v:EV)
 | ptr (n c:EB) (v:EV)
def bO (fam:TypeId→Option (Nat×Nat)) (P:Program) (t:TypeId) (cs:EL) (off:EN):Option FamR:=
 match fam t with
 | none=>none
 | some (b,c)=>match P.underlying t with
  | some (.struct _)=>match gZ cs with
   | true=>none
   | false=>match E1 P t,pV P fam 10 t with
    | some z,some ls=>match Nat.beq ls.length z&&Nat.ble 1 z with
     | true=>some (.val (Yh cs off ls) (.agg (.of (Sw cs off ls))))
     | false=>none
    | _,_=>none
  | some (.slice _)=>match Bb P t cs off with
   | some _=>none
   | none=>some (.val (Ot cs off (.sl b c)) (Ou cs off (.sl b c)))
  | some (.pointer _)=>match Bb P t cs off with
   | some _=>none
   | none=>some (.ptr (.isNil cs off) (.isP b c cs off) (.ptr (.fm b c (.fk b cs off)) (.fo cs off)))
  | _=>none
noncomputable def bQ (fam:TypeId→Option (Nat×Nat)) (P:Program) (F:DFr) (H:DHp) (op:Op):Option (EB×FamR):=
 match op with
 | .load t a=>match evD F a with
  | .ptr r off=>match r with
   | .ro _=>none
   | r=>match Dz H r with
    | some (c0,cs)=>match bO fam P t cs off with
     | some x=>some (c0,x)
     | none=>none
    | none=>none
  | _=>none
 | .field t x f=>
  match P.underlying t,evD F x with
  | some (.struct fs),.agg cs=>match fs[f]? with
   | some fd=>match bO fam P fd.type cs (.lit fd.offset) with
    | some x=>some (.lit true,x)
    | none=>none
   | none=>none
  | _,_=>none
 | .index t x i=>
  match P.underlying t,evD F x,evD F i with
  | some (.array len e),.agg cs,.int _ i=>match E1 P e with
   | some z=>match bO fam P e cs (O0 (W3 i) z) with
    | some x=>some (C7 (E4 .leq (.lit 0) i) (E4 .lss i (.lit len)),x)
    | none=>none
   | none=>none
  | _,_,_=>none
 | _=>none
def Uy (fs:Facts) (o:EB×FamR) (k:Facts→EV→T):T:=
 match o with
 | (c0,.val c v)=>Av c0 (Av c (k fs v))
 | (c0,.ptr n c v)=>Av c0 (V5 fs n (fun fs=>k fs .nilp) (fun fs=>Av c (k fs v)))
def jH (cs:EL) (off n:EN):EB×EV:=
 (C7 (P7 (K4 off n) (W4 cs)) (.u8s (Cj cs off n)),.str (.ofL (Cj cs off n)))
noncomputable def Xy (P:Program) (F:DFr) (H:DHp) (op:Op):Option (EB×EV):=
 match op with
 | .load t a=>match evD F a with
  | .ptr r off=>Ye P H t r off
  | _=>none
 | .field t x f=>
  match P.underlying t,evD F x with
  | some (.struct fs),.agg cs=>match fs[f]? with
   | some fd=>Bb P fd.type cs (.lit fd.offset)
   | none=>none
  | _,_=>none
 | .index t x i=>
  match P.underlying t,evD F x,evD F i with
  | some (.array len e),.agg cs,.int _ i=>match E1 P e with
   | some z=>match Bb P e cs (O0 (W3 i) z) with
    | some (c,v)=>some (C7 (E4 .leq (.lit 0) i) (C7 (E4 .lss i (.lit len)) c),v)
    | none=>none
   | none=>none
  | _,_,_=>none
 | .convert s d x=>
  match Q7 P s&&S9 P d,evD F x with
  | true,.nils=>some (.lit true,.str (.lit []))
  | true,.slice _ r off n=>match Dz H r with
   | some (c0,cs)=>match jH cs off n with
    | (c,v)=>some (C7 c0 c,v)
   | none=>none
  | _,_=>none
 | _=>none
noncomputable def Nv (F:DFr) (op:Op):Option ER:=
 match op with
 | .load _ a=>match evD F a with
  | .ptr r _=>some r
  | _=>none
 | .convert _ _ x=>match evD F x with
  | .slice _ r _ _=>some r
  | _=>none
 | _=>none
def O1 (H:DHp):ER:=.rw H.length
def mQ (H:DHp) (z:Nat) (x:EV):Option (EB×EN×EL):=
 match x with
 | .nils=>some (.lit true,.lit 0,.of [])
 | .slice _ r off m=>match Dz H r with
  | some (c0,cs)=>some (C7 c0 (C7 (P7 (K4 off (O0 m z)) (W4 cs)) (Hi (Cj cs off (O0 m z)))),m,Cj cs off (O0 m z))
  | none=>none
 | .str s=>match Nat.beq z 1 with
  | true=>some (.lit true,Eg s,Oh s)
  | false=>none
 | _=>none
def Ks (z:Option EV) (n:Nat):Bool:=match z with
 | some v=>match T6 v with
  | .of cs=>Nat.beq cs.length n
  | _=>false
 | none=>false
def Pc (P:Program) (H:DHp) (t:TypeId) (s x:EV):Option (EB×EV×DHop):=
 match P.underlying t with
 | some (.slice e)=>
  match P.info? e,Fo P e with
  | some i,some zv=>
   match As i.size&&(Nat.ble 1 i.bytes&&Ks (some zv) i.size) with
   | false=>none
   | true=>
   match mQ H i.size x with
   | some (c,m,xs)=>
    match s with
    | .nils=>some (C7 c (P7 (O0 m i.bytes) (.lit 140737488355328)),.slice true (O1 H) (.lit 0) m,.new ⟨i.size,xs⟩)
    | .slice mb (.rw j) (.lit 0) (.lit 0)=>
     match H[j]? with
     | some (some b)=>match Nat.beq b.esz i.size with
      | true=>some (C7 c (P7 (O0 m i.bytes) (.lit 140737488355328)),.slice mb (O1 H) (.lit 0) m,.app j ⟨i.size,xs⟩)
      | false=>none
     | _=>none
    | .slice mb (.rw j) (.lit 0) (.mul n 1)=>
     match H[j]? with
     | some (some b)=>match Nat.beq b.esz i.size with
      | true=>some (C7 c (C7 (P7 (O0 (K4 n m) i.bytes) (.lit 140737488355328)) (P7 (O0 n i.size) (W4 b.cells))),.slice mb (O1 H) (.lit 0) (K4 n m),.app j ⟨i.size,Se (Cj b.cells (.lit 0) (O0 n i.size)) xs⟩)
      | false=>none
     | _=>none
    | .slice mb (.rw j) (.lit 0) n=>
     match H[j]? with
     | some (some b)=>match Nat.beq b.esz i.size with
      | true=>some (C7 c (C7 (P7 (O0 (K4 n m) i.bytes) (.lit 140737488355328)) (Yb (W4 b.cells) (O0 n i.size))),.slice mb (O1 H) (.lit 0) (K4 n m),.app j ⟨i.size,Se b.cells xs⟩)
      | false=>none
     | _=>none
    | _=>none
   | none=>none
  | _,_=>none
 | _=>none
def Og (l:EL) (o:EN) (v:EV) (z:Nat):EL:=
 match v with
 | .agg d=>match gZ d,l,o with
  | false,.of cs,.lit 0=>match Nat.beq cs.length z with
   | true=>d
   | false=>Kn l o v
  | _,_,_=>Kn l o v
 | v=>Kn l o v
def iO (z:Nat) (as:List AV):Int:=match as with
 | [.int _ n]=>n*z
 | _=>0
def Hh (P:Program) (H:DHp) (t:TypeId) (s x:EV):Option (EB×EV×DHop):=
 match P.underlying t,s,x with
 | some (.slice e),.nils,.int .i64 n=>
  match P.info? e,Fo P e with
  | some i,some zv=>match As i.size&&(Nat.ble 1 i.bytes&&(Ks (some zv) i.size&&Nat.ble 1 i.size)) with
   | true=>some (C7 (E4 .leq (.lit 0) n) (E4 .leq (mkBigD n i.bytes) (.lit 140737488355328)),.slice true (O1 H) (.lit 0) (W3 n),.new ⟨i.size,Sc (W3 n) (T6 zv)⟩)
   | false=>none
  | _,_=>none
 | _,_,_=>none
where
 mkBigD (c:EI) (z:Nat):EI:=match c with
  | .lit n=>.lit (n*z)
  | c=>.uf (300000+z) (iO z) [.int .i64 c]
def cB (P:Program) (H:DHp) (t:TypeId) (x:EV):Option (EB×EV×DHop):=
 match P.underlying t,x with
 | some (.slice e),.slice _ (.rw j) off n=>
  match E1 P e,Fo P e,H[j]? with
  | some z,some zv,some (some b)=>match Mv b||!(Ks (some zv) z&&Nat.ble 1 z) with
   | true=>none
   | false=>some (C7 (P7 (.lit 1) n) (C7 (Hi (T6 zv)) (P7 (K4 off (O0 n z)) (W4 b.cells))),.tup [],.set j ⟨b.esz,Kn b.cells off (.agg (Sc n (T6 zv)))⟩)
  | _,_,_=>none
 | _,_=>none
noncomputable def Iw (P:Program) (F:DFr) (H:DHp) (op:Op):Option (EB×EV×DHop):=
 match op with
 | .store t a x=>
  match evD F a,E1 P t with
  | .ptr (.rw i) off,some z=>match H[i]? with
   | some (some b)=>match Mv b with
    | true=>none
    | false=>some (C7 (Fx (evD F x)) (C7 (Jc (evD F x) z) (P7 (K4 off (.lit z)) (W4 b.cells))),.tup [],.set i ⟨b.esz,Og b.cells off (evD F x) z⟩)
   | _=>none
  | _,_=>none
 | .alloc e=>match Fo P e with
  | some z=>some (.lit true,.ptr (O1 H) (.lit 0),.new ⟨1,T6 z⟩)
  | none=>none
 | .box _ x=>match Sk (evD F x) with
  | true=>some (.lit true,.ptr (O1 H) (.lit 0),.new ⟨1,T6 (evD F x)⟩)
  | false=>none
 | .buildSlice t n parts=>
  match P.underlying t with
  | some (.slice e)=>match E1 P e,Fo P e with
   | some z,some zv=>
    match T6 zv with
    | .of cs=>
     match As z&&(Nat.ble (n*z) 16777216&&Nat.beq cs.length z) with
     | true=>match Kz (fun i=>some (i*z,z)) (.of ((List.replicate n cs).flatten)) (parts.toList.map fun p=>(p.1,evD F p.2)) with
      | some (c,cs)=>some (c,.slice false (O1 H) (.lit 0) (.lit n),.new ⟨z,cs⟩)
      | none=>none
     | false=>none
    | _=>none
   | _,_=>none
  | _=>none
 | .makeSlice t l c=>
  match P.underlying t,evD F l,evD F c with
  | some (.slice e),.int _ l,.int _ c=>match P.info? e,Fo P e with
   | some i,some zv=>match As i.size&&(Ks (some zv) i.size&&Nat.ble 1 i.size) with
    | true=>some (C7 (E4 .leq (.lit 0) l) (C7 (E4 .leq l c) (C7 (E4 .leq (mkBig c i.bytes) (.lit 140737488355328)) (E4 .leq c (.lit 140737488355328)))),.slice false (O1 H) (.lit 0) (W3 l),.new ⟨i.size,Sc (W3 l) (T6 zv)⟩)
    | false=>none
   | _,_=>none
  | _,_,_=>none
 | .convert s d x=>
  match S9 P s&&Q7 P d,evD F x with
  | true,.str s=>some (P7 (Eg s) (.lit 140737488355328),.slice false (O1 H) (.lit 0) (Eg s),.new ⟨1,Oh s⟩)
  | false,.slice mb (.rw i) off n=>match Q7 P s&&Nat.beq s d with
   | true=>match H[i]? with
    | some (some b)=>match Mv b with
     | true=>none
     | false=>some (P7 (.lit 1) n,.slice mb (.rw i) off n,.set i b)
    | _=>none
   | false=>none
  | _,_=>none
 | .call { callee:=.builtin .append,args,argTypes }=>
  match args.toList,argTypes.toList with
  | [s,x],[t,u]=>match P.underlying u with
   | some (.slice _)=>Pc P H t (evD F s) (evD F x)
   | some .string=>Pc P H t (evD F s) (evD F x)
   | some (.int _)=>Hh P H t (evD F s) (evD F x)
   | _=>none
  | _,_=>none
 | .call { callee:=.builtin .clear,args,argTypes }=>
  match args.toList,argTypes.toList with
  | [x],[t]=>cB P H t (evD F x)
  | _,_=>none
 | _=>none
where
 mkBig (c:EI) (z:Nat):EI:=match c with
  | .lit n=>.lit (n*z)
  | c=>.uf (300000+z) (iO z) [.int .i64 c]
noncomputable def Tt (P:Program) (F:DFr) (H:DHp) (op:Op):Option (EB×List DHop):=
 match op with
 | .store t a x=>
  match evD F a,E1 P t with
  | .ptr (.fm b c k) off,some z=>match Ov H b c with
   | some (z0,l,ls)=>some (C7 (P7 (K4 k (.lit 1)) (.lit c)) (C7 (.rows l ls) (C7 (P7 (K4 k (.lit 1)) (.len l)) (C7 (Fx (evD F x)) (C7 (Jc (evD F x) z) (P7 (K4 off (.lit z)) (W4 (.row l k))))))),Oq b c z0 (.put l k (Og (.row l k) off (evD F x) z)))
   | none=>none
  | _,_=>none
 | _=>none
noncomputable def Pb (F:DFr) (op:Op):Option (FuncId×List EV):=
 match op with
 | .call { callee:=.value f,args,.. }=>match evD F f with
  | .func g cap=>some (g,args.toList.map (evD F)++cap)
  | _=>none
 | _=>none
noncomputable def Ts (F:DFr) (op:Op):Option (Nat×List EV):=
 match op with
 | .call { callee:=.value f,args,.. }=>match evD F f with
  | .yld i=>some (i,args.toList.map (evD F))
  | _=>none
 | _=>none
noncomputable def Ue (P:Program) (F:DFr) (H:DHp):ResultVar→Option (EB×EV)
 | .tmp t=>some (.lit true,Kx F t)
 | .cell a t=>match Kx F a with
  | .ptr r off=>Ye P H t r off
  | _=>none
noncomputable def Jh (P:Program) (F:DFr) (H:DHp):List ResultVar→Option (EB×List EV)
 | []=>some (.lit true,[])
 | x::xs=>match Ue P F H x with
  | some (c,v)=>match Jh P F H xs with
   | some (d,r)=>some (C7 c d,v::r)
   | none=>none
  | none=>none
noncomputable def nC (P:Program) (fn:Func) (F:DFr) (H:DHp):Option (EB×EV):=
 match Jh P F H fn.results.toList with
 | some (c,[v])=>some (c,v)
 | some (c,vs)=>some (c,.tup vs)
 | none=>none
inductive DTrK where
 | still
 | read (r:ER)
 | write
structure To where
 kd:DTrK
 len:Nat
 hs:List DHop
def Iy (i:Nat) (len:Nat):List DHop→Bool
 | []=>false
 | .set j _::hs=>j==i||Iy i len hs
 | .new _::hs=>len==i||Iy i (len+1) hs
 | .app j _::hs=>j==i||(len==i||Iy i (len+1) hs)
def Ix (r:ER) (len:Nat) (hs:List DHop):Bool:=
 match r with
 | .rw i=>Iy i len hs
 | .ro _=>false
 | .fm _ _ _=>true
def Vm (x y:To):Bool:=
 match x.kd,y.kd with
 | .write,.write=>false
 | .write,.read r=>!Ix r x.len x.hs
 | .read r,.write=>!Ix r y.len y.hs
 | _,_=>true
def Ve (all:List Oper) (trs:List To):Bool:=
 let ms:=Bd all []
 Jp 0 all&&(List.range all.length).all fun j=>(List.range j).all fun i=>
  (ms.getD j 0).testBit i ||
  (match all[i]?,all[j]?,trs[i]?,trs[j]? with
   | some x,some y,some a,some b=>Ju all x y&&Vm a b
   | _,_,_,_=>false)
def X2:Bool→Nat→DHp→Option (List DHop)
 | false,_,[]=>some []
 | true,_,[]=>none
 | false,i,some b::H'=>match X2 false (i+1) H' with
  | some hs=>some (.new b::hs)
  | none=>none
 | true,i,some b::H'=>match X2 false (i+1) H' with
  | some hs=>some (.app (i - 1) b::hs)
  | none=>none
 | false,i,none::H'=>match X2 true (i+1) H' with
  | some hs=>some (.new ⟨0,.of []⟩::hs)
  | none=>none
 | true,i,none::H'=>match X2 true (i+1) H' with
  | some hs=>some (.app (i - 1) ⟨0,.of []⟩::hs)
  | none=>none
def El:Nat→DHp→DHp→Option (List DHop)
 | i,[],H'=>X2 false i H'
 | i,_::H,some b::H'=>match El (i+1) H H' with
  | some hs=>some (.set i b::hs)
  | none=>none
 | i,none::H,none::H'=>El (i+1) H H'
 | _,_,_=>none
inductive DWk where
 | code (c:Code)
 | ops (all l:List Oper)
 | dr (all l:List Oper) (trs:List To)
structure DCfg where
 P:Program
 inl:FuncId→Bool
 sum:FuncId→List EV→DHp→Option Outs
 loop:Code→DFr→DHp→Option LOut
 M:Nat
 rng:Code→DFr→DHp→Option LOut:=fun _ _ _=>none
 ysum:Nat→List EV→DHp→Option Outs:=fun _ _ _=>none
 /-- which types' slices and pointers lie in which family (where it begins,how many rows it bA);which structs are to be read field by field -/
 fam:TypeId→Option (Nat×Nat):=fun _=>none
abbrev DK:=Ex→DFr→DHp→Facts→T
abbrev DRec:=Nat→DWk→DFr→DHp→Facts→DK→T
def Y1 (K:DCfg) (rec:Code→Bool) (o:Oper):Bool:=
 match kdOf K.P o.op with
 | .pure=>true
 | .read=>true
 | .write=>false
 | .call=>match o.op with
  | .call { callee:=.value (.func g),.. }=>K.inl g&&(match K.P.funcs[g]? with
   | some fn=>match fn.body with
    | some c=>rec c
    | none=>true
   | none=>true)
  | _=>false
def M3 (K:DCfg) (rec:Code→Bool):Code→Bool
 | .skip=>true
 | .region _ ops _=>ops.toList.all (Y1 K rec)
 | .seq a b=>M3 K rec a&&M3 K rec b
 | .cond _ a b=>M3 K rec a&&M3 K rec b
 | .block _ c=>M3 K rec c
 | .loop _=>false
 | .exit _=>true
 | .scope c=>M3 K rec c
 | .label _=>true
 | .ret=>true
 | _=>false
def K8 (K:DCfg):Nat→Code→Bool
 | 0,_=>false
 | d+1,c=>M3 K (K8 K d) c
def Fa (fn:Func) (args:List EV):DFr:=args++List.replicate (fn.ntmps - args.length) (.tup [])
noncomputable def I7 (F:DFr) (d:Option Tmp) (v:EV):DFr:=
 match d with
 | some d=>gF F d v
 | none=>F
noncomputable def Mf (P:Program) (fn:Func) (Q:EV→DHp→Facts→T) (e:Ex) (F:DFr) (H:DHp) (fs:Facts):T:=
 match e with
 | .exit _=>.fail
 | _=>Rz (nC P fn F H) fun v=>Q v H fs
def Z6 (fs:Facts) (o:Outs) (k:Facts→EV→List DHop→T):T:=
 match o with
 | .one v hs=>k fs v hs
 | .chk b x=>Av b (Z6 fs x k)
 | .tst b x y=>V5 fs b (fun fs=>Z6 fs x k) (fun fs=>Z6 fs y k)
 | .namI e f=>.namI fs.n e fun x=>Z6 (fresh fs) (f (.var fs.n x)) k
 | .namN e f=>.namN fs.n e fun x=>Z6 (fresh fs) (f (.var fs.n x)) k
 | .namB e f=>.namB fs.n e fun x=>Z6 (fresh fs) (f (.var fs.n x)) k
 | .namL e f=>.namL fs.n e fun x=>Z6 (fresh fs) (f (.var fs.n x)) k
def S8 (fs:Facts) (o:LOut) (k:Facts→Ex→DFr→DHp→T):T:=
 match o with
 | .one e F H=>k fs e F H
 | .chk b x=>Av b (S8 fs x k)
 | .tst b x y=>V5 fs b (fun fs=>S8 fs x k) (fun fs=>S8 fs y k)
 | .imp b x=>.imp b (S8 (Ej fs b true) x k)
 | .allI f=>.allI fs.n fun x=>S8 (fresh fs) (f (.var fs.n x)) k
 | .allN f=>.allN fs.n fun x=>S8 (fresh fs) (f (.var fs.n x)) k
 | .allB f=>.allB fs.n fun x=>S8 (fresh fs) (f (.var fs.n x)) k
 | .allL f=>.allL fs.n fun x=>S8 (fresh fs) (f (.var fs.n x)) k
 | .namI e f=>.namI fs.n e fun x=>S8 (fresh fs) (f (.var fs.n x)) k
 | .namN e f=>.namN fs.n e fun x=>S8 (fresh fs) (f (.var fs.n x)) k
 | .namB e f=>.namB fs.n e fun x=>S8 (fresh fs) (f (.var fs.n x)) k
 | .namL e f=>.namL fs.n e fun x=>S8 (fresh fs) (f (.var fs.n x)) k
def E8 (ro:Bool) (H:DHp):T→Option Outs
 | .ret v H'=>match ro with
  | true=>some (.one v [])
  | false=>match El 0 H H' with
   | some hs=>some (.one v hs)
   | none=>none
 | .chk b t=>match E8 ro H t with
  | some o=>some (.chk b o)
  | none=>none
 | .tst b x y=>match E8 ro H x,E8 ro H y with
  | some o,some p=>some (.tst b o p)
  | _,_=>none
 | _=>none
noncomputable def Tz (K:DCfg) (rec:DRec) (m:Nat) (all l:List Oper) (dst:Option Tmp) (op:Op) (F:DFr) (H:DHp) (fs:Facts) (Q:DK):T:=
 match kdOf K.P op with
 | .pure=>Rz (Xz K.P F op) fun v=>rec m (.ops all l) (I7 F dst v) H fs Q
 | .read=>match bQ K.fam K.P F H op with
  | some o=>Uy fs o fun fs v=>rec m (.ops all l) (I7 F dst v) H fs Q
  | none=>Rz (Xy K.P F H op) fun v=>rec m (.ops all l) (I7 F dst v) H fs Q
 | .write=>match Iw K.P F H op with
  | some (c,v,h)=>Av c (rec m (.ops all l) (I7 F dst v) (h.act H) fs Q)
  | none=>match Tt K.P F H op with
   | some (c,hs)=>Av c (rec m (.ops all l) (I7 F dst (.tup [])) (Em H hs) fs Q)
   | none=>.fail
 | .call=>match Pb F op with
  | some (f,args)=>match K.inl f with
   | true=>match K.P.funcs[f]? with
    | some fn=>match fn.body with
     | some c => match fn.name == "runtime.NumGoroutine" with
      | true=>.fail
      | false=>rec H.length (.code c) (Fa fn args) H fs (Mf K.P fn fun v H' fs=>rec m (.ops all l) (I7 F dst v) H' fs Q)
     | none=>.fail
    | none=>.fail
   | false=>match K.sum f args H with
    | some o=>Z6 fs o fun fs v hs=>rec m (.ops all l) (I7 F dst v) (Em H hs) fs Q
    | none=>.fail
  | none=>match Ts F op with
   | some (i,args)=>match K.ysum i args H with
    | some o=>Z6 fs o fun fs v hs=>rec m (.ops all l) (I7 F dst v) (Em H hs) fs Q
    | none=>.fail
   | none=>.fail
noncomputable def Jm (fs:Facts) (all:List Oper) (guard:Option (Nat×Bool)) (F:DFr) (go skip:DFr→Facts→T):T:=
 match guard with
 | none=>go F fs
 | some (j,want)=>
  match (all[j]?).bind (·.dst) with
  | some t=>
   match Kx F t with
   | .bool b=>V5 fs b
     (fun fs=>match want with | true=>go (I7 F (some t) (.bool (.lit true))) fs | false=>skip (I7 F (some t) (.bool (.lit true))) fs)
     (fun fs=>match want with | true=>skip (I7 F (some t) (.bool (.lit false))) fs | false=>go (I7 F (some t) (.bool (.lit false))) fs)
   | .tup []=>skip F fs
   | _=>.fail
  | none=>.fail
noncomputable def Gs (K:DCfg) (rec:DRec) (m:Nat) (all l:List Oper) (F:DFr) (H:DHp) (fs:Facts) (Q:DK):T:=
 match l with
 | []=>Q .normal F H fs
 | ⟨dst,op,_,_,_,guard⟩::l=>
  Jm fs all guard F (fun F fs=>Tz K rec m all l dst op F H fs Q) (fun F fs=>rec m (.ops all l) (I7 F dst (.tup [])) H fs Q)
noncomputable def Lx (K:DCfg) (rec:DRec) (m:Nat) (all l:List Oper) (trs:List To) (dst:Option Tmp) (op:Op) (F:DFr) (H:DHp) (fs:Facts) (Q:DK):T:=
  match kdOf K.P op with
  | .pure=>Rz (Xz K.P F op) fun v=>rec m (.dr all l (trs++[⟨.still,H.length,[]⟩])) (I7 F dst v) H fs Q
  | .read=>match bQ K.fam K.P F H op with
    | some o=>Uy fs o fun fs v=>rec m (.dr all l (trs++[⟨(match Nv F op with | some r=>.read r | none=>.still),H.length,[]⟩])) (I7 F dst v) H fs Q
    | none => Rz  (Xy    K.P F H op) fun v => rec m (.dr all l (trs ++ [⟨(match Nv    F op with | some r => .read r | none => .still), H.length, []⟩])) (I7   F dst v) H fs Q
  | .write => match Iw     K.P F H op with
    | some (c,v,h)=>Av c (rec m (.dr all l (trs++[⟨.write,H.length,[h]⟩])) (I7 F dst v) (h.act H) fs Q)
    | none => .fail
  | .call=>match Pb F op with
    | some (f,args)=>match K.inl f with
      | true=>match K.P.funcs[f]? with
        | some fn=>match fn.body with
          | some c => match fn.name == "runtime.NumGoroutine" with
            | true=>.fail
            | false=>match E8 (K8 K 20 c) H (rec H.length (.code c) (Fa fn args) H fs (Mf K.P fn fun v H' _=>.ret v H')) with
              | some o=>Z6 fs o fun fs v hs=>rec m (.dr all l (trs++[⟨.write,H.length,hs⟩])) (I7 F dst v) (Em H hs) fs Q
              | none=>.fail
          | none=>.fail
        | none=>.fail
      | false=>match K.sum f args H with
        | some o=>Z6 fs o fun fs v hs=>rec m (.dr all l (trs++[⟨.write,H.length,hs⟩])) (I7 F dst v) (Em H hs) fs Q
        | none=>.fail
    | none=>match Ts F op with
      | some (i,args)=>match K.ysum i args H with
        | some o=>Z6 fs o fun fs v hs=>rec m (.dr all l (trs++[⟨.write,H.length,hs⟩])) (I7 F dst v) (Em H hs) fs Q
        | none=>.fail
      | none=>.fail
noncomputable def Dh (K:DCfg) (rec:DRec) (m:Nat) (all l:List Oper) (trs:List To) (F:DFr) (H:DHp) (fs:Facts) (Q:DK):T:=
 match l with
 | []=>match Ve all trs with
  | true=>Q .normal F H fs
  | false=>.fail
 | ⟨dst,op,_,_,_,guard⟩::l=>
  Jm fs all guard F (fun F fs=>Lx K rec m all l trs dst op F H fs Q) (fun F fs=>rec m (.dr all l (trs++[⟨.still,H.length,[]⟩])) (I7 F dst (.tup [])) H fs Q)
noncomputable def Ly (_K:DCfg) (rec:DRec) (m:Nat) (c:Operand) (x y:Code) (F:DFr) (H:DHp) (fs:Facts) (Q:DK):T:=
 match c with
 | .tmp t=>match Kx F t with
  | .bool b=>V5 fs b (fun fs=>rec m (.code x) (I7 F (some t) (.bool (.lit true))) H fs Q) (fun fs=>rec m (.code y) (I7 F (some t) (.bool (.lit false))) H fs Q)
  | _=>.fail
 | .const (.bool b)=>match b with
  | true=>rec m (.code x) F H fs Q
  | false=>rec m (.code y) F H fs Q
 | _=>.fail
def fY (rec:DRec) (m:Nat) (b:Code) (Q:DK):DK:=fun e F H fs=>match e with
 | .normal=>rec m (.code b) F H fs Q
 | e=>Q e F H fs
def Tj (id:Nat) (Q:DK):DK:=fun e F H fs=>match e with
 | .exit i=>match i==id with
  | true=>Q .normal F H fs
  | false=>Q (.exit i) F H fs
 | e=>Q e F H fs
noncomputable def Z1 (K:DCfg) (rec:DRec) (m:Nat) (c:Code) (F:DFr) (H:DHp) (fs:Facts) (Q:DK):T:=
 match c with
 | .skip=>Q .normal F H fs
 | .region _ ops draw=>match draw with
  | true=>rec m (.dr ops.toList ops.toList []) F H fs Q
  | false=>rec m (.ops ops.toList ops.toList) F H fs Q
 | .seq a b=>rec m (.code a) F H fs (fY rec m b Q)
 | .cond c x y=>Ly K rec m c x y F H fs Q
 | .block id c=>rec m (.code c) F H fs (Tj id Q)
 | .loop c=>match Nat.ble m K.M with
  | true=>match K.loop c F H with
   | some o=>S8 fs o fun fs e F H=>Q e F H fs
   | none=>.fail
  | false=>.fail
 | .rangeFunc g ps as bd=>match Nat.ble m K.M with
  | true=>match K.rng (.rangeFunc g ps as bd) F H with
   | some o=>S8 fs o fun fs e F H=>Q e F H fs
   | none=>.fail
  | false=>.fail
 | .exit id=>Q (.exit id) F H fs
 | .scope c=>rec m (.code c) F H fs Q
 | .label _=>Q .normal F H fs
 | .ret=>Q .ret F H fs
 | _=>.fail
noncomputable def qK (K:DCfg) (rec:DRec) (m:Nat) (w:DWk) (F:DFr) (H:DHp) (fs:Facts) (Q:DK):T:=
 match w with
 | .ops all l=>Gs K rec m all l F H fs Q
 | .dr all l trs=>Dh K rec m all l trs F H fs Q
 | .code c=>Z1 K rec m c F H fs Q
noncomputable def dx (K:DCfg):Nat→DRec
 | 0=>fun _ _ _ _ _ _=>.fail
 | n+1=>qK K (dx K n)
end Go.Am
namespace Go.Am
variable {G:Nat→List AV}
theorem L6 (l:List EV):vVs G l=l.map (vV G):=by
 induction l with
 | nil=>rfl
 | cons x l ih=>simp only [vVs,ih,List.map_cons]
theorem S4 (l:List EV):(vVs G l).length=l.length:=by rw [L6,List.length_map]
theorem Tv (l:List EV) (n:Nat):(vVs G l)[n]?=(l[n]?).map (vV G):=by rw [L6,List.getElem?_map]
theorem Jx (l m:List EV):vVs G (l++m)=vVs G l++vVs G m:=by simp only [L6,List.map_append]
theorem Y6 (F:List EV) (t:Nat):(vVs G F).getD t .undef=vV G (F.getD t .undef):=by
 simp only [List.getD,Tv];cases F[t]?<;>simp [vV]
theorem dI (F:List EV) (t:Nat) (v:EV):vVs G (F.set t v)=(vVs G F).set t (vV G v):=by simp only [L6,List.map_set]
theorem Po (a b:EB):vB G (C7 a b)=(vB G a&&vB G b):=by
 unfold C7;split
 ·simp [vB]
 ·simp [vB]
 ·split
  ·simp [vB]
  ·simp [vB]
  ·simp [vB]
theorem Z0 (a:EB):vB G (Bc a)=!(vB G a):=by
 unfold Bc;split<;>simp [vB]
theorem Yu (a b:EB):vB G (Yc a b)=(vB G a==vB G b):=by
 unfold Yc;split<;>simp [vB,Z0]
theorem R0 (o:BinOp) (a b:EI):vB G (E4 o a b)=Qw o (vI G a) (vI G b):=by
 unfold E4;split<;>simp [vB,vI]
theorem Jy (o:BinOp) (k:IntKind) (a b:EI):vI G (Ak o k a b)=Qy o k (vI G a) (vI G b):=by
 unfold Ak;split<;>simp [vI]
theorem jD (k:IntKind) (a:EI):vI G (aJ k a)=k.wrap (vI G a):=by
 unfold aJ;split<;>simp [vI]
theorem mK (k:IntKind) (a:EI):vI G (gV k a)=k.wrap (0 - vI G a):=by
 unfold gV;split<;>simp [vI]
theorem mL (k:IntKind) (a:EI):vI G (gW k a)=aS k (vI G a):=by
 unfold gW;split<;>simp [vI]
theorem V4 (n:EN):vI G (Aj n)=(vN G n:Int):=by
 unfold Aj;split<;>simp [vI,vN]
theorem Y8 (n:EI):vN G (W3 n)=(vI G n).toNat:=by
 unfold W3;split<;>simp [vI,vN]
theorem H8 (a b:EN):vN G (K4 a b)=vN G a+vN G b:=by
 unfold K4;split<;>simp [vN];omega
theorem L4 (a:EN) (z:Nat):vN G (O0 a z)=vN G a*z:=by
 unfold O0;split
 ·simp
 ·split<;>simp [vN]
theorem Ep (a:EN) (z:Nat):vN G (O0 a z)=Ms (vN G a) z:=by
 rw [L4];unfold Ms;split<;>simp
theorem mJ (a b:EN):vN G (gU a b)=vN G a - vN G b:=by
 unfold gU;split<;>simp [vN]
theorem C6 {x y:Nat}:leB x y=true↔x≤y:=by unfold leB;exact decide_eq_true_iff
theorem J8 (a b:EN):vB G (P7 a b)=leB (vN G a) (vN G b):=by
 unfold P7;split
 ·simp only [vB,vN];rename_i x y;cases hb:x.ble y with
  | true=>exact (C6.2 (Nat.le_of_ble_eq_true hb)).symm
  | false=>
   cases hl:leB x y with
   | false=>rfl
   | true=>rw [Nat.ble_eq_true_of_le (C6.1 hl)] at hb;simp at hb
 ·simp only [vB,vN];exact (C6.2 (Nat.zero_le _)).symm
 ·simp only [vB]
theorem Yt (a b:EN):vB G (Yb a b)=Nat.beq (vN G a) (vN G b):=by
 unfold Yb;split<;>simp [vB,vN]
theorem Ys (a b:ES):vB G (Sd a b)=(vS G a==vS G b):=by
 unfold Sd;split<;>simp [vB,vS]
theorem mI (a b:ES):vS G (gX a b)=vS G a++vS G b:=by
 unfold gX;split<;>simp [vS]
theorem Y7 (s:ES):vN G (Eg s)=(vS G s).length:=by
 unfold Eg;split<;>simp [vS,vN]
theorem Q8 (l:EL):vN G (W4 l)=(vL G l).length:=by
 unfold W4;split<;>simp [vN,vL,S4,cE]
theorem Ma {cs:List AV} {o:Nat} {v:AV} (h:∀ l,v≠.agg l):B5 cs o v=cs.set o v:=by
 unfold B5;split
 ·rename_i l;exact absurd rfl (h l)
 ·rfl
theorem jC {v:EV} {l:List AV} (h:vV G v=.agg l):∃ d,v=.agg d∧vL G d=l:=by
 cases v<;>simp [vV] at h;exact ⟨_,rfl,h⟩
theorem Gq (l:EL) (o:EN) (v:EV):vL G (Kn l o v)=B5 (vL G l) (vN G o) (vV G v):=by
 unfold Kn;split
 ·split
  ·simp only [vL,vN,vV,B5,Vy,L6,List.map_append,List.map_take,List.map_drop,List.length_map]
  ·simp only [vL,vN,vV]
  ·rename_i cs n v h1 h2;rw [Ma]
   ·simp only [vL,dI,vN]
   ·intro l he;obtain ⟨d,rfl,_⟩:=jC he;exact h2 d rfl
 ·simp only [vL]
theorem Y9 (l:EL) (o n:EN):vL G (Cj l o n)=((vL G l).drop (vN G o)).take (vN G n):=by
 unfold Cj;split<;>simp [vL,vN,B9,L6,List.map_take,List.map_drop]
theorem Vu (a b:EL):vL G (Se a b)=vL G a++vL G b:=by
 unfold Se;split<;>simp [vL,Jx,vVs]
theorem Rg (s:ES):vL G (Oh s)=(vS G s).map fun b=>.int .u8 b.toNat:=by
 unfold Oh;split
 ·simp only [vL,L6,List.map_map,vS];congr 1
 ·simp only [vL,cE]
theorem Pm (n:EN) (l:EL):vL G (Sc n l)=(List.replicate (vN G n) (vL G l)).flatten:=by
 unfold Sc;split
 ·simp only [vL,L6,vN,List.map_flatten,List.map_replicate]
 ·simp only [vL,repL]
theorem uB {v:EV} (h:aV v=false):∀ l,vV G v≠.agg l:=by
 intro l he;obtain ⟨d,rfl,_⟩:=jC he;simp [aV] at h
theorem Hx {o:EN} {n:Nat} (h:Qg o=some n):o=.lit n:=by
 unfold Qg at h;split at h
 ·simp at h;rw [h]
 ·simp at h
theorem Kj:∀ (l:EL) (n:Nat) (c:EB) (v:EV),W0 l n=some (c,v)→vB G c=true→(vL G l)[n]?=some (vV G v)
 | .of cs,n,c,v,h,_=>by
  simp only [W0] at h;split at h
  ·rename_i w hn;simp only [Option.some.injEq,Prod.mk.injEq] at h;obtain ⟨_,rfl⟩:=h;simp only [vL,Tv,hn,Option.map_some]
  ·simp at h
 | .set l o w,n,c,v,h,hc=>by
  simp only [W0] at h;split at h
  ·rename_i m ho ha
   have:=Hx ho;subst this
   have hs:vL G (.set l (.lit m) w)=(vL G l).set m (vV G w):=by
    simp only [vL,vN];exact Ma (uB ha)
   rw [hs];split at h
   ·rename_i hm;have hm:=Nat.eq_of_beq_eq_true hm;subst hm;simp only [Option.some.injEq,Prod.mk.injEq] at h;obtain ⟨rfl,rfl⟩:=h;rw [J8,Q8] at hc;have hc:m+1≤(vL G l).length:=C6.1 hc;rw [List.getElem?_set_self (by omega)]
   ·rename_i hm;have hne:m≠n:=fun he=>by rw [he] at hm;simp at hm
    rw [List.getElem?_set_ne hne];exact Kj l n c v h hc
  ·simp at h
 | .var ..,_,_,_,h,_=>by simp [W0] at h
 | .ro ..,_,_,_,h,_=>by simp [W0] at h
 | .app ..,_,_,_,h,_=>by simp [W0] at h
 | .sub ..,_,_,_,h,_=>by simp [W0] at h
 | .bytes ..,_,_,_,h,_=>by simp [W0] at h
 | .rep ..,_,_,_,h,_=>by simp [W0] at h
 | .uf ..,_,_,_,h,_=>by simp [W0] at h
theorem tU {k:IntKind} {l:EL} {o:EN} {c:EB} {e:EI} (h:rdI k l o=some (c,e)) (hc:vB G c=true):isI k (vL G l) (vN G o)=true∧A3 (vL G l) (vN G o)=vI G e:=by
 have gen:some (EB.isI k l o,EI.get l o)=some (c,e)→isI k (vL G l) (vN G o)=true∧A3 (vL G l) (vN G o)=vI G e:=fun h=>by
  simp only [Option.some.injEq,Prod.mk.injEq] at h;obtain ⟨rfl,rfl⟩:=h;exact ⟨by simpa only [vB] using hc,by simp only [vI]⟩
 unfold rdI at h;split at h
 ·rename_i n ho
  have:=Hx ho;subst this
  split at h
  ·rename_i c' k' e' hr;split at h
   ·rename_i hk;subst hk;simp only [Option.some.injEq,Prod.mk.injEq] at h;obtain ⟨rfl,rfl⟩:=h
    have:=Kj l n _ _ hr hc
    simp only [vV] at this;simp [isI,A3,vN,this]
   ·simp at h
  ·simp at h
  ·exact gen h
 ·exact gen h
theorem tW {l:EL} {o:EN} {c:EB} {e:EB} (h:rdB l o=some (c,e)) (hc:vB G c=true):isB (vL G l) (vN G o)=true∧D9 (vL G l) (vN G o)=vB G e:=by
 have gen:some (EB.isB l o,EB.get l o)=some (c,e)→isB (vL G l) (vN G o)=true∧D9 (vL G l) (vN G o)=vB G e:=fun h=>by
  simp only [Option.some.injEq,Prod.mk.injEq] at h;obtain ⟨rfl,rfl⟩:=h;exact ⟨by simpa only [vB] using hc,by simp only [vB]⟩
 unfold rdB at h;split at h
 ·rename_i n ho
  have:=Hx ho;subst this
  split at h
  ·rename_i c' e' hr;simp only [Option.some.injEq,Prod.mk.injEq] at h;obtain ⟨rfl,rfl⟩:=h
   have:=Kj l n _ _ hr hc
   simp only [vV] at this;simp [isB,D9,vN,this]
  ·simp at h
  ·exact gen h
 ·exact gen h
theorem vV_dCell (v:Value):vV G (Yi v)=S7 v:=by
 unfold Yi S7
 split<;>simp [vV,vB,vI,vS]
theorem dJ (v:Value):vV G (iH v)=C0 v:=by
 unfold iH C0;split
 ·simp only [vV,vL,L6,List.map_map];congr 2;funext x;exact vV_dCell x
 ·rename_i h;cases v<;>first | exact vV_dCell _ | exact absurd rfl (h _)
theorem vV_evD (F:DFr) (x:Operand):vV G (evD F x)=ev (vVs G F) x:=by
 cases x with
 | tmp t=>simp only [evD,Dv,ev,Y6]
 | const v=>simp only [evD,ev,dJ]
 | global g=>simp only [evD,ev,vV]
 | func f=>simp only [evD,ev,vV,vVs]
def Wo (G:Nat→List AV) (o:Option (EB×EV)) (p:Option (Bool×AV)):Prop:=∀ c v,o=some (c,v)→vB G c=true→p=some (true,vV G v)
theorem Wo.none {p:Option (Bool×AV)}:Wo G none p:=fun c v h=>by simp at h
theorem Wo.some {c:EB} {v:EV} {p:Option (Bool×AV)} (h:vB G c=true→p=some (true,vV G v)):Wo G (some (c,v)) p:=fun c' v' he hc=>by
 simp only [Option.some.injEq,Prod.mk.injEq] at he;obtain ⟨rfl,rfl⟩:=he;exact h hc
theorem lV {op:BinOp} {k:IntKind} {x y:EI}:Wo G (binIntD op k x y) (Nn op k (vI G x) (vI G y)):=by
 have nz:vB G (Bc (E4 .eql y (.lit 0)))=true→(!(vI G y==0))=true:=fun h=>by
  simpa only [Z0,R0,Qw,vI] using h
 cases op<;>simp only [binIntD,Nn]<;>first
  | exact Wo.none
  | (refine Wo.some fun hc=>?_;rw [nz hc];simp only [vV,Jy,Qy];done)
  | (refine Wo.some fun hc=>?_;simp only [vV,Jy,Qy,Z0,R0,Qw];done)
  | (refine Wo.some fun hc=>?_;simp only [vV,Jy,Qy,Z0,R0,Qw];rfl)
theorem Pj {op:BinOp} {k:IntKind} {x y:EI}:Wo G (Nm op k x y) (Hg op k (vI G x) (vI G y)):=by
 have nz:vB G (E4 .leq (.lit 0) y)=true→decide (0≤vI G y)=true:=fun h=>by
  rw [R0] at h;exact decide_eq_true (of_decide_eq_true h)
 cases op<;>simp only [Nm,Hg]<;>first
  | exact Wo.none
  | (refine Wo.some fun hc=>?_;rw [nz hc];simp only [vV,Jy,Qy];done)
theorem lU {op:BinOp} {x y:ES}:Wo G (Vk op x y) (Nl op (vS G x) (vS G y)):=by
  cases op<;>simp only [Vk,Nl]<;>first
    | exact Wo.none
    | (refine Wo.some fun hc => ?_
       rw [J8,H8,Y7,Y7] at hc;simp only [vV,mI,Option.some.injEq,Prod.mk.injEq,and_true]
       exact hc)
    | (refine Wo.some fun hc=>?_;simp only [vV,Ys,Z0];done)
theorem Bw {op:BinOp} {c:Bool} {b:EB}:Wo G (Ek op c b) (Bk op c (vB G b)):=by
 cases op<;>simp only [Ek,Bk]<;>first
  | exact Wo.none
  | (refine Wo.some fun hc=>?_;simp only [vB] at hc;subst hc;simp only [vV,Z0];done)
def We (G:Nat→List AV) (o:Option (EB×EB)) (p:Option (Bool×Bool)):Prop:=∀ c b,o=some (c,b)→vB G c=true→p=some (true,vB G b)
theorem Br {P:Program} {t:TypeId} {l:EL} {o:EN}:Wo G (Bb P t l o) (P6 P t (vL G l) (vN G o)):=by
 have agg:∀ z,vB G (P7 (K4 o (.lit z)) (W4 l))=true→decide (vN G o+z≤(vL G l).length)=true:=fun z h=>by
  rw [J8,H8,Q8] at h;exact h
 have any:∀ n,Qg o=some n→∀ c v,W0 l n=some (c,v)→vB G c=true→(match (vL G l)[vN G o]? with | some v=>some (true,v) | none=>none)=some (true,vV G v):=fun n ho c v h hc=>by
  have:=Hx ho;subst this
  have:=Kj l n c v h hc
  simp only [vN,this]
 intro c v h hc;unfold Bb at h;unfold P6;split at h
 ·rename_i k hu;simp only [hu];split at h
  ·rename_i c' e hr;simp only [Option.some.injEq,Prod.mk.injEq] at h;obtain ⟨rfl,rfl⟩:=h;obtain ⟨h1,h2⟩:=tU hr hc;simp only [h1,h2,vV]
  ·simp at h
 ·rename_i hu;simp only [hu];split at h
  ·rename_i c' e hr;simp only [Option.some.injEq,Prod.mk.injEq] at h;obtain ⟨rfl,rfl⟩:=h;obtain ⟨h1,h2⟩:=tW hr hc;simp only [h1,h2,vV]
  ·simp at h
 ·rename_i fs hu;simp only [hu];split at h
  ·rename_i z hz;simp only [Option.some.injEq,Prod.mk.injEq] at h;obtain ⟨rfl,rfl⟩:=h;simp only [hz,agg z hc,vV,Y9,vN]
  ·simp at h
 ·rename_i n e hu;simp only [hu];split at h
  ·rename_i z hz;simp only [Option.some.injEq,Prod.mk.injEq] at h;obtain ⟨rfl,rfl⟩:=h;simp only [hz,agg z hc,vV,Y9,vN]
  ·simp at h
 ·rename_i d h1 h2 h3 h4 hu;simp only [hu];split at h
  ·rename_i n ho
   have:=any n ho c v h hc
   cases d<;>first
    | exact this
    | exact absurd hu (h1 _)
    | exact absurd hu h2
    | exact absurd hu (h3 _)
    | exact absurd hu (h4 _ _)
  ·simp at h
 ·simp at h
end Go.Am
namespace Go.Am
variable {G:Nat→List AV}
theorem L0 {a b:Bool} (h:(a&&b)=true):a=true∧b=true:=by simpa using h
theorem B3 {a b:EB} (h:vB G (C7 a b)=true):vB G a=true∧vB G b=true:=by
 rw [Po] at h;exact L0 h
theorem Vd {P:Program} {recD:TypeId→EV→EV→Option (EB×EB)} {rec:TypeId→AV→AV→Option (Bool×Bool)} (hr:∀ t x y,We G (recD t x y) (rec t (vV G x) (vV G y))) {xs ys:EL} :
    ∀ fs,We G (Ow P recD xs ys fs) (Lb P rec (vL G xs) (vL G ys) fs)
  | [] => fun c b h _ => by
    simp only [Ow,Option.some.injEq,Prod.mk.injEq] at h;obtain ⟨rfl,rfl⟩:=h;simp only [Lb,vB]
  | f::fs=>fun c b h hc=>by
    unfold Ow at h;unfold Lb;split at h
    · rename_i hn;rw [if_pos hn];split at h
      · rename_i c1 a c2 b' h1 h2;split at h
        · rename_i c3 r c4 s h3 h4;simp only [Option.some.injEq,Prod.mk.injEq] at h;obtain ⟨rfl,rfl⟩:=h;obtain ⟨g1,hc⟩:=B3 hc;obtain ⟨g2,hc⟩:=B3 hc;obtain ⟨g3,g4⟩:=B3 hc;have e1:=Br _ _ h1 g1;have e2:=Br _ _ h2 g2;have e3:=hr _ _ _ _ _ h3 g3;have e4:=Vd hr fs _ _ h4 g4;simp only [vN] at e1 e2;simp only [e1,e2,e3,e4,Po,Bool.and_self]
        · simp at h
      · simp at h
    · rename_i hn;rw [if_neg hn];exact Vd hr fs _ _ h hc
theorem fJ {P:Program} {recD:TypeId→EV→EV→Option (EB×EB)} {rec:TypeId→AV→AV→Option (Bool×Bool)} (hr:∀ t x y,We G (recD t x y) (rec t (vV G x) (vV G y))) {e:TypeId} {z:Nat} {xs ys:EL} :
  ∀ is,We G (Sz P recD e z xs ys is) (Nh P rec e z (vL G xs) (vL G ys) is)
 | []=>fun c b h _=>by
  simp only [Sz,Option.some.injEq,Prod.mk.injEq] at h;obtain ⟨rfl,rfl⟩:=h;simp only [Nh,vB]
 | i::is=>fun c b h hc=>by
  unfold Sz at h;unfold Nh;split at h
  ·rename_i c1 a c2 b' h1 h2;split at h
   ·rename_i c3 r c4 s h3 h4;simp only [Option.some.injEq,Prod.mk.injEq] at h;obtain ⟨rfl,rfl⟩:=h;obtain ⟨g1,hc⟩:=B3 hc;obtain ⟨g2,hc⟩:=B3 hc;obtain ⟨g3,g4⟩:=B3 hc;have e1:=Br _ _ h1 g1;have e2:=Br _ _ h2 g2;have e3:=hr _ _ _ _ _ h3 g3;have e4:=fJ hr is _ _ h4 g4;simp only [vN] at e1 e2;simp only [e1,e2,e3,e4,Po,Bool.and_self]
   ·simp at h
  ·simp at h
theorem bR {P:Program}:∀ n t x y,We G (Vc P n t x y) (Lr P n t (vV G x) (vV G y))
 | 0,t,x,y=>fun c b h=>by simp [Vc] at h
 | n+1,t,x,y=>fun c b h hc=>by
  unfold Vc at h;unfold Lr;split at h
  ·rename_i k hu;simp only [hu];split at h
   ·split at h
    ·rename_i hk;subst hk;simp only [Option.some.injEq,Prod.mk.injEq] at h;obtain ⟨rfl,rfl⟩:=h;simp only [vV,R0,Qw,decide_true]
    ·simp at h
   ·simp at h
  ·rename_i hu;simp only [hu];split at h
   ·simp only [Option.some.injEq,Prod.mk.injEq] at h;obtain ⟨rfl,rfl⟩:=h;simp only [vV,Yu]
   ·simp at h
  ·rename_i hu;simp only [hu];split at h
   ·simp only [Option.some.injEq,Prod.mk.injEq] at h;obtain ⟨rfl,rfl⟩:=h;simp only [vV,Ys]
   ·simp at h
  ·rename_i fs hu;simp only [hu];split at h
   ·split at h
    ·simp at h
    ·rename_i hs;simp only [vV,hs];exact Vd (fun t x y=>bR n t x y) _ _ _ h hc
   ·simp at h
  ·rename_i m e hu;simp only [hu];split at h
   ·split at h
    ·rename_i z hz;simp only [vV,hz];exact fJ (fun t x y=>bR n t x y) _ _ _ h hc
    ·simp at h
   ·simp at h
  ·simp at h
theorem lK {P:Program} {t:TypeId} {xs ys:EL}:We G (oF P t xs ys) (Lr P 10 t (.agg (vL G xs)) (.agg (vL G ys))):=by
 intro c b h hc;unfold oF at h;split at h
 ·have:=bR 10 t (.agg xs) (.agg ys) c b h hc
  simpa only [vV] using this
 ·simp only [Option.some.injEq,Prod.mk.injEq] at h;obtain ⟨rfl,rfl⟩:=h;simp only [vB,vVs,vV,eqA1] at hc;simp only [vB,vVs,vV,eqA2];split at hc
  ·rename_i c' b' he;simp only [he,hc]
  ·simp at hc
theorem wF {P:Program} {op:BinOp} {t:TypeId} {x y:EV}:Wo G (oS P op t x y) (O4 P op t (vV G x) (vV G y)):=by
 intro c v h hc;unfold oS at h;split at h
 ·rename_i k a k' b;split at h
  ·simp only [vV,O4];exact Pj _ _ h hc
  ·simp only [vV,O4];exact Pj _ _ h hc
  ·rename_i h1 h2;split at h
   ·rename_i hk;subst hk
    have:=lV _ _ h hc
    simp only [vV,O4]
    cases op<;>first
     | exact absurd rfl h1
     | exact absurd rfl h2
     | (rw [if_pos trivial];exact this)
     | (rw [if_pos rfl];exact this)
   ·simp at h
 ·simp only [vV,O4];exact lU _ _ h hc
 ·have:=Bw _ _ h hc
  simp only [vV,O4];rw [Yu] at this;exact this
 ·simp only [vV,O4];exact Bw _ _ h hc
 ·simp only [vV,O4];exact Bw _ _ h hc
 ·simp only [vV,O4];exact Bw _ _ h hc
 ·simp only [vV,O4];exact Bw _ _ h hc
 ·simp only [vV,O4];exact Bw _ _ h hc
 ·simp only [vV,O4];exact Bw _ _ h hc
 ·simp only [vV,O4];exact Bw _ _ h hc
 ·rename_i xs ys;simp only [vV,O4];split at h
  ·simp at h
  ·rename_i hg;simp only [hg];split at h
   ·rename_i c' b he;split at h
    ·simp only [Option.some.injEq,Prod.mk.injEq] at h;obtain ⟨rfl,rfl⟩:=h;simp only [lK _ _ he hc,Bk,vV]
    ·simp only [Option.some.injEq,Prod.mk.injEq] at h;obtain ⟨rfl,rfl⟩:=h;simp only [lK _ _ he hc,Bk,vV,Z0]
    ·simp at h
   ·simp at h
 ·simp at h
theorem un_wo {op:UnOp} {x:EV}:Wo G (unD op x) (Yw op (vV G x)):=by
 intro c v h hc;unfold unD at h
 split at h<;>first
  | (simp only [Option.some.injEq,Prod.mk.injEq] at h;obtain ⟨rfl,rfl⟩:=h;simp only [vV,Yw,mK,mL,Z0];done)
  | (simp at h;done)
theorem rX {P:Program} {s d:TypeId} {x:EV}:Wo G (iI P s d x) (Jq P s d (vV G x)):=by
 intro c v h hc;unfold iI at h;split at h
 ·rename_i h1 h2;simp only [Option.some.injEq,Prod.mk.injEq] at h;obtain ⟨rfl,rfl⟩:=h;simp only [vV,Jq,h1,h2,jD]
 ·rename_i h1 h2;simp only [Option.some.injEq,Prod.mk.injEq] at h;obtain ⟨rfl,rfl⟩:=h;simp only [vV,Jq,h1,h2]
 ·simp at h
theorem oD {P:Program} {s:TypeId} {x:EV} {f:Nat}:Wo G (bM P s x f) (Jn P s (vV G x) f):=by
 intro c v h hc;unfold bM at h;split at h
 ·rename_i fs r off hu;simp only [vV,Jn,hu];split at h
  ·rename_i fd hf;simp only [hf];split at h
   ·simp at h
   ·rename_i z h0 hz;simp only [Option.some.injEq,Prod.mk.injEq] at h;obtain ⟨rfl,rfl⟩:=h;simp only [hz];cases z with
    | zero=>exact absurd rfl h0
    | succ z=>simp only [vV,H8,vN]
   ·simp at h
  ·simp at h
 ·simp at h
theorem Sj {P:Bool} {i l:EI} {z:Int} (hz:vI G l=z) (h:vB G (C7 (E4 .leq (.lit 0) i) (E4 .lss i l))=true):(decide (0≤vI G i)&&decide (vI G i<z))=true:=by
 obtain ⟨h1,h2⟩:=B3 h;rw [R0] at h1 h2;rw [hz] at h2;simp only [vI] at h1;rw [Bool.and_eq_true];exact ⟨decide_eq_true (of_decide_eq_true h1),decide_eq_true (of_decide_eq_true h2)⟩
theorem nY {P:Program} {t:TypeId} {x i:EV}:Wo G (aW P t x i) (Gj P t (vV G x) (vV G i)):=by
 intro c v h hc;unfold aW at h;split at h
 ·split at h
  ·rename_i len e r off hu;simp only [vV,Gj,hu];split at h
   ·rename_i z hz;simp only [Option.some.injEq,Prod.mk.injEq] at h;obtain ⟨rfl,rfl⟩:=h;simp only [hz,Sj (P:=true) (z:=len) (by simp only [vI]) hc,vV,H8,Ep,Y8]
   ·simp at h
  ·rename_i e mb r off len hu;simp only [vV,Gj,hu];split at h
   ·rename_i z hz;simp only [Option.some.injEq,Prod.mk.injEq] at h;obtain ⟨rfl,rfl⟩:=h;simp only [hz,Sj (P:=true) (z:=(vN G len:Int)) (V4 _) hc,vV,H8,Ep,Y8]
   ·simp at h
  ·simp at h
 ·simp at h
theorem Ea {x:Option EV} {d:EI} {e:EI} (h:Fc x d=some e):S2 (x.map (vV G)) (vI G d)=some (vI G e):=by
 unfold Fc at h;split at h
 ·simp at h;subst h;rfl
 ·simp at h;subst h;simp only [Option.map_some,vV,S2]
 ·simp at h
theorem Qh {a b c:EI} {z:Int} (hz:vI G c=z) (h:vB G (C7 (E4 .leq (.lit 0) a) (C7 (E4 .leq a b) (E4 .leq b c)))=true):(decide (0≤vI G a)&&(decide (vI G a≤vI G b)&&decide (vI G b≤z)))=true:=by
 obtain ⟨h1,h⟩:=B3 h;obtain ⟨h2,h3⟩:=B3 h;rw [R0] at h1 h2 h3;rw [hz] at h3;simp only [vI] at h1;rw [Bool.and_eq_true,Bool.and_eq_true];exact ⟨decide_eq_true (of_decide_eq_true h1),decide_eq_true (of_decide_eq_true h2),decide_eq_true (of_decide_eq_true h3)⟩
theorem mR {P:Program} {t:TypeId} {x:EV} {lo hi:Option EV}:Wo G (Ze P t x lo hi) (Di P t (vV G x) (lo.map (vV G)) (hi.map (vV G))):=by
 intro c v h hc;unfold Ze at h;split at h
 ·rename_i e mb r off len hu;simp only [vV,Di,hu];split at h
  ·rename_i z l hh hz hl hh';simp only [Option.some.injEq,Prod.mk.injEq] at h;obtain ⟨rfl,rfl⟩:=h;have e1:=Ea (G:=G) hl;have e2:=Ea (G:=G) hh';rw [V4] at e2;simp only [vI] at e1;simp only [hz,e1,e2,Qh (z:=(vN G len:Int)) (V4 _) hc,vV,H8,Ep,Y8,mJ]
  ·simp at h
 ·rename_i e hu;simp only [vV,Di,hu];split at h
  ·rename_i z l hh hz hl hh';simp only [Option.some.injEq,Prod.mk.injEq] at h;obtain ⟨rfl,rfl⟩:=h;have e1:=Ea (G:=G) hl;have e2:=Ea (G:=G) hh';simp only [vI] at e1 e2;simp only [hz,e1,e2,Qh (z:=0) (by simp only [vI]) hc,vV]
  ·simp at h
 ·rename_i s hu;simp only [vV,Di,hu];split at h
  ·rename_i l hh hl hh';simp only [Option.some.injEq,Prod.mk.injEq] at h;obtain ⟨rfl,rfl⟩:=h;have e1:=Ea (G:=G) hl;have e2:=Ea (G:=G) hh';rw [V4,Y7] at e2;simp only [vI] at e1;simp only [e1,e2,Qh (z:=((vS G s).length:Int)) (by rw [V4,Y7]) hc,vV,vS,Y8]
  ·simp at h
 ·simp at h
theorem S5 (v:EV):vL G (T6 v)=A9 (vV G v):=by
 unfold T6 A9;cases v<;>simp [vL,vVs,vV]
theorem aR {v:EV} (h:Sk v=true):Cm (vV G v)=true:=by
 cases v<;>simp [Sk] at h<;>simp [vV,Cm]
theorem isCell_ok (v:EV):isCell (vV G v)=Ok v:=by
 cases v<;>simp [vV,isCell,Ok]
theorem Lj (l:EL):vB G (Hi l)=(vL G l).all isCell:=by
 unfold Hi;split
 ·simp only [vB,vL,L6,List.all_map];congr 1;funext x;simp [isCell_ok]
 ·simp only [vB,N9]
 ·simp only [vB,N9]
theorem Nc (v:EV):vB G (Fx v)=true→(A9 (vV G v)).all isCell=true:=by
 intro h;unfold Fx at h;split at h
 ·rw [Lj] at h;simpa only [vV,A9] using h
 ·rename_i hn;simp only [vB] at h
  have:A9 (vV G v)=[vV G v]:=by
   cases v<;>simp [vV,A9];exact absurd rfl (hn _)
  rw [this];simp [isCell_ok,h]
theorem Es {v:EV} {z:Nat} (h:vB G (Jc v z)=true):K7 (vV G v)=z:=by
 unfold Jc at h;split at h
 ·rw [Yt,Q8] at h;simp only [vN] at h;simp only [vV,K7];exact Nat.eq_of_beq_eq_true h
 ·rename_i hn;simp only [vB] at h
  have:=Nat.eq_of_beq_eq_true h
  subst this;cases v<;>simp [vV,K7];exact absurd rfl (hn _)
theorem Oo {place:Nat→Option (Nat×Nat)}:∀ (parts:List (Nat×EV)) (cells:EL) (c:EB) (r:EL),Kz place cells parts=some (c,r)→vB G c=true→
  Ab place (vL G cells) (parts.map fun p=>(p.1,vV G p.2))=some (true,vL G r)
 | [],cells,c,r,h,_=>by
  simp only [Kz,Option.some.injEq,Prod.mk.injEq] at h;obtain ⟨rfl,rfl⟩:=h;simp only [List.map_nil,Ab]
 | (i,v)::rest,cells,c,r,h,hc=>by
  unfold Kz at h;simp only [List.map_cons,Ab];split at h
  ·simp at h
  ·rename_i off size hp;simp only [hp];split at h
   ·simp at h
   ·rename_i c' r' hf;split at h
    ·rename_i hk;simp only [Option.some.injEq,Prod.mk.injEq] at h;obtain ⟨rfl,rfl⟩:=h;obtain ⟨g1,hc⟩:=B3 hc;obtain ⟨g2,g3⟩:=B3 hc
     have:=Oo rest _ _ _ hf g3
     rw [Gq] at this;simp only [vN] at this;rw [J8,Q8] at g2;simp only [vN] at g2;have e1:=Es g1;have e2:decide (off+size≤(vL G cells).length)=true:=g2;simp only [this,aR hk,e1,e2,beq_self_eq_true,Bool.and_self]
    ·simp at h
theorem Bm {P:Program} {t:TypeId} {z:EV} (h:Fo P t=some z):S3 P t=some (vV G z):=by
 unfold Fo at h;unfold S3;split at h
 ·rename_i i hi;simp only [hi];split at h
  ·rename_i z' hz;simp at h;subst h;simp only [hz,dJ]
  ·simp at h
 ·simp at h
theorem oQ {P:Program} {t:TypeId} {parts:List (Nat×EV)}:Wo G (cI P t parts) (Gn P t (parts.map fun p=>(p.1,vV G p.2))):=by
 intro c v h hc;unfold cI at h;split at h
 ·rename_i fs z hu hz;have hz:=Bm (G:=G) hz;simp only [vV] at hz;simp only [Gn,hu,hz];split at h
  ·rename_i ps hps;simp only [hps];split at h
   ·rename_i c' cs hf;simp only [Option.some.injEq,Prod.mk.injEq] at h;obtain ⟨rfl,rfl⟩:=h;simp only [Oo _ _ _ _ hf hc,vV]
   ·simp at h
  ·simp at h
 ·rename_i n e z hu hz;have hz:=Bm (G:=G) hz;simp only [vV] at hz;simp only [Gn,hu,hz];split at h
  ·rename_i n hn;simp only [hn];split at h
   ·rename_i c' cs hf;simp only [Option.some.injEq,Prod.mk.injEq] at h;obtain ⟨rfl,rfl⟩:=h;simp only [Oo _ _ _ _ hf hc,vV]
   ·simp at h
  ·simp at h
 ·simp at h
theorem uW {P:Program} {t:TypeId} {x:EV}:Wo G (nU P t x) (Hy P t (vV G x)):=by
 intro c v h hc;unfold nU at h;split at h
 ·rename_i s hu;simp only [Option.some.injEq,Prod.mk.injEq] at h;obtain ⟨rfl,rfl⟩:=h;simp only [vV,Hy,hu,V4,Y7]
 ·rename_i n e hu;simp only [Option.some.injEq,Prod.mk.injEq] at h;obtain ⟨rfl,rfl⟩:=h;simp only [Hy,hu,vV,vI]
 ·rename_i e mb r o n hu;simp only [Option.some.injEq,Prod.mk.injEq] at h;obtain ⟨rfl,rfl⟩:=h;simp only [vV,Hy,hu,V4]
 ·rename_i e hu;simp only [Option.some.injEq,Prod.mk.injEq] at h;obtain ⟨rfl,rfl⟩:=h;simp only [vV,Hy,hu,vI]
 ·simp at h
theorem wD {P:Program} {t:TypeId} {x:EV}:Wo G (oO P t x) (Ti P t (vV G x)):=by
 intro c v h hc;unfold oO at h;split at h
 ·rename_i e hu;simp only [Option.some.injEq,Prod.mk.injEq] at h;obtain ⟨rfl,rfl⟩:=h;simp only [vV,Ti,hu,vI]
 ·simp at h
theorem uQ {x y:EV}:Wo G (nS x y) (Sg (vV G x) (vV G y)):=by
 intro c v h hc;unfold nS at h;split at h
 ·split at h
  ·rename_i hk;subst hk;simp only [Option.some.injEq,Prod.mk.injEq] at h;obtain ⟨rfl,rfl⟩:=h;simp only [vV,Sg,if_pos,vI]
  ·simp at h
 ·simp at h
theorem uJ {x y:EV}:Wo G (nQ x y) (Sf (vV G x) (vV G y)):=by
 intro c v h hc;unfold nQ at h;split at h
 ·split at h
  ·rename_i hk;subst hk;simp only [Option.some.injEq,Prod.mk.injEq] at h;obtain ⟨rfl,rfl⟩:=h;simp only [vV,Sf,if_pos,vI]
  ·simp at h
 ·simp at h
theorem qV {c a b:EV}:Wo G (gS c a b) (Mj (vV G c) (vV G a) (vV G b)):=by
 intro c' v h hc;unfold gS at h
 split at h<;>first
  | (simp only [Option.some.injEq,Prod.mk.injEq] at h;obtain ⟨rfl,rfl⟩:=h;simp only [vV,vB,Mj];done)
  | (simp at h;done)
theorem cW {x:EV}:Wo G (Mp x) (Fv (vV G x)):=by
 intro c' v h hc;unfold Mp at h
 split at h<;>first
  | (simp only [Option.some.injEq,Prod.mk.injEq] at h;obtain ⟨rfl,rfl⟩:=h;simp only [vV,Fv];done)
  | (simp at h;done)
theorem kH {v:EV} {w:AV} (h:vV G v=w):Wo G (some (.lit true,v)) (some (true,w)):=Wo.some fun _=>by rw [h]
theorem aL {F:DFr} (l:List Operand):(l.map (ev (vVs G F)))=vVs G (l.map (evD F)):=by
 rw [L6 (List.map (evD F) l),List.map_map];congr 1;funext x;simp [vV_evD]
theorem omap_ev {F:DFr} (x:Option Operand):x.map (ev (vVs G F))=(x.map (evD F)).map (vV G):=by
 cases x<;>simp [vV_evD]
theorem eJ {P:Program} {F:DFr} {op:Op}:Wo G (Xz P F op) (D8 P (vVs G F) op):=by
 intro c v h hc;unfold Xz at h;split at h
 ·exact kH (vV_evD F _) _ _ h hc
 ·exact kH (vV_evD F _) _ _ h hc
 ·simp only [D8,←vV_evD];exact qV _ _ h hc
 ·simp only [D8,←vV_evD];exact cW _ _ h hc
 ·simp only [D8,←vV_evD];exact wF _ _ h hc
 ·simp only [D8,←vV_evD];exact un_wo _ _ h hc
 ·simp only [D8,←vV_evD];exact rX _ _ h hc
 ·simp only [D8,←vV_evD];exact oD _ _ h hc
 ·simp only [D8,←vV_evD];exact nY _ _ h hc
 ·simp only [D8,←vV_evD,omap_ev];exact mR _ _ h hc
 ·rename_i t parts;simp only [D8]
  have:=oQ _ _ h hc
  rw [List.map_map] at this;rw [←this];congr 1;refine List.map_congr_left fun p _=>?_;simp [vV_evD]
 ·simp only [D8,←vV_evD];split at h
  ·rename_i vs he;split at h
   ·rename_i v' hv;simp only [Option.some.injEq,Prod.mk.injEq] at h;obtain ⟨rfl,rfl⟩:=h;simp only [he,vV,Tv,hv,Option.map_some]
   ·simp at h
  ·simp at h
 ·rename_i f first cap;simp only [D8];split at h
  ·rename_i h0;simp only [Option.some.injEq,Prod.mk.injEq] at h;obtain ⟨rfl,rfl⟩:=h;rw [if_pos h0,aL];simp only [vV]
  ·simp at h
 ·simp only [D8];split at h
  ·rename_i x t h1 h2;simp only [h1,h2,←vV_evD];exact uW _ _ h hc
  ·simp at h
 ·simp only [D8];split at h
  ·rename_i x t h1 h2;simp only [h1,h2,←vV_evD];exact wD _ _ h hc
  ·simp at h
 ·simp only [D8];split at h
  ·rename_i x y h1;simp only [h1,←vV_evD];exact uQ _ _ h hc
  ·simp at h
 ·simp only [D8];split at h
  ·rename_i x y h1;simp only [h1,←vV_evD];exact uJ _ _ h hc
  ·simp at h
 ·simp at h
end Go.Am
namespace Go.Am
variable {G:Nat→List AV}
noncomputable def K6 (G:Nat→List AV) (b:Rc):Blk:=⟨b.esz,vL G b.cells⟩
noncomputable def B4 (G:Nat→List AV) (H:DHp):Hp:=H.map (Option.map (K6 G))
noncomputable def I3 (G:Nat→List AV):DHop→Hop
 | .set i b=>.set i (K6 G b)
 | .new b=>.new (K6 G b)
 | .app j b=>.app j (K6 G b)
theorem D7 (H:DHp):(B4 G H).length=H.length:=by simp [B4]
theorem qH (H:DHp) (i:Nat):(B4 G H)[i]?=(H[i]?).map (Option.map (K6 G)):=by simp [B4]
theorem Q9 {H:DHp} {i:Nat} {b:Rc} (h:H[i]?=some (some b)):(B4 G H)[i]?=some (some (K6 G b)):=by rw [qH,h];rfl
theorem Pn (H:DHp) (h:DHop):B4 G (h.act H)=(I3 G h).act (B4 G H):=by
 cases h<;>simp [DHop.act,Hop.act,I3,B4,List.map_set]
theorem Bn:∀ (hs:List DHop) (H:DHp),B4 G (Em H hs)=acts (B4 G H) (hs.map (I3 G))
 | [],H=>rfl
 | h::hs,H=>by simp only [Em,List.map_cons,acts,Bn hs,Pn]
open Classical in
theorem Wf {l ls:List AV}:Eh l ls=true↔∀ v∈ls,v=.agg l:=by unfold Eh;exact decide_eq_true_iff
theorem Sv (z:Nat):∀ (c j:Nat) (H:DHp) (ls:List EV),X8 z j H c=some ls→ls.length=c∧∀ i,i<c→∃ l,H[i]?=some (some ⟨z,.row l (.lit (j+i))⟩)∧ls[i]?=some (.agg l)
 | 0,j,H,ls,h=>by
  have:X8 z j H 0=some []:=by unfold X8;rfl
  rw [this] at h;simp only [Option.some.injEq] at h;subst h;exact ⟨rfl,fun i hi=>by omega⟩
 | c+1,j,[],ls,h=>by simp [X8] at h
 | c+1,j,none::H,ls,h=>by simp [X8] at h
 | c+1,j,some ⟨z',l0⟩::H,ls,h=>by
  cases l0 with
  | row l k=>cases k with
   | lit i0=>
    simp only [X8] at h;split at h
    ·rename_i hb;split at h
     ·rename_i ls' h1;simp only [Option.some.injEq] at h;subst h;rw [Bool.and_eq_true] at hb;have e1:=Nat.eq_of_beq_eq_true hb.1;have e2:=Nat.eq_of_beq_eq_true hb.2;subst e1;subst e2;obtain ⟨g1,g2⟩:=Sv z c (i0+1) H ls' h1;refine ⟨by simp [g1],fun i hi=>?_⟩;cases i with
      | zero=>exact ⟨l,by simp,by simp⟩
      | succ i=>
       obtain ⟨l2,q1,q2⟩:=g2 i (by omega);exact ⟨l2,by rw [show i0+(i+1)=i0+1+i by omega];simpa using q1,by simpa using q2⟩
     ·simp at h
    ·simp at h
   | _=>simp [X8] at h
  | _=>simp [X8] at h
theorem Qr {H:DHp} {b c z:Nat} {l:EL} {ls:List EV} (h:Ov H b c=some (z,l,ls)):Nat.beq z 4294967291=false∧ls.length=c∧∀ i,i<c→∃ l',H[b+i]?=some (some ⟨z,.row l' (.lit i)⟩)∧ls[i]?=some (.agg l'):=by
 unfold Ov at h;split at h
 ·split at h
  ·simp at h
  ·rename_i hz;split at h
   ·rename_i ls' h1;simp only [Option.some.injEq,Prod.mk.injEq] at h;obtain ⟨rfl,rfl,rfl⟩:=h;obtain ⟨g1,g2⟩:=Sv _ _ _ _ _ h1;refine ⟨hz,g1,fun i hi=>?_⟩;obtain ⟨l',q1,q2⟩:=g2 i hi;rw [List.getElem?_drop] at q1;exact ⟨l',by simpa using q1,q2⟩
   ·simp at h
 ·simp at h
theorem vVs_get? {ls:List EV} {i:Nat} {x:EV} (h:ls[i]?=some x):(vVs G ls)[i]?=some (vV G x):=by rw [L6,List.getElem?_map,h];rfl
theorem Su {H:DHp} {b c z:Nat} {l:EL} {ls:List EV} (h:Ov H b c=some (z,l,ls)) (hr:Eh (vL G l) (vVs G ls)=true) {i:Nat} (hi:i<c):(B4 G H)[b+i]?=some (some ⟨z,A0 (vL G l) i⟩):=by
 obtain ⟨_,g1,g2⟩:=Qr h;obtain ⟨l',q1,q2⟩:=g2 i hi;have e:=Wf.1 hr _ (List.mem_of_getElem? (vVs_get? (G:=G) q2));simp only [vV,AV.agg.injEq] at e;rw [Q9 q1];simp only [K6,vL,vN,e]
theorem Ga {C:A2} (hG:C.G=G) {H:DHp} {r:ER} {c0:EB} {l:EL} (h:Dz H r=some (c0,l)) (hc:vB G c0=true):D0 C (B4 G H) (vR G r)=some (vL G l):=by
 unfold Dz at h;split at h
 ·split at h
  ·rename_i b hb;split at h
   ·simp at h
   rename_i hr;simp only [Option.some.injEq,Prod.mk.injEq] at h;obtain ⟨rfl,rfl⟩:=h;have hr:isRec (K6 G b)=false:=hr;simp only [vR,D0,Q9 hb,hr];simp only [K6]
  ·simp at h
 ·simp only [Option.some.injEq,Prod.mk.injEq] at h;obtain ⟨rfl,rfl⟩:=h;simp only [vR,D0,vL,hG]
 ·rename_i b c k;split at h
  ·rename_i z l' ls hf;simp only [Option.some.injEq,Prod.mk.injEq] at h;obtain ⟨rfl,rfl⟩:=h;obtain ⟨g1,g2⟩:=B3 hc;rw [J8,H8] at g1;simp only [vN] at g1;have g1:=C6.1 g1;simp only [vB] at g2;have hr:isRec ⟨z,A0 (vL G l') (vN G k)⟩=false:=(Qr hf).1;simp only [vR,D0,Su hf g2 (show vN G k<c by omega),hr,vL]
  ·simp at h
theorem oH (l:Lf) (cs:EL) (off:EN):vV G (gY l cs off)=Hz l (vL G cs) (vN G off):=by
 cases l<;>simp only [gY,Hz,vV,vI,vB,vS,vR,vN]
theorem Ni (cs:EL):∀ (ls:List Lf) (off:EN),vVs G (Jj cs off ls)=U6 (vL G cs) (vN G off) ls
 | [],off=>by simp only [Jj,U6,vVs]
 | l::ls,off=>by
  simp only [Jj,U6,vVs,oH,Ni cs ls,H8,vN]
theorem nF {P:Program} {t:TypeId} {cs:EL} {off:EN}:Wo G (Zx P t cs off) (Ya P t (vL G cs) (vN G off)):=by
 intro c v h hc;unfold Zx at h;unfold Ya;split at h
 ·rename_i k hu;simp only [hu];simp only [Option.some.injEq,Prod.mk.injEq] at h;obtain ⟨rfl,rfl⟩:=h;simp only [vB] at hc;simp only [hc,vV,vI]
 ·rename_i hu;simp only [hu];simp only [Option.some.injEq,Prod.mk.injEq] at h;obtain ⟨rfl,rfl⟩:=h;simp only [vB] at hc;simp only [hc,vV,vB]
 ·rename_i hu;simp only [hu];simp only [Option.some.injEq,Prod.mk.injEq] at h;obtain ⟨rfl,rfl⟩:=h;simp only [vB] at hc;simp only [hc,vV,vS]
 ·rename_i e hu;simp only [hu];simp only [Option.some.injEq,Prod.mk.injEq] at h;obtain ⟨rfl,rfl⟩:=h;simp only [vB] at hc;simp only [hc,vV,vR,vN]
 ·rename_i fs hu;simp only [hu];split at h
  ·rename_i z ls hz hl;simp only [hz,hl];split at h
   ·rename_i hb;simp only [Option.some.injEq,Prod.mk.injEq] at h;obtain ⟨rfl,rfl⟩:=h;simp only [vB] at hc;simp only [hb,hc,vV,vL,Ni,Bool.and_self]
   ·simp at h
  ·simp at h
 ·rename_i n e hu;simp only [hu];split at h
  ·rename_i z ls hz hl;simp only [hz,hl];split at h
   ·rename_i hb;simp only [Option.some.injEq,Prod.mk.injEq] at h;obtain ⟨rfl,rfl⟩:=h;simp only [vB] at hc;simp only [hb,hc,vV,vL,Ni,Bool.and_self]
   ·simp at h
  ·simp at h
 ·simp at h
theorem eW {C:A2} (hG:C.G=G) {H:DHp} {t:TypeId} {r:ER} {off:EN}:Wo G (Ye C.P H t r off) (Fw C (B4 G H) t (vR G r) (vN G off)):=by
 intro c v h hc;unfold Ye at h;unfold Fw;split at h
 ·rename_i c0 cs hcs;split at h
  ·rename_i c1 v1 hp;simp only [Option.some.injEq,Prod.mk.injEq] at h;obtain ⟨rfl,rfl⟩:=h;obtain ⟨g1,g2⟩:=B3 hc;rw [Ga hG hcs g1];unfold kE at hp;split at hp
   ·simp only [vR,Hu];exact Br _ _ hp g2
   ·simp only [vR,Hu];exact nF _ _ hp g2
   ·simp only [vR,Hu];exact Br _ _ hp g2
  ·simp at h
 ·simp at h
theorem kY {b c o:Nat} {cs:List AV} (h:Kt b c cs o=true):cs[o]?=some (.slice true (.rw (b+O3 b cs o)) (Ay cs o) (Ib cs o))∧O3 b cs o<c:=by
 unfold Kt at h;split at h
 ·rename_i i f n he;rw [Bool.and_eq_true] at h;have h1:=Nat.le_of_ble_eq_true h.1;have h2:i<b+c:=Nat.blt_eq ▸ h.2;have e1:O3 b cs o=i - b:=by unfold O3;rw [he]
  have e2:Ay cs o=f:=by unfold Ay;rw [he]
  have e3:Ib cs o=n:=by unfold Ib;rw [he]
  rw [e1,e2,e3,he,show b+(i - b)=i by omega];exact ⟨rfl,by omega⟩
 ·simp at h
theorem kX {b c o:Nat} {cs:List AV} (h:nX b c cs o=true):cs[o]?=some (.ptr (.rw (b+O3 b cs o)) (Ay cs o))∧O3 b cs o<c:=by
 unfold nX at h;split at h
 ·rename_i i f he;rw [Bool.and_eq_true] at h;have h1:=Nat.le_of_ble_eq_true h.1;have h2:i<b+c:=Nat.blt_eq ▸ h.2;have e1:O3 b cs o=i - b:=by unfold O3;rw [he]
  have e2:Ay cs o=f:=by unfold Ay;rw [he]
  rw [e1,e2,he,show b+(i - b)=i by omega];exact ⟨rfl,by omega⟩
 ·simp at h
theorem kW {cs:List AV} {o:Nat} (h:Up cs o=true):cs[o]?=some (.slice true (.ro (E7 cs o)) (G1 cs o) (C2 cs o)):=by
 unfold Up at h;split at h
 ·rename_i k f n he;unfold E7 G1 C2;rw [he]
 ·simp at h
theorem dA {o:Nat} {cs:List AV} (h:aT cs o=true):cs[o]?=some .nilp:=by
 unfold aT at h;split at h
 ·assumption
 ·simp at h
theorem bP {l:EL} {o:EN} {f:FL} (h:vB G (Ot l o f)=true):(vL G l)[vN G o]?=some (vV G (Ou l o f)):=by
 cases f with
 | int k=>
  simp only [Ot,vB] at h;simp only [Ou,vV,vI];exact Z9 h
 | bool=>
  simp only [Ot,vB] at h;simp only [Ou,vV,vB];unfold isB at h;unfold D9;split at h
  ·rename_i b he;rw [he]
  ·simp at h
 | sl b c=>
  cases c with
  | zero=>
   have h:Up (vL G l) ((vN G o:Nat):Int).toNat=true:=h;rw [Int.toNat_natCast] at h;exact kW h
  | succ c=>
   simp only [Ot,vB] at h;simp only [Ou,vV,vR,vN];exact (kY h).1
theorem fI:∀ (fs:List FL) {l:EL} {o:EN},vB G (Yh l o fs)=true→vVs G (Sw l o fs)=((vL G l).drop (vN G o)).take fs.length∧vN G o+fs.length≤max (vN G o) (vL G l).length
 | [],l,o,_=>by simp [Sw,vVs];omega
 | f::fs,l,o,h=>by
  simp only [Yh] at h;obtain ⟨h1,h2⟩:=B3 h;have e1:=bP h1;obtain ⟨e2,e3⟩:=fI fs h2;rw [H8] at e2 e3;simp only [vN] at e2 e3;have hlt:vN G o<(vL G l).length:=(List.getElem?_eq_some_iff.1 e1).1;refine ⟨?_,by simp only [List.length_cons];omega⟩;simp only [Sw,vVs,e2];rw [List.drop_eq_getElem_cons hlt,List.length_cons,List.take_succ_cons];rw [List.getElem?_eq_getElem hlt] at e1;simp only [Option.some.injEq] at e1;rw [e1]
def WoF (G:Nat→List AV) (x:FamR) (p:Option (Bool×AV)):Prop:=
 match x with
 | .val c v=>vB G c=true→p=some (true,vV G v)
 | .ptr n c v=>(vB G n=true→p=some (true,.nilp))∧(vB G c=true→p=some (true,vV G v))
theorem Uz {fam:TypeId→Option (Nat×Nat)} {P:Program} {t:TypeId} {cs:EL} {off:EN} {x:FamR} (h:bO fam P t cs off=some x):WoF G x (P6 P t (vL G cs) (vN G off)):=by
 unfold bO at h;split at h
 ·simp at h
 ·rename_i b c hf;split at h
  ·rename_i fs hu;split at h
   ·simp at h
   ·split at h
    ·rename_i z ls hz hl;split at h
     ·rename_i hb;rw [Bool.and_eq_true] at hb;have hz1:=Nat.le_of_ble_eq_true hb.2;have hb:=Nat.eq_of_beq_eq_true hb.1;simp only [Option.some.injEq] at h;subst h;intro hc;obtain ⟨e1,e2⟩:=fI ls hc;have hle:vN G off+z≤(vL G cs).length:=by omega
      unfold P6;simp only [hu,hz,vV,vL,e1,hb];rw [decide_eq_true hle]
     ·simp at h
    ·simp at h
  ·rename_i e hu;split at h
   ·simp at h
   ·simp only [Option.some.injEq] at h;subst h;intro hc
    have:=bP hc
    unfold P6;simp only [hu,this]
  ·rename_i e hu;split at h
   ·simp at h
   ·simp only [Option.some.injEq] at h;subst h;refine ⟨fun hc=>?_,fun hc=>?_⟩
    ·simp only [vB] at hc;unfold P6;simp only [hu,dA hc]
    ·simp only [vB] at hc;unfold P6;simp only [hu,(kX hc).1,vV,vR,vN]
  ·simp at h
theorem eE {C:A2} (hG:C.G=G) {F:DFr} {H:DHp} {op:Op}:Wo G (Xy C.P F H op) (I8 C (vVs G F) (B4 G H) op):=by
 intro c v h hc;unfold Xy at h;split at h
 ·simp only [I8,←vV_evD];split at h
  ·rename_i r off he;simp only [he,vV];exact eW hG _ _ h hc
  ·simp at h
 ·simp only [I8,←vV_evD];split at h
  ·rename_i fs cs hu he;simp only [hu,he,vV];split at h
   ·rename_i fd hf;simp only [hf]
    have:=Br _ _ h hc
    simpa only [vN] using this
   ·simp at h
  ·simp at h
 ·simp only [I8,←vV_evD];split at h
  ·rename_i len e cs k i hu he hi;simp only [hu,he,hi,vV];split at h
   ·rename_i z hz;simp only [hz];split at h
    ·rename_i c' v' hp;simp only [Option.some.injEq,Prod.mk.injEq] at h;obtain ⟨rfl,rfl⟩:=h;obtain ⟨g1,hc⟩:=B3 hc;obtain ⟨g2,g3⟩:=B3 hc
     have:=Br _ _ hp g3
     rw [Ep,Y8] at this;rw [R0] at g1 g2;have g1:decide (0≤vI G i)=true:=decide_eq_true (by have:=of_decide_eq_true g1;simpa only [vI] using this);have g2:decide (vI G i<len)=true:=decide_eq_true (by have:=of_decide_eq_true g2;simpa only [vI] using this);simp only [this,g1,g2,Bool.and_self]
    ·simp at h
   ·simp at h
  ·simp at h
 ·simp only [I8,←vV_evD];split at h
  ·rename_i h1 he;simp only [Option.some.injEq,Prod.mk.injEq] at h;obtain ⟨rfl,rfl⟩:=h;simp only [h1,he,vV,vS]
  ·rename_i mb r off n h1 he;simp only [h1,he,vV];split at h
   ·rename_i c0 cs hcs;simp only [jH,Option.some.injEq,Prod.mk.injEq] at h;obtain ⟨rfl,rfl⟩:=h;obtain ⟨g0,hc⟩:=B3 hc;rw [Ga hG hcs g0];obtain ⟨g1,g2⟩:=B3 hc;rw [J8,H8,Q8] at g1;simp only [vB,Y9,u8s] at g2;have g1:decide (vN G off+vN G n≤(vL G cs).length)=true:=g1;simp only [gC,g1,g2,Bool.and_self,vV,vS,Y9,Ca]
   ·simp at h
  ·simp at h
 ·simp at h
theorem Ox {C:A2} (hG:C.G=G) {H:DHp} {z:Nat} {x:EV} {c:EB} {m:EN} {xs:EL} (h:mQ H z x=some (c,m,xs)) (hc:vB G c=true) :
  Pr C (B4 G H) z (vV G x)=some (true,vN G m,vL G xs):=by
 unfold mQ at h;split at h
 ·simp only [Option.some.injEq,Prod.mk.injEq] at h;obtain ⟨rfl,rfl,rfl⟩:=h;simp only [vV,Pr,vN,vL,vVs]
 ·rename_i mb r off m';split at h
  ·rename_i c0 cs hcs;simp only [Option.some.injEq,Prod.mk.injEq] at h;obtain ⟨rfl,rfl,rfl⟩:=h;obtain ⟨g0,hc⟩:=B3 hc;obtain ⟨g1,g2⟩:=B3 hc;rw [J8,H8,L4,Q8] at g1;rw [Lj,Y9,L4] at g2;simp only [vV,Pr,Ga hG hcs g0];have g1:decide (vN G off+vN G m'*z≤(vL G cs).length)=true:=g1;simp only [g1,g2,Bool.and_self,Y9,L4]
  ·simp at h
 ·rename_i s;split at h
  ·rename_i hz;have hz:=Nat.eq_of_beq_eq_true hz;subst hz;simp only [Option.some.injEq,Prod.mk.injEq] at h;obtain ⟨rfl,rfl,rfl⟩:=h;simp only [vV,Pr,Y7,Rg,decide_true]
  ·simp at h
 ·simp at h
theorem Kr {v:EV} {n:Nat} (h:Ks (some v) n=true):(A9 (vV G v)).length=n:=by
 unfold Ks at h;simp only at h;rw [←S5];split at h
 ·rename_i cs he;rw [he];simp only [vL,S4];exact Nat.eq_of_beq_eq_true h
 ·simp at h
def Ww (G:Nat→List AV) (o:Option (EB×EV×DHop)) (p:Option (Bool×AV×Hop)):Prop:=∀ c v h,o=some (c,v,h)→vB G c=true→p=some (true,vV G v,I3 G h)
theorem Xe {C:A2} (hG:C.G=G) {H:DHp} {t:TypeId} {s x:EV}:Ww G (Pc C.P H t s x) (Eb C (B4 G H) t (vV G s) (vV G x)):=by
 intro c v hp h hc;unfold Pc at h;unfold Eb;split at h
 rotate_left
 ·simp at h
 rename_i e hu;simp only [hu];split at h
 rotate_left
 ·simp at h
 rename_i i zv hi hz;have hz:=Bm (G:=G) hz;simp only [hi,hz];split at h
 ·simp at h
 rename_i hb;obtain ⟨hok,hb⟩:=L0 hb;obtain ⟨hb1,hb2⟩:=L0 hb;have hlen:((A9 (vV G zv)).length==i.size)=true:=by rw [Kr hb2];simp
 have hby:decide (1≤i.bytes)=true:=decide_eq_true (Nat.le_of_ble_eq_true hb1);split at h
 rotate_left
 ·simp at h
 rename_i c' m xs hs;split at h
 ·simp only [Option.some.injEq,Prod.mk.injEq] at h;obtain ⟨rfl,rfl,rfl⟩:=h;obtain ⟨g1,g2⟩:=B3 hc;have e1:=Ox hG hs g1;rw [J8,L4] at g2;simp only [vN] at g2;have g2:decide (vN G m*i.bytes≤140737488355328)=true:=g2;simp only [e1,vV,g2,hby,hlen,hok,Bool.and_self,O1,vR,vN,here,D7,I3,K6]
 ·rename_i mb j;split at h
  ·rename_i b hj;split at h
   ·rename_i hez;have hez:=Nat.eq_of_beq_eq_true hez;simp only [Option.some.injEq,Prod.mk.injEq] at h;obtain ⟨rfl,rfl,rfl⟩:=h;obtain ⟨g1,g2⟩:=B3 hc;have e1:=Ox hG hs g1;rw [J8,L4] at g2;simp only [vN] at g2;have g2:decide (vN G m*i.bytes≤140737488355328)=true:=g2;have hr:∀ l,isRec ⟨i.size,l⟩=false:=fun l=>Do hok;have g4:decide (0*i.size≤(vL G b.cells).length)=true:=decide_eq_true (by omega)
    simp only [hr,Bool.not_false,e1,vV,vR,vN,Q9 hj,K6,g2,hby,hlen,hez,beq_self_eq_true,Bool.and_self,O1,here,D7,I3,Nat.zero_add,Nat.zero_mul,List.take_zero,List.nil_append,Nat.zero_le,decide_true]
   ·simp at h
  ·simp at h
 ·rename_i mb j n;split at h
  ·rename_i b hj;split at h
   ·rename_i hez;have hez:=Nat.eq_of_beq_eq_true hez;simp only [Option.some.injEq,Prod.mk.injEq] at h;obtain ⟨rfl,rfl,rfl⟩:=h;obtain ⟨g1,hc⟩:=B3 hc;obtain ⟨g2,g3⟩:=B3 hc;have e1:=Ox hG hs g1;rw [J8,L4,H8] at g2;simp only [vN] at g2;rw [J8,Q8,L4] at g3;have g2:decide ((vN G n+vN G m)*i.bytes≤140737488355328)=true:=g2;have hr:∀ l,isRec ⟨i.size,l⟩=false:=fun l=>Do hok;have g4:decide (vN G n*i.size≤(vL G b.cells).length)=true:=g3
    simp only [hr,Bool.not_false,e1,vV,vR,vN,Nat.mul_one,Q9 hj,K6,g2,hby,hlen,hez,g4,beq_self_eq_true,Bool.and_self,O1,here,D7,I3,Vu,Y9,H8,L4,B9,List.drop_zero]
   ·simp at h
  ·simp at h
 ·rename_i mb j n _ _;split at h
  ·rename_i b hj;split at h
   ·rename_i hez;have hez:=Nat.eq_of_beq_eq_true hez;simp only [Option.some.injEq,Prod.mk.injEq] at h;obtain ⟨rfl,rfl,rfl⟩:=h;obtain ⟨g1,hc⟩:=B3 hc;obtain ⟨g2,g3⟩:=B3 hc;have e1:=Ox hG hs g1;rw [J8,L4,H8] at g2;simp only [vN] at g2;rw [Yt,Q8,L4] at g3;have g3:=Nat.eq_of_beq_eq_true g3;have g2:decide ((vN G n+vN G m)*i.bytes≤140737488355328)=true:=g2;have hr:∀ l,isRec ⟨i.size,l⟩=false:=fun l=>Do hok;have g4:decide (vN G n*i.size≤(vL G b.cells).length)=true:=decide_eq_true (by omega)
    have g5:(vL G b.cells).take (vN G n*i.size)=vL G b.cells:=List.take_of_length_le (by omega);simp only [hr,Bool.not_false,e1,vV,vR,vN,Q9 hj,K6,g2,hby,hlen,hez,g4,g5,beq_self_eq_true,Bool.and_self,O1,here,D7,I3,Vu,H8]
   ·simp at h
  ·simp at h
 ·simp at h
theorem Rf {l:EL} {o:EN} {v:EV} {z:Nat} (hz:K7 (vV G v)=z):vL G (Og l o v z)=B5 (vL G l) (vN G o) (vV G v):=by
 unfold Og;split
 ·rename_i d;split
  ·rename_i cs _;split
   ·rename_i hb;have hb:=Nat.eq_of_beq_eq_true hb;simp only [vV,K7] at hz;simp only [vV,B5,Vy,vL,vN,List.take_zero,List.nil_append,Nat.zero_add];rw [List.drop_of_length_le (by rw [S4];omega),List.append_nil]
   ·exact Gq _ _ _
  ·exact Gq _ _ _
 ·exact Gq _ _ _
theorem iQ {C:A2} {H:DHp} {t:TypeId} {s x:EV}:Ww G (Hh C.P H t s x) (Jt C (B4 G H) t (vV G s) (vV G x)):=by
 intro c v hp h hc;unfold Hh at h;unfold Jt;split at h
 rotate_left
 ·simp at h
 rename_i e n hu;simp only [hu,vV];split at h
 rotate_left
 ·simp at h
 rename_i i zv hi hz;simp only [hi,Bm (G:=G) hz];split at h
 rotate_left
 ·simp at h
 rename_i hb;obtain ⟨hok,hb⟩:=L0 hb;obtain ⟨hb0,hb⟩:=L0 hb;obtain ⟨hb1,hb2⟩:=L0 hb;simp only [Option.some.injEq,Prod.mk.injEq] at h;obtain ⟨rfl,rfl,rfl⟩:=h;obtain ⟨g1,g3⟩:=B3 hc;rw [R0] at g1 g3
 have ebig:vI G (Hh.mkBigD n i.bytes)=vI G n*i.bytes:=by
  unfold Hh.mkBigD
  split<;>simp [vI,vVs,vV,iO]
 rw [ebig] at g3;simp only [vI] at g1 g3;have g1:decide (0≤vI G n)=true:=decide_eq_true (of_decide_eq_true g1);have g3:decide (vI G n*i.bytes≤140737488355328)=true:=decide_eq_true (of_decide_eq_true g3);have g0:decide (1≤i.bytes)=true:=decide_eq_true (Nat.le_of_ble_eq_true hb0);have g5:decide ((A9 (vV G zv)).length=i.size)=true:=decide_eq_true (Kr hb1);have g6:decide (1≤i.size)=true:=decide_eq_true (Nat.le_of_ble_eq_true hb2);simp only [hok,g0,g1,g3,g5,g6,Bool.and_self,vV,O1,vR,vN,here,D7,I3,K6,Pm,S5,Y8]
theorem oL {C:A2} {H:DHp} {t:TypeId} {x:EV}:Ww G (cB C.P H t x) (Nk C (B4 G H) t (vV G x)):=by
 intro c v hp h hc;unfold cB at h;unfold Nk;split at h
 rotate_left
 ·simp at h
 rename_i e mb j off n hu;simp only [hu,vV,vR];split at h
 rotate_left
 ·simp at h
 rename_i z zv b hz hzv hj;split at h
 ·simp at h
 rename_i hr;rw [Bool.or_eq_false_iff] at hr;obtain ⟨hr,hb⟩:=hr;have hr:isRec (K6 G b)=false:=hr;have hb:(Ks (some zv) z&&Nat.ble 1 z)=true:=by simpa using hb
 obtain ⟨hb1,hb2⟩:=L0 hb;simp only [hz,Bm (G:=G) hzv,Q9 hj,hr,Bool.not_false,Bool.true_and];simp only [Option.some.injEq,Prod.mk.injEq] at h;obtain ⟨rfl,rfl,rfl⟩:=h;obtain ⟨g1,hc⟩:=B3 hc;obtain ⟨g2,g3⟩:=B3 hc;rw [J8] at g1 g3;rw [Lj,S5] at g2;rw [H8,L4,Q8] at g3;simp only [vN] at g1;have g1:decide (1≤vN G n)=true:=g1;have g3:decide (vN G off+vN G n*z≤(vL G b.cells).length)=true:=g3;have g5:decide ((A9 (vV G zv)).length=z)=true:=decide_eq_true (Kr hb1)
 have g6:decide (1≤z)=true:=decide_eq_true (Nat.le_of_ble_eq_true hb2);simp only [g1,g2,g5,g6,K6,vV,vVs,I3,Gq,B5,Pm,S5];have g7:=of_decide_eq_true g3;simp only [g7,decide_true,Bool.and_self]
theorem Yn {C:A2} (hG:C.G=G) {F:DFr} {H:DHp} {op:Op}:Ww G (Iw C.P F H op) (G0 C (vVs G F) (B4 G H) op):=by
 intro c v hp h hc;unfold Iw at h;split at h
 ·-- store
  simp only [G0,←vV_evD];split at h
  ·rename_i i off z he hz;simp only [he,hz,vV,vR];split at h
   ·rename_i b hb;split at h
    ·simp at h
    rename_i hr;have hr:∀ l,isRec ⟨b.esz,l⟩=false:=fun _=>hr;simp only [Option.some.injEq,Prod.mk.injEq] at h;obtain ⟨rfl,rfl,rfl⟩:=h;obtain ⟨g1,hc⟩:=B3 hc;obtain ⟨g2,g3⟩:=B3 hc;rw [J8,H8,Q8] at g3;simp only [vN] at g3;have g3:decide (vN G off+z≤(vL G b.cells).length)=true:=g3;simp only [hr,Bool.not_false,Q9 hb,K6,Nc _ g1,Es g2,g3,beq_self_eq_true,Bool.and_self,vV,vVs,I3,Rf (Es g2)]
   ·simp at h
  ·simp at h
 ·-- alloc
  simp only [G0];split at h
  ·rename_i z hz;simp only [Bm (G:=G) hz];simp only [Option.some.injEq,Prod.mk.injEq] at h;obtain ⟨rfl,rfl,rfl⟩:=h;simp only [vV,O1,vR,vN,here,D7,I3,K6,S5]
  ·simp at h
 ·-- box
  simp only [G0,←vV_evD];split at h
  ·rename_i hk;simp only [Option.some.injEq,Prod.mk.injEq] at h;obtain ⟨rfl,rfl,rfl⟩:=h;simp only [aR hk,vV,O1,vR,vN,here,D7,I3,K6,S5]
  ·simp at h
 ·-- buildSlice
  rename_i t n parts;simp only [G0];split at h
  rotate_left
  ·simp at h
  rename_i e hu;simp only [hu];split at h
  rotate_left
  ·simp at h
  rename_i z zv hz hzv;simp only [hz,Bm (G:=G) hzv];split at h
  rotate_left
  ·simp at h
  rename_i cs hcs;split at h
  rotate_left
  ·simp at h
  rename_i hb;obtain ⟨hok,hb⟩:=L0 hb;obtain ⟨hb1,hb2⟩:=L0 hb;have e0:A9 (vV G zv)=vVs G cs:=by rw [←S5,hcs];simp only [vL]
  have e1:(vVs G cs).length=z:=by rw [S4];exact Nat.eq_of_beq_eq_true hb2
  split at h
  ·rename_i c' cs' hf;simp only [Option.some.injEq,Prod.mk.injEq] at h;obtain ⟨rfl,rfl,rfl⟩:=h
   have:=Oo _ _ _ _ hf hc
   have e2:vL G (.of (List.replicate n cs).flatten)=(List.replicate n (A9 (vV G zv))).flatten:=by
    simp only [vL,e0,L6,List.map_flatten,List.map_replicate]
   rw [e2,List.map_map] at this
   have e3:(List.map ((fun p:Nat×EV=>(p.1,vV G p.2)) ∘ fun p:Nat×Operand=>(p.1,evD F p.2)) parts.toList)=List.map (fun p=>(p.1,ev (vVs G F) p.2)) parts.toList:=by
    refine List.map_congr_left fun p _=>?_;simp [vV_evD]
   rw [e3] at this;have hb1:decide (n*z≤16777216)=true:=decide_eq_true (Nat.le_of_ble_eq_true hb1);rw [e0] at this;simp only [hok,e0,this,e1,hb1,decide_true,Bool.and_self,vV,O1,vR,vN,here,D7,I3,K6]
  ·simp at h
 ·-- makeSlice
  simp only [G0,←vV_evD];split at h
  rotate_left
  ·simp at h
  rename_i e k l k' c' hu hl hc';simp only [hu,hl,hc',vV];split at h
  rotate_left
  ·simp at h
  rename_i i zv hi hz;simp only [hi,Bm (G:=G) hz];split at h
  rotate_left
  ·simp at h
  rename_i hb;obtain ⟨hok,hb⟩:=L0 hb;obtain ⟨hb1,hb2⟩:=L0 hb;simp only [Option.some.injEq,Prod.mk.injEq] at h;obtain ⟨rfl,rfl,rfl⟩:=h;obtain ⟨g1,hc⟩:=B3 hc;obtain ⟨g2,hc⟩:=B3 hc;obtain ⟨g3,g4⟩:=B3 hc;rw [R0] at g1 g2 g3 g4
  have ebig:vI G (Iw.mkBig c' i.bytes)=vI G c'*i.bytes:=by
   unfold Iw.mkBig
   split<;>simp [vI,vVs,vV,iO]
  rw [ebig] at g3;simp only [vI] at g1 g3 g4;have g1:decide (0≤vI G l)=true:=decide_eq_true (of_decide_eq_true g1);have g2:decide (vI G l≤vI G c')=true:=decide_eq_true (of_decide_eq_true g2);have g3:decide (vI G c'*i.bytes≤140737488355328)=true:=decide_eq_true (of_decide_eq_true g3);have g4:decide (vI G c'≤140737488355328)=true:=decide_eq_true (of_decide_eq_true g4);have g5:decide ((A9 (vV G zv)).length=i.size)=true:=decide_eq_true (Kr hb1);have g6:decide (1≤i.size)=true:=decide_eq_true (Nat.le_of_ble_eq_true hb2)
  simp only [hok,g1,g2,g3,g4,g5,g6,Bool.and_self,vV,O1,vR,vN,here,D7,I3,K6,Pm,S5,Y8]
 ·-- convert
  simp only [G0,←vV_evD];split at h
  ·rename_i s h1 he;simp only [h1,he,vV];simp only [Option.some.injEq,Prod.mk.injEq] at h;obtain ⟨rfl,rfl,rfl⟩:=h;rw [J8,Y7] at hc;simp only [vN] at hc;have hc:decide ((vS G s).length≤140737488355328)=true:=hc;simp only [hc,vV,O1,vR,vN,here,D7,I3,K6,Y7,Rg]
  ·rename_i mb i off n h1 he;simp only [h1,he,vV,vR];split at h
   ·rename_i h2;simp only [h2];split at h
    ·rename_i b hb;split at h
     ·simp at h
     rename_i hr;have hr:isRec (K6 G b)=false:=hr;simp only [Q9 hb,hr,Bool.not_false,Bool.true_and];simp only [Option.some.injEq,Prod.mk.injEq] at h;obtain ⟨rfl,rfl,rfl⟩:=h;rw [J8] at hc;simp only [vN] at hc;have hc:Nat.ble 1 (vN G n)=true:=Nat.ble_eq_true_of_le (C6.1 hc);simp only [hc,vV,vR,I3]
    ·simp at h
   ·simp at h
  ·simp at h
 ·-- append
  simp only [G0];split at h
  rotate_left
  ·simp at h
  rename_i s x t u h1 h2;simp only [h1,h2,←vV_evD];split at h
  ·rename_i e hu;simp only [hu];exact Xe hG _ _ _ h hc
  ·rename_i hu;simp only [hu];exact Xe hG _ _ _ h hc
  ·rename_i k hu;simp only [hu];exact iQ _ _ _ h hc
  ·simp at h
 ·-- clear
  simp only [G0];split at h
  rotate_left
  ·simp at h
  rename_i x t h1 h2;simp only [h1,h2,←vV_evD];exact oL _ _ _ h hc
 ·simp at h
theorem lJ {C:A2} (hG:C.G=G) {fam:TypeId→Option (Nat×Nat)} {F:DFr} {H:DHp} {op:Op} {c0:EB} {x:FamR} (h:bQ fam C.P F H op=some (c0,x)) (h0:vB G c0=true):WoF G x (I8 C (vVs G F) (B4 G H) op):=by
 unfold bQ at h;split at h
 ·rename_i t a;simp only [I8,←vV_evD];split at h
  ·rename_i r off he;simp only [he,vV];split at h
   ·simp at h
   ·rename_i hr;split at h
    ·rename_i c1 cs hcs;split at h
     ·rename_i y hp;simp only [Option.some.injEq,Prod.mk.injEq] at h;obtain ⟨rfl,rfl⟩:=h
      have hl:Fw C (B4 G H) t (vR G r) (vN G off)=P6 C.P t (vL G cs) (vN G off):=by
       unfold Fw;rw [Ga hG hcs h0];cases r with
       | rw i=>simp only [vR,Hu]
       | ro n=>exact absurd rfl (hr n)
       | fm b c k=>simp only [vR,Hu]
      rw [hl];exact Uz hp
     ·simp at h
    ·simp at h
  ·simp at h
 ·simp only [I8,←vV_evD];split at h
  ·rename_i fs cs hu he;simp only [hu,he,vV];split at h
   ·rename_i fd hf;simp only [hf];split at h
    ·rename_i y hp;simp only [Option.some.injEq,Prod.mk.injEq] at h;obtain ⟨rfl,rfl⟩:=h
     have:=Uz (G:=G) hp
     simpa only [vN] using this
    ·simp at h
   ·simp at h
  ·simp at h
 ·simp only [I8,←vV_evD];split at h
  ·rename_i len e cs k i hu he hi;simp only [hu,he,hi,vV];split at h
   ·rename_i z hz;simp only [hz];split at h
    ·rename_i y hp;simp only [Option.some.injEq,Prod.mk.injEq] at h;obtain ⟨rfl,rfl⟩:=h;obtain ⟨g1,g2⟩:=B3 h0
     have:=Uz (G:=G) hp
     rw [Ep,Y8] at this;rw [R0] at g1 g2;have g1:decide (0≤vI G i)=true:=decide_eq_true (by have:=of_decide_eq_true g1;simpa only [vI] using this);have g2:decide (vI G i<len)=true:=decide_eq_true (by have:=of_decide_eq_true g2;simpa only [vI] using this);cases y with
     | val c v=>exact fun hc=>by simp only [this hc,g1,g2,Bool.and_self]
     | ptr n c v=>exact ⟨fun hc=>by simp only [this.1 hc,g1,g2,Bool.and_self],fun hc=>by simp only [this.2 hc,g1,g2,Bool.and_self]⟩
    ·simp at h
   ·simp at h
  ·simp at h
 ·simp at h
theorem Xf (b:Nat) (f:Nat→Blk):∀ (c:Nat) (H:Hp),(acts H ((List.range c).map fun j=>Hop.set (b+j) (f j))).length=H.length∧∀ i,(acts H ((List.range c).map fun j=>Hop.set (b+j) (f j)))[i]?=if b≤i∧i<b+c∧i<H.length then some (some (f (i - b))) else H[i]?
 | 0,H=>⟨by simp [acts],fun i=>by rw [if_neg (by omega)];simp [acts]⟩
 | c+1,H=>by
  have app:∀ (hs ks:List Hop) (H:Hp),acts H (hs++ks)=acts (acts H hs) ks:=by
   intro hs
   induction hs with
   | nil=>intro ks H;rfl
   | cons h hs ih=>intro ks H;exact ih ks _
  obtain ⟨h1,h2⟩:=Xf b f c H;rw [List.range_succ,List.map_append,app];simp only [List.map_cons,List.map_nil,acts,Hop.act];refine ⟨by rw [List.length_set,h1],fun i=>?_⟩;rw [List.getElem?_set,h1];by_cases e:b+c=i
  ·subst e;rw [if_pos rfl];by_cases hl:b+c<H.length
   ·rw [if_pos hl,if_pos (by omega),show b+c - b=c by omega]
   ·rw [if_neg hl,if_neg (by omega),List.getElem?_eq_none (by omega)]
  ·rw [if_neg e,h2];by_cases hi:b≤i∧i<b+c∧i<H.length
   ·rw [if_pos hi,if_pos (by omega)]
   ·rw [if_neg hi,if_neg (by omega)]
theorem iA {H:DHp} {b c z:Nat} {l l2:EL} {ls:List EV} {k:Nat} {N:List AV} (hf:Ov H b c=some (z,l,ls)) (hr:Eh (vL G l) (vVs G ls)=true) (hk:k<c) (hkl:k<(vL G l).length) (h2:vL G l2=P5 (vL G l) k N) :
  acts (B4 G H) ((Oq b c z l2).map (I3 G))=(B4 G H).set (b+k) (some ⟨z,N⟩):=by
 have e0:(Oq b c z l2).map (I3 G)=(List.range c).map fun j=>Hop.set (b+j) ⟨z,A0 (P5 (vL G l) k N) j⟩:=by
  unfold Oq;rw [List.map_map];refine List.map_congr_left fun j _=>?_;simp only [Function.comp,I3,K6,vL,vN,h2]
 rw [e0];obtain ⟨h1,h3⟩:=Xf b (fun j=>⟨z,A0 (P5 (vL G l) k N) j⟩) c (B4 G H);refine List.ext_getElem? fun i=>?_;rw [h3,List.getElem?_set]
 have hput:∀ j,A0 (P5 (vL G l) k N) j=if k=j then N else A0 (vL G l) j:=fun j=>by
  unfold A0 P5;rw [List.getElem?_set];by_cases e:k=j
  ·subst e;rw [if_pos rfl,if_pos rfl,if_pos hkl]
  ·rw [if_neg e,if_neg e]
 by_cases hi:b≤i∧i<b+c∧i<(B4 G H).length
 ·rw [if_pos hi,hput];by_cases e:b+k=i
  ·subst e;rw [if_pos rfl,if_pos (by omega),if_pos hi.2.2]
  ·rw [if_neg e,if_neg (by omega)]
   have:=Su hf hr (i:=i - b) (by omega)
   rw [show b+(i - b)=i by omega] at this;rw [this]
 ·rw [if_neg hi];by_cases e:b+k=i
  ·subst e
   have:=Su hf hr hk
   have:=(List.getElem?_eq_some_iff.1 this).1
   omega
  ·rw [if_neg e]
theorem iX {C:A2} (hG:C.G=G) {F:DFr} {H:DHp} {op:Op} {c:EB} {hs:List DHop} (h:Tt C.P F H op=some (c,hs)) (hc:vB G c=true) :
  ∃ hp,G0 C (vVs G F) (B4 G H) op=some (true,.tup [],hp)∧hp.act (B4 G H)=acts (B4 G H) (hs.map (I3 G)):=by
 unfold Tt at h;split at h
 ·rename_i t a x;simp only [G0,←vV_evD];split at h
  ·rename_i b cc k off z he hz;simp only [he,hz,vV,vR];split at h
   ·rename_i z0 l ls hf;simp only [Option.some.injEq,Prod.mk.injEq] at h;obtain ⟨rfl,rfl⟩:=h;obtain ⟨g1,hc⟩:=B3 hc;obtain ⟨g2,hc⟩:=B3 hc;obtain ⟨g3,hc⟩:=B3 hc;obtain ⟨g4,hc⟩:=B3 hc;obtain ⟨g5,g6⟩:=B3 hc;rw [J8,H8] at g1 g3;simp only [vN] at g1 g3;have g1:=C6.1 g1;have g3:=C6.1 g3;simp only [vB] at g2;rw [J8,H8,Q8] at g6;simp only [vN,vL] at g6;have g6:decide (vN G off+z≤(A0 (vL G l) (vN G k)).length)=true:=g6;have hr:∀ l',isRec ⟨z0,l'⟩=false:=fun _=>(Qr hf).1
    refine ⟨.set (b+vN G k) ⟨z0,B5 (A0 (vL G l) (vN G k)) (vN G off) (vV G (evD F x))⟩,?_,?_⟩
    ·simp only [Su hf g2 (show vN G k<cc by omega),hr,Bool.not_false,Nc _ g4,Es g5,g6,beq_self_eq_true,Bool.and_self]
    ·rw [iA (k:=vN G k) (N:=B5 (A0 (vL G l) (vN G k)) (vN G off) (vV G (evD F x))) hf g2 (by omega) (by omega) (by simp only [vL,Rf (Es g5)])];rfl
   ·simp at h
  ·simp at h
 ·simp at h
theorem fO {F:DFr} {op:Op} {f:FuncId} {args:List EV} (h:Pb F op=some (f,args)):callOp (vVs G F) op=some (f,vVs G args):=by
 unfold Pb at h;split at h
 ·simp only [callOp,←vV_evD];split at h
  ·rename_i g cap he;simp only [Option.some.injEq,Prod.mk.injEq] at h;obtain ⟨rfl,rfl⟩:=h;simp only [he,vV,Jx,aL]
  ·simp at h
 ·simp at h
theorem iV {F:DFr} {op:Op} {i:Nat} {args:List EV} (h:Ts F op=some (i,args)):yldOp (vVs G F) op=some (i,vVs G args):=by
 unfold Ts at h;split at h
 ·simp only [yldOp,←vV_evD];split at h
  ·rename_i g he;simp only [Option.some.injEq,Prod.mk.injEq] at h;obtain ⟨rfl,rfl⟩:=h;simp only [he,vV,aL]
  ·simp at h
 ·simp at h
theorem jW {C:A2} (hG:C.G=G) {F:DFr} {H:DHp} (x:ResultVar):Wo G (Ue C.P F H x) (Mg C (vVs G F) (B4 G H) x):=by
 intro c v h hc;unfold Ue at h;unfold Mg;split at h
 ·simp only [Option.some.injEq,Prod.mk.injEq] at h;obtain ⟨rfl,rfl⟩:=h;simp only [Dv,Y6]
 ·simp only [Y6];simp only [Dv] at h;split at h
  ·rename_i r off he;simp only [he,vV];exact eW hG _ _ h hc
  ·simp at h
theorem Mi {C:A2} (hG:C.G=G) {F:DFr} {H:DHp}:∀ (xs:List ResultVar) (c:EB) (vs:List EV),Jh C.P F H xs=some (c,vs)→vB G c=true→Cg C (vVs G F) (B4 G H) xs=some (true,vVs G vs)
 | [],c,vs,h,_=>by
  simp only [Jh,Option.some.injEq,Prod.mk.injEq] at h;obtain ⟨rfl,rfl⟩:=h;simp only [Cg,vVs]
 | x::xs,c,vs,h,hc=>by
  unfold Jh at h;split at h
  ·rename_i c1 v h1;split at h
   ·rename_i d r h2;simp only [Option.some.injEq,Prod.mk.injEq] at h;obtain ⟨rfl,rfl⟩:=h;obtain ⟨g1,g2⟩:=B3 hc;simp only [Cg,jW hG x _ _ h1 g1,Mi hG xs _ _ h2 g2,Bool.and_self,vVs]
   ·simp at h
  ·simp at h
theorem Zp {C:A2} (hG:C.G=G) {fn:Func} {F:DFr} {H:DHp}:Wo G (nC C.P fn F H) (Pw C fn (vVs G F) (B4 G H)):=by
 intro c v h hc;unfold nC at h;unfold Pw;split at h
 ·rename_i c' v' hr;simp only [Option.some.injEq,Prod.mk.injEq] at h;obtain ⟨rfl,rfl⟩:=h;simp only [Mi hG _ _ _ hr hc,vVs]
 ·rename_i c' vs hn hr;simp only [Option.some.injEq,Prod.mk.injEq] at h;obtain ⟨rfl,rfl⟩:=h;rw [Mi hG _ _ _ hr hc];cases vs with
  | nil=>simp only [vVs,vV]
  | cons x l=>cases l with
   | nil=>exact absurd rfl (hn _)
   | cons y l=>simp only [vVs,vV]
 ·simp at h
end Go.Am
namespace Go.Am
variable {G:Nat→List AV}
def vT (G:Nat→List AV) (Q:Ex→List AV→Hp→Prop) (R:AV→Hp→Prop):T→Prop
 | .fail=>False
 | .chk b t=>vB G b=true∧vT G Q R t
 | .tst b x y=>(vB G b=true→vT G Q R x)∧(vB G b=false→vT G Q R y)
 | .imp b t=>vB G b=true→vT G Q R t
 | .allI _ k=>∀ x,vT G Q R (k x)
 | .allN _ k=>∀ x,vT G Q R (k x)
 | .allB _ k=>∀ x,vT G Q R (k x)
 | .allL _ k=>∀ x,vT G Q R (k x)
 | .namI _ e k=>∀ x,x=vI G e→vT G Q R (k x)
 | .namN _ e k=>∀ x,x=vN G e→vT G Q R (k x)
 | .namB _ e k=>∀ x,x=vB G e→vT G Q R (k x)
 | .namL _ e k=>∀ x,x=vL G e→vT G Q R (k x)
 | .leaf e F H=>Q e (vVs G F) (B4 G H)
 | .ret v H=>R (vV G v) (B4 G H)
section
variable {Q:Ex→List AV→Hp→Prop} {R:AV→Hp→Prop}
theorem S1:∀ (b:EB) {t:T},vT G Q R (Av b t)→vB G b=true∧vT G Q R t
 | .lit true,t,h=>⟨rfl,h⟩
 | .lit false,t,h=>h.elim
 | .and a b,t,h=>by
  simp only [Av] at h;obtain ⟨h1,h⟩:=S1 a h;obtain ⟨h2,h⟩:=S1 b h;exact ⟨by simp [vB,h1,h2],h⟩
 | .var ..,t,h=>h
 | .cmp ..,t,h=>h
 | .not ..,t,h=>h
 | .eqB ..,t,h=>h
 | .eqS ..,t,h=>h
 | .isI ..,t,h=>h
 | .isB ..,t,h=>h
 | .isT ..,t,h=>h
 | .isR ..,t,h=>h
 | .get ..,t,h=>h
 | .leN ..,t,h=>h
 | .eqN ..,t,h=>h
 | .leaf ..,t,h=>h
 | .u8s ..,t,h=>h
 | .cells ..,t,h=>h
 | .isF ..,t,h=>h
 | .isP ..,t,h=>h
 | .isNil ..,t,h=>h
 | .rows ..,t,h=>h
 | .uf ..,t,h=>h
def Bran (G:Nat→List AV) (Q:Ex→List AV→Hp→Prop) (R:AV→Hp→Prop) (n:Nat) (b:EB) (x y:Facts→T):Prop:=
 (vB G b=true∧∃ fs':Facts,fs'.n=n∧vT G Q R (x fs'))∨(vB G b=false∧∃ fs':Facts,fs'.n=n∧vT G Q R (y fs'))
theorem M5 {fs:Facts} {b:EB} {x y:Facts→T} (h:vT G Q R (match dec fs b with | some true=>.chk b (x fs) | some false=>.chk (.not b) (y fs) | none=>.tst b (x (Ej fs b true)) (y (Ej fs b false)))):Bran G Q R fs.n b x y:=by
 have hl:∀ v,(Ej fs b v).n=fs.n:=fun v=>by unfold Ej;rfl
 split at h
 ·exact .inl ⟨h.1,fs,rfl,h.2⟩
 ·refine .inr ⟨?_,fs,rfl,h.2⟩
  have:=h.1
  simpa [vB] using this
 ·cases hb:vB G b with
  | true=>exact .inl ⟨hb,_,hl _,h.1 hb⟩
  | false=>exact .inr ⟨hb,_,hl _,h.2 hb⟩
theorem U1:∀ (b:EB) (fs:Facts) (x y:Facts→T),vT G Q R (V5 fs b x y)→Bran G Q R fs.n b x y
 | .lit true,fs,x,y,h=>.inl ⟨rfl,fs,rfl,h⟩
 | .lit false,fs,x,y,h=>.inr ⟨rfl,fs,rfl,h⟩
 | .not b,fs,x,y,h=>by
  simp only [V5] at h;rcases U1 b fs y x h with ⟨h1,h2⟩ | ⟨h1,h2⟩
  ·exact .inr ⟨by simp [vB,h1],h2⟩
  ·exact .inl ⟨by simp [vB,h1],h2⟩
 | .and a b,fs,x,y,h=>by
  simp only [V5] at h;rcases U1 a fs _ _ h with ⟨h1,fs1,e1,h2⟩ | ⟨h1,h2⟩
  ·rcases U1 b fs1 _ _ h2 with ⟨h3,h4⟩ | ⟨h3,h4⟩
   ·rw [e1] at h4;exact .inl ⟨by simp [vB,h1,h3],h4⟩
   ·rw [e1] at h4;exact .inr ⟨by simp [vB,h1,h3],h4⟩
  ·exact .inr ⟨by simp [vB,h1],h2⟩
 | .eqB a b,fs,x,y,h=>by
  simp only [V5] at h;rcases U1 a fs _ _ h with ⟨h1,fs1,e1,h2⟩ | ⟨h1,fs1,e1,h2⟩
  ·rcases U1 b fs1 _ _ h2 with ⟨h3,h4⟩ | ⟨h3,h4⟩
   ·rw [e1] at h4;exact .inl ⟨by simp [vB,h1,h3],h4⟩
   ·rw [e1] at h4;exact .inr ⟨by simp [vB,h1,h3],h4⟩
  ·rcases U1 b fs1 _ _ h2 with ⟨h3,h4⟩ | ⟨h3,h4⟩
   ·rw [e1] at h4;exact .inr ⟨by simp [vB,h1,h3],h4⟩
   ·rw [e1] at h4;exact .inl ⟨by simp [vB,h1,h3],h4⟩
 | .var ..,fs,x,y,h=>M5 h
 | .cmp ..,fs,x,y,h=>M5 h
 | .eqS ..,fs,x,y,h=>M5 h
 | .isI ..,fs,x,y,h=>M5 h
 | .isB ..,fs,x,y,h=>M5 h
 | .isT ..,fs,x,y,h=>M5 h
 | .isR ..,fs,x,y,h=>M5 h
 | .get ..,fs,x,y,h=>M5 h
 | .leN ..,fs,x,y,h=>M5 h
 | .eqN ..,fs,x,y,h=>M5 h
 | .leaf ..,fs,x,y,h=>M5 h
 | .u8s ..,fs,x,y,h=>M5 h
 | .cells ..,fs,x,y,h=>M5 h
 | .isF ..,fs,x,y,h=>M5 h
 | .isP ..,fs,x,y,h=>M5 h
 | .isNil ..,fs,x,y,h=>M5 h
 | .rows ..,fs,x,y,h=>M5 h
 | .uf ..,fs,x,y,h=>M5 h
theorem Gp {o:Option (EB×EV)} {k:EV→T} (h:vT G Q R (Rz o k)):∃ c v,o=some (c,v)∧vB G c=true∧vT G Q R (k v):=by
 unfold Rz at h;split at h
 ·rename_i c v;obtain ⟨h1,h2⟩:=S1 c h;exact ⟨c,v,rfl,h1,h2⟩
 ·exact h.elim
end
def At (G:Nat→List AV) (P:EV→List DHop→Prop):Outs→Prop
 | .one v hs=>P v hs
 | .chk b x=>vB G b=true→At G P x
 | .tst b x y=>(vB G b=true→At G P x)∧(vB G b=false→At G P y)
 | .namI e f=>∀ j,At G P (f (.var j (vI G e)))
 | .namN e f=>∀ j,At G P (f (.var j (vN G e)))
 | .namB e f=>∀ j,At G P (f (.var j (vB G e)))
 | .namL e f=>∀ j,At G P (f (.var j (vL G e)))
theorem U2 {Q:Ex→List AV→Hp→Prop} {R:AV→Hp→Prop} {P:EV→List DHop→Prop} {k:Facts→EV→List DHop→T}:∀ (o:Outs) (fs:Facts),vT G Q R (Z6 fs o k)→At G P o→∃ fs' v hs,P v hs∧vT G Q R (k fs' v hs)
 | .one v hs,fs,h,ho=>⟨fs,v,hs,ho,h⟩
 | .chk b x,fs,h,ho=>by
  simp only [Z6] at h;obtain ⟨h1,h2⟩:=S1 b h;exact U2 x fs h2 (ho h1)
 | .tst b x y,fs,h,ho=>by
  simp only [Z6] at h;rcases U1 b fs _ _ h with ⟨h1,fs1,_,h2⟩ | ⟨h1,fs1,_,h2⟩
  ·exact U2 x fs1 h2 (ho.1 h1)
  ·exact U2 y fs1 h2 (ho.2 h1)
 | .namI e f,fs,h,ho=>U2 (f (.var fs.n (vI G e))) (fresh fs) (h _ rfl) (ho _)
 | .namN e f,fs,h,ho=>U2 (f (.var fs.n (vN G e))) (fresh fs) (h _ rfl) (ho _)
 | .namB e f,fs,h,ho=>U2 (f (.var fs.n (vB G e))) (fresh fs) (h _ rfl) (ho _)
 | .namL e f,fs,h,ho=>U2 (f (.var fs.n (vL G e))) (fresh fs) (h _ rfl) (ho _)
def H5 (G:Nat→List AV) (Q:Ex→DFr→DHp→Prop):Nat→LOut→Prop
 | _,.one e F H=>Q e F H
 | n,.chk b x=>vB G b=true∧H5 G Q n x
 | n,.tst b x y=>(vB G b=true→H5 G Q n x)∧(vB G b=false→H5 G Q n y)
 | n,.imp b x=>vB G b=true→H5 G Q n x
 | n,.allI f=>∀ x,H5 G Q (n+1) (f (.var n x))
 | n,.allN f=>∀ x,H5 G Q (n+1) (f (.var n x))
 | n,.allB f=>∀ x,H5 G Q (n+1) (f (.var n x))
 | n,.allL f=>∀ x,H5 G Q (n+1) (f (.var n x))
 | n,.namI e f=>H5 G Q (n+1) (f (.var n (vI G e)))
 | n,.namN e f=>H5 G Q (n+1) (f (.var n (vN G e)))
 | n,.namB e f=>H5 G Q (n+1) (f (.var n (vB G e)))
 | n,.namL e f=>H5 G Q (n+1) (f (.var n (vL G e)))
theorem L3 {Q:Ex→List AV→Hp→Prop} {R:AV→Hp→Prop} {k:Facts→Ex→DFr→DHp→T}:∀ (o:LOut) (fs:Facts),vT G Q R (S8 fs o k)→H5 G (fun e F H=>∃ fs',vT G Q R (k fs' e F H)) fs.n o
 | .one e F H,fs,h=>⟨fs,h⟩
 | .chk b x,fs,h=>by
  simp only [S8] at h;obtain ⟨h1,h2⟩:=S1 b h;exact ⟨h1,L3 x fs h2⟩
 | .tst b x y,fs,h=>by
  simp only [S8] at h;rcases U1 b fs _ _ h with ⟨h1,fs1,e1,h2⟩ | ⟨h1,fs1,e1,h2⟩
  ·have:=L3 x fs1 h2
   rw [e1] at this;exact ⟨fun _=>this,fun hb=>by rw [h1] at hb;simp at hb⟩
  ·have:=L3 y fs1 h2
   rw [e1] at this;exact ⟨fun hb=>by rw [h1] at hb;simp at hb,fun _=>this⟩
 | .imp b x,fs,h=>fun hb=>L3 x (Ej fs b true) (h hb)
 | .allI f,fs,h=>fun x=>L3 (f (.var fs.n x)) (fresh fs) (h x)
 | .allN f,fs,h=>fun x=>L3 (f (.var fs.n x)) (fresh fs) (h x)
 | .allB f,fs,h=>fun x=>L3 (f (.var fs.n x)) (fresh fs) (h x)
 | .allL f,fs,h=>fun x=>L3 (f (.var fs.n x)) (fresh fs) (h x)
 | .namI e f,fs,h=>L3 (f (.var fs.n _)) (fresh fs) (h _ rfl)
 | .namN e f,fs,h=>L3 (f (.var fs.n _)) (fresh fs) (h _ rfl)
 | .namB e f,fs,h=>L3 (f (.var fs.n _)) (fresh fs) (h _ rfl)
 | .namL e f,fs,h=>L3 (f (.var fs.n _)) (fresh fs) (h _ rfl)
def F7 (C:A2) (f:FuncId) (args:List EV) (H:DHp) (v:EV) (hs:List DHop):Prop:=
 ACalls C f (vVs C.G args) (B4 C.G H) fun v' H'=>v'=vV C.G v∧H'=acts (B4 C.G H) (hs.map (I3 C.G))
def DYld (C:A2) (i:Nat) (args:List EV) (H:DHp) (v:EV) (hs:List DHop):Prop:=
 AYld C i (vVs C.G args) (B4 C.G H) fun v' H'=>v'=vV C.G v∧H'=acts (B4 C.G H) (hs.map (I3 C.G))
structure O6 (C:A2) (K:DCfg) (lps:List Code):Prop where
 hP:K.P=C.P
 mix:C.P.follows .mixedOrders=true
 calls:∀ f args H o,K.sum f args H=some o→At C.G (F7 C f args H) o
 loops:∀ m c F H o,m≤K.M→c∈lps→K.loop c F H=some o→∀ n (Q:Post),H5 C.G (fun e F' H'=>Q e (vVs C.G F') (B4 C.G H')) n o→AWp C m (.loop c) (vVs C.G F) (B4 C.G H) Q
 inl:∀ f fn c,K.inl f=true→C.P.funcs[f]?=some fn→fn.body=some c→∀ b∈A8 c,b∈lps
 rngs:∀ m c F H o,m≤K.M→c∈lps→K.rng c F H=some o→∀ n (Q:Post),H5 C.G (fun e F' H'=>Q e (vVs C.G F') (B4 C.G H')) n o→AWp C m c (vVs C.G F) (B4 C.G H) Q
 ylds:∀ i args H o,K.ysum i args H=some o→At C.G (DYld C i args H) o
def K0 (C:A2):Cfg:={ C:=C,inl:=fun _=>false,strict:=.lazy,unr:=false,sum:=fun _ _ _=>none,loop:=fun _ _ _=>none,M:=0 }
theorem Ut {C:A2} (h:C.P.follows .mixedOrders=true) (lps:List Code):Iu (K0 C) lps:=⟨h,fun f args H v hs h=>by simp [K0] at h,fun m c F H e F' H' _ _ h=>by simp [K0] at h⟩
noncomputable def mH (G:Nat→List AV):DTrK→TrK
 | .still=>.still
 | .read r=>.read (vR G r)
 | .write=>.write
noncomputable def Vt (G:Nat→List AV) (t:To):Tr:=⟨mH G t.kd,t.len,t.hs.map (I3 G)⟩
noncomputable def vWk (G:Nat→List AV):DWk→Wk
 | .code c=>.code c
 | .ops all l=>.ops all l
 | .dr all l trs=>.dr all l (trs.map (Vt G))
theorem Yz (i:Nat):∀ (hs:List DHop) (len:Nat),Ef i len (hs.map (I3 G))=Iy i len hs
 | [],_=>rfl
 | h::hs,len=>by cases h<;>simp only [List.map_cons,I3,Ef,Iy,Yz i hs]
theorem Vw (r:ER) (hs:List DHop) (len:Nat) (h:Ix r len hs=false):Gr (vR G r) len (hs.map (I3 G))=false:=by
 cases r with
 | rw i=>simp only [Ix] at h;simp only [vR,Gr,Yz,h]
 | ro n=>simp only [vR,Gr]
 | fm b c k=>simp [Ix] at h
theorem lX (x y:To) (h:Vm x y=true):X3 (Vt G x) (Vt G y)=true:=by
 obtain ⟨kx,lx,hx⟩:=x;obtain ⟨ky,ly,hy⟩:=y;cases kx<;>cases ky<;>simp only [Vt,mH,X3,Vm] at h ⊢
 ·rw [Vw _ _ _ (by simpa using h)];rfl
 ·rw [Vw _ _ _ (by simpa using h)];rfl
 ·cases h
theorem lL (all:List Oper) (trs:List To) (h:Ve all trs=true):T1 all (trs.map (Vt G))=true:=by
 unfold Ve at h;unfold T1;simp only [Bool.and_eq_true,List.all_eq_true,Bool.or_eq_true] at h ⊢;refine ⟨h.1,fun j hj i hi=>?_⟩;rcases h.2 j hj i hi with h1 | h1
 ·exact .inl h1
 ·refine .inr ?_;simp only [List.getElem?_map]
  revert h1
  cases all[i]?<;>cases all[j]?<;>cases trs[i]?<;>cases trs[j]?<;>simp;intro g1 g2;exact ⟨g1,lX _ _ g2⟩
theorem He:∀ (H':DHp) (p:Bool) (i:Nat) (hs:List DHop),X2 p i H'=some hs→R8 p i (B4 G H')=some (hs.map (I3 G))
 | [],false,i,hs,h=>by simp [X2] at h;subst h;rfl
 | [],true,i,hs,h=>by simp [X2] at h
 | some b::H',false,i,hs,h=>by
  simp only [X2] at h;split at h
  ·rename_i hs' h1;simp at h;subst h
   have:=He H' false (i+1) hs' h1
   simp only [B4] at this;simp only [B4,List.map_cons,Option.map_some,R8,this,I3]
  ·simp at h
 | some b::H',true,i,hs,h=>by
  simp only [X2] at h;split at h
  ·rename_i hs' h1;simp at h;subst h
   have:=He H' false (i+1) hs' h1
   simp only [B4] at this;simp only [B4,List.map_cons,Option.map_some,R8,this,I3]
  ·simp at h
 | none::H',false,i,hs,h=>by
  simp only [X2] at h;split at h
  ·rename_i hs' h1;simp at h;subst h
   have:=He H' true (i+1) hs' h1
   simp only [B4] at this;simp only [B4,List.map_cons,Option.map_none,R8,this,I3,K6,vL,vVs]
  ·simp at h
 | none::H',true,i,hs,h=>by
  simp only [X2] at h;split at h
  ·rename_i hs' h1;simp at h;subst h
   have:=He H' true (i+1) hs' h1
   simp only [B4] at this;simp only [B4,List.map_cons,Option.map_none,R8,this,I3,K6,vL,vVs]
  ·simp at h
theorem Vf:∀ (H H':DHp) (i:Nat) (hs:List DHop),El i H H'=some hs→U0 false i (B4 G H) (B4 G H')=some (hs.map (I3 G))
 | [],H',i,hs,h=>by
  simp only [El] at h
  have:=He (G:=G) H' false i hs h
  simp only [B4,List.map_nil,U0] at this ⊢;exact this
 | x::H,some b::H',i,hs,h=>by
  cases x<;>simp only [El] at h
  all_goals
   split at h
   ·rename_i hs' h1;simp at h;subst h
    have:=Vf H H' (i+1) hs' h1
    simp only [B4] at this;simp only [B4,List.map_cons,Option.map_some,Option.map_none,U0,Bool.false_and,this,I3]
   ·simp at h
 | none::H,none::H',i,hs,h=>by
  simp only [El] at h
  have:=Vf H H' (i+1) hs h
  simp only [B4] at this;simp only [B4,List.map_cons,Option.map_none,U0,this]
 | some _::H,none::H',i,hs,h=>by simp [El] at h
 | some _::H,[],i,hs,h=>by simp [El] at h
 | none::H,[],i,hs,h=>by simp [El] at h
theorem Qp (fn:Func) (args:List EV):vVs G (Fa fn args)=R4 fn (vVs G args):=by
 unfold Fa R4;rw [Jx,S4];congr 1;rw [L6,List.map_replicate];simp only [vV,vVs]
theorem W9 (F:DFr) (d:Option Tmp) (v:EV):vVs G (I7 F d v)=put (vVs G F) d (vV G v):=by
 cases d<;>simp only [I7,Ka,put,dI]
theorem Wh {K:DCfg} {r1 r2:Code→Bool} (h:∀ c,r1 c=true→r2 c=true):∀ c,M3 K r1 c=true→M3 K r2 c=true:=by
 have op:∀ o,Y1 K r1 o=true→Y1 K r2 o=true:=fun o ho=>by
  unfold Y1 at ho ⊢
  split at ho<;>first
   | rfl
   | (simp at ho;done)
   | skip
  split at ho
  ·rename_i g _ _;obtain ⟨h1,h2⟩:=L0 ho;rw [h1];simp only [Bool.true_and];split at h2
   ·split at h2
    ·exact h _ h2
    ·rfl
   ·rfl
  ·simp at ho
 intro c
 induction c with
 | region id ops d=>simp only [M3,List.all_eq_true];exact fun h o ho=>op o (h o ho)
 | seq a b iha ihb=>simp only [M3,Bool.and_eq_true];exact fun h=>⟨iha h.1,ihb h.2⟩
 | cond x a b iha ihb=>simp only [M3,Bool.and_eq_true];exact fun h=>⟨iha h.1,ihb h.2⟩
 | block id c ih=>exact ih
 | scope c ih=>exact ih
 | _=>intro h;simp_all [M3]
theorem Pg {K:DCfg}:∀ d c,K8 K d c=true→K8 K (d+1) c=true
 | 0,c,h=>by simp [K8] at h
 | d+1,c,h=>Wh (Pg d) c h
def E2 (H:DHp):T→Prop
 | .fail=>True
 | .chk _ t=>E2 H t
 | .tst _ x y=>E2 H x∧E2 H y
 | .imp _ t=>E2 H t
 | .allI _ k=>∀ x,E2 H (k x)
 | .allN _ k=>∀ x,E2 H (k x)
 | .allB _ k=>∀ x,E2 H (k x)
 | .allL _ k=>∀ x,E2 H (k x)
 | .namI _ _ k=>∀ x,E2 H (k x)
 | .namN _ _ k=>∀ x,E2 H (k x)
 | .namB _ _ k=>∀ x,E2 H (k x)
 | .namL _ _ k=>∀ x,E2 H (k x)
 | .leaf ..=>True
 | .ret _ H'=>H'=H
theorem Bu {H:DHp}:∀ (b:EB) {t:T},E2 H t→E2 H (Av b t)
 | .lit true,t,h=>h
 | .lit false,t,h=>trivial
 | .and a b,t,h=>by simp only [Av];exact Bu a (Bu b h)
 | .var ..,t,h=>h
 | .cmp ..,t,h=>h
 | .not ..,t,h=>h
 | .eqB ..,t,h=>h
 | .eqS ..,t,h=>h
 | .isI ..,t,h=>h
 | .isB ..,t,h=>h
 | .isT ..,t,h=>h
 | .isR ..,t,h=>h
 | .get ..,t,h=>h
 | .leN ..,t,h=>h
 | .eqN ..,t,h=>h
 | .leaf ..,t,h=>h
 | .u8s ..,t,h=>h
 | .cells ..,t,h=>h
 | .isF ..,t,h=>h
 | .isP ..,t,h=>h
 | .isNil ..,t,h=>h
 | .rows ..,t,h=>h
 | .uf ..,t,h=>h
theorem M6 {H:DHp} {fs:Facts} {b:EB} {x y:Facts→T} (hx:∀ fs,E2 H (x fs)) (hy:∀ fs,E2 H (y fs)) :
  E2 H (match dec fs b with | some true=>.chk b (x fs) | some false=>.chk (.not b) (y fs) | none=>.tst b (x (Ej fs b true)) (y (Ej fs b false))):=by
 split
 ·exact hx _
 ·exact hy _
 ·exact ⟨hx _,hy _⟩
theorem X7 {H:DHp}:∀ (b:EB) (fs:Facts) (x y:Facts→T),(∀ fs,E2 H (x fs))→(∀ fs,E2 H (y fs))→E2 H (V5 fs b x y)
 | .lit true,fs,x,y,hx,hy=>hx _
 | .lit false,fs,x,y,hx,hy=>hy _
 | .not b,fs,x,y,hx,hy=>by simp only [V5];exact X7 b fs y x hy hx
 | .and a b,fs,x,y,hx,hy=>by simp only [V5];exact X7 a fs _ _ (fun fs=>X7 b fs x y hx hy) hy
 | .eqB a b,fs,x,y,hx,hy=>by simp only [V5];exact X7 a fs _ _ (fun fs=>X7 b fs x y hx hy) (fun fs=>X7 b fs y x hy hx)
 | .var ..,fs,x,y,hx,hy=>M6 hx hy
 | .cmp ..,fs,x,y,hx,hy=>M6 hx hy
 | .eqS ..,fs,x,y,hx,hy=>M6 hx hy
 | .isI ..,fs,x,y,hx,hy=>M6 hx hy
 | .isB ..,fs,x,y,hx,hy=>M6 hx hy
 | .isT ..,fs,x,y,hx,hy=>M6 hx hy
 | .isR ..,fs,x,y,hx,hy=>M6 hx hy
 | .get ..,fs,x,y,hx,hy=>M6 hx hy
 | .leN ..,fs,x,y,hx,hy=>M6 hx hy
 | .eqN ..,fs,x,y,hx,hy=>M6 hx hy
 | .leaf ..,fs,x,y,hx,hy=>M6 hx hy
 | .u8s ..,fs,x,y,hx,hy=>M6 hx hy
 | .cells ..,fs,x,y,hx,hy=>M6 hx hy
 | .isF ..,fs,x,y,hx,hy=>M6 hx hy
 | .isP ..,fs,x,y,hx,hy=>M6 hx hy
 | .isNil ..,fs,x,y,hx,hy=>M6 hx hy
 | .rows ..,fs,x,y,hx,hy=>M6 hx hy
 | .uf ..,fs,x,y,hx,hy=>M6 hx hy
theorem fB {H:DHp} {fs:Facts} {o:EB×FamR} {k:Facts→EV→T} (h:∀ fs v,E2 H (k fs v)):E2 H (Uy fs o k):=by
 obtain ⟨c0,x⟩:=o;cases x with
 | val c v=>exact Bu c0 (Bu c (h _ _))
 | ptr n c v=>exact Bu c0 (X7 n fs _ _ (fun fs=>h _ _) (fun fs=>Bu c (h _ _)))
theorem Jl {H:DHp} {o:Option (EB×EV)} {k:EV→T} (h:∀ v,E2 H (k v)):E2 H (Rz o k):=by
 unfold Rz;split
 ·exact Bu _ (h _)
 ·trivial
def Sa:Outs→Prop
 | .one _ hs=>hs=[]
 | .chk _ x=>Sa x
 | .tst _ x y=>Sa x∧Sa y
 | .namI _ f=>∀ x,Sa (f x)
 | .namN _ f=>∀ x,Sa (f x)
 | .namB _ f=>∀ x,Sa (f x)
 | .namL _ f=>∀ x,Sa (f x)
theorem Bt {H:DHp} {k:Facts→EV→List DHop→T} (hk:∀ fs v,E2 H (k fs v [])):∀ (o:Outs) (fs:Facts),Sa o→E2 H (Z6 fs o k)
 | .one v hs,fs,ho=>by have:hs=[]:=ho;subst this;exact hk _ _
 | .chk b x,fs,ho=>Bu b (Bt hk x fs ho)
 | .tst b x y,fs,ho=>X7 b fs _ _ (fun fs=>Bt hk x fs ho.1) (fun fs=>Bt hk y fs ho.2)
 | .namI e f,fs,ho=>fun x=>Bt hk _ _ (ho _)
 | .namN e f,fs,ho=>fun x=>Bt hk _ _ (ho _)
 | .namB e f,fs,ho=>fun x=>Bt hk _ _ (ho _)
 | .namL e f,fs,ho=>fun x=>Bt hk _ _ (ho _)
theorem Ob {H:DHp}:∀ (t:T) (o:Outs),E8 true H t=some o→Sa o
 | .ret v H',o,h=>by simp [E8] at h;subst h;rfl
 | .chk b t,o,h=>by
  simp only [E8] at h;split at h
  ·rename_i o' h1;simp at h;subst h;exact Ob t o' h1
  ·simp at h
 | .tst b x y,o,h=>by
  simp only [E8] at h;split at h
  ·rename_i o1 o2 h1 h2;simp at h;subst h;exact ⟨Ob x o1 h1,Ob y o2 h2⟩
  ·simp at h
 | .fail,o,h=>by simp [E8] at h
 | .allI ..,o,h=>by simp [E8] at h
 | .allN ..,o,h=>by simp [E8] at h
 | .allB ..,o,h=>by simp [E8] at h
 | .allL ..,o,h=>by simp [E8] at h
 | .leaf ..,o,h=>by simp [E8] at h
 | .imp ..,o,h=>by simp [E8] at h
 | .namI ..,o,h=>by simp [E8] at h
 | .namN ..,o,h=>by simp [E8] at h
 | .namB ..,o,h=>by simp [E8] at h
 | .namL ..,o,h=>by simp [E8] at h
def Xx (K:DCfg):DWk→Bool
 | .code c=>K8 K 20 c
 | .ops _ l=>l.all (Y1 K (K8 K 20))
 | .dr _ l _=>l.all (Y1 K (K8 K 20))
theorem Wg {K:DCfg} {o:Oper} {F:DFr} {f:FuncId} {args:List EV} (hk:kdOf K.P o.op=.call) (hr:Y1 K (K8 K 20) o=true) (hc:Pb F o.op=some (f,args)) :
  K.inl f=true∧∀ fn c,K.P.funcs[f]?=some fn→fn.body=some c→K8 K 20 c=true:=by
 unfold Y1 at hr;rw [hk] at hr;simp only at hr;split at hr
 ·rename_i g args' ts hop;rw [hop] at hc;simp only [Pb,evD,Option.some.injEq,Prod.mk.injEq] at hc;obtain ⟨rfl,_⟩:=hc;obtain ⟨h1,h2⟩:=L0 hr;refine ⟨h1,fun fn c hf hb=>?_⟩;rw [hf] at h2;simp only [hb] at h2;exact h2
 ·simp at hr
theorem Zn {K:DCfg} {o:Oper} {F:DFr} {i:Nat} {args:List EV} (hk:kdOf K.P o.op=.call) (hr:Y1 K (K8 K 20) o=true) (hc:Ts F o.op=some (i,args)):False:=by
 unfold Y1 at hr;rw [hk] at hr;simp only at hr;split at hr
 ·rename_i g args' ts hop;rw [hop] at hc;simp [Ts,evD] at hc
 ·simp at hr
theorem dx_ro {K:DCfg}:∀ n m wk F H fs q,Xx K wk=true→(∀ e F fs,E2 H (q e F H fs))→E2 H (dx K n m wk F H fs q):=by
  intro n
  induction n with
  | zero => intro m wk F H fs q _ _; trivial
  | succ n ih=>
    intro m wk F H fs q hr hq
    have guard:∀ {all:List Oper} {g:Option (Nat×Bool)} {go skip:DFr→Facts→T},(∀ F fs,E2 H (go F fs))→(∀ F fs,E2 H (skip F fs))→E2 H (Jm fs all g F go skip):=by
      intro all g go skip h1 h2;unfold Jm;split
      · exact h1 _ _
      · split
        · split
          · refine X7 _ _ _ _ (fun fs=>?_) (fun fs=>?_)<;>split<;>first | exact h1 _ _ | exact h2 _ _
          · exact h2 _ _
          · trivial
        · trivial
    cases wk with
    | ops all l=>
      show E2 H (Gs K (dx K n) m all l F H fs q);cases l with
      | nil=>exact hq _ _ _
      | cons o l=>
        obtain ⟨dst,op,ty,pos,after,g⟩:=o;simp only [Xx,List.all_cons,Bool.and_eq_true] at hr;obtain ⟨ho,hl⟩:=hr;simp only [Gs];refine guard (fun F fs=>?_) (fun F fs=>ih _ _ _ _ _ _ hl hq);unfold Tz;split
        · exact Jl fun v=>ih _ (.ops all l) _ _ _ _ hl hq
        · split
          · exact fB fun fs v=>ih _ (.ops all l) _ _ _ _ hl hq
          · exact Jl fun v=>ih _ (.ops all l) _ _ _ _ hl hq
        · rename_i hk;simp [Y1,hk] at ho
        · rename_i hk;split
          · rename_i f args hc;obtain ⟨hi,hb⟩:=Wg hk ho hc;rw [hi];simp only;split
            · rename_i fn hf;split
              · rename_i c hbody;split
                · trivial
                · refine ih _ (.code c) _ _ _ _ (hb fn c hf hbody) fun e F fs=>?_;unfold Mf;split
                  · trivial
                  · exact Jl fun v=>ih _ _ _ _ _ _ hl hq
              · trivial
            · trivial
          · split
            · rename_i i args hy;exact (Zn hk ho hy).elim
            · trivial
    | dr all l trs=>
      show E2 H (Dh K (dx K n) m all l trs F H fs q);cases l with
      | nil=>
        simp only [Dh];split
        · exact hq _ _ _
        · trivial
      | cons o l=>
        obtain ⟨dst,op,ty,pos,after,g⟩:=o;simp only [Xx,List.all_cons,Bool.and_eq_true] at hr;obtain ⟨ho,hl⟩:=hr;simp only [Dh];refine guard (fun F fs=>?_) (fun F fs=>ih _ (.dr all l _) _ _ _ _ hl hq);unfold Lx;split
        · exact Jl fun v=>ih _ (.dr all l _) _ _ _ _ hl hq
        · split
          · exact fB fun fs v=>ih _ (.dr all l _) _ _ _ _ hl hq
          · exact Jl fun v=>ih _ (.dr all l _) _ _ _ _ hl hq
        · rename_i hk;simp [Y1,hk] at ho
        · rename_i hk;split
          · rename_i f args hc;obtain ⟨hi,hb⟩:=Wg hk ho hc;rw [hi];simp only;split
            · rename_i fn hf;split
              · rename_i c hbody;split
                · trivial
                · split
                  · rename_i o' ho';rw [hb fn c hf hbody] at ho';exact Bt (fun fs v=>ih _ (.dr all l _) _ _ _ _ hl hq) o' fs (Ob _ _ ho')
                  · trivial
              · trivial
            · trivial
          · split
            · rename_i i args hy;exact (Zn hk ho hy).elim
            · trivial
    | code c=>
      have sub:∀ {c':Code},M3 K (K8 K 19) c'=true→Xx K (.code c')=true:=fun h=>h;show E2 H (Z1 K (dx K n) m c F H fs q);have hr:M3 K (K8 K 19) c=true:=hr
      have opsOk:∀ {l:List Oper},l.all (Y1 K (K8 K 19))=true→l.all (Y1 K (K8 K 20))=true:=fun {l} h=>by
        have:=Wh (K:=K) (r1:=K8 K 19) (r2:=K8 K 20) (fun c=>Pg 19 c) (.region 0 l.toArray false) (by simpa [M3] using h)
        simpa [M3] using this
      cases c with
      | skip=>exact hq _ _ _
      | region id ops draw=>
        simp only [M3] at hr;cases draw with
        | true=>exact ih _ (.dr _ _ _) _ _ _ _ (opsOk hr) hq
        | false=>exact ih _ (.ops _ _) _ _ _ _ (opsOk hr) hq
      | seq a b=>
        simp only [M3,Bool.and_eq_true] at hr;refine ih _ (.code a) _ _ _ _ (sub hr.1) fun e F fs=>?_;unfold fY;split
        · exact ih _ (.code b) _ _ _ _ (sub hr.2) hq
        · exact hq _ _ _
      | cond x a b=>
        simp only [M3,Bool.and_eq_true] at hr;obtain ⟨ra,rb⟩:=hr;simp only [Z1,Ly];split
        · split
          · exact X7 _ _ _ _ (fun fs=>ih _ (.code a) _ _ _ _ (sub ra) hq) (fun fs=>ih _ (.code b) _ _ _ _ (sub rb) hq)
          · trivial
        · split
          · exact ih _ (.code a) _ _ _ _ (sub ra) hq
          · exact ih _ (.code b) _ _ _ _ (sub rb) hq
        · trivial
      | block id c=>
        refine ih _ (.code c) _ _ _ _ (sub hr) fun e F fs=>?_;unfold Tj;split
        · split
          · exact hq _ _ _
          · exact hq _ _ _
        · exact hq _ _ _
      | loop c=>simp [M3] at hr
      | exit i=>exact hq _ _ _
      | scope c=>exact ih _ (.code c) _ _ _ _ (sub hr) hq
      | label i=>exact hq _ _ _
      | ret=>exact hq _ _ _
      | _=>simp [M3] at hr
theorem Oc {C:A2} {f:FuncId} {args:List EV} {H:DHp} {ro:Bool}:∀ (t:T) (o:Outs),E8 ro H t=some o→(ro=true→E2 H t)→
  (∀ R:AV→Hp→Prop,vT C.G (fun _ _ _=>False) R t→ACalls C f (vVs C.G args) (B4 C.G H) R)→At C.G (F7 C f args H) o
 | .ret v H',o,h,hro,hc=>by
  simp only [E8] at h;split at h
  ·simp at h;subst h
   have:=hro rfl
   simp only [E2] at this;subst this;exact hc _ ⟨rfl,rfl⟩
  ·split at h
   ·rename_i hs hd;simp at h;subst h;have e:=Fd 0 [] _ _ _ rfl (Vf (G:=C.G) _ _ _ _ hd);simp only [List.nil_append] at e;exact hc _ ⟨rfl,e.symm⟩
   ·simp at h
 | .chk b t,o,h,hro,hc=>by
  simp only [E8] at h;split at h
  ·rename_i o' h1;simp at h;subst h;exact fun hb=>Oc t o' h1 hro fun R hR=>hc R ⟨hb,hR⟩
  ·simp at h
 | .tst b x y,o,h,hro,hc=>by
  simp only [E8] at h;split at h
  ·rename_i o1 o2 h1 h2;simp at h;subst h
   exact ⟨fun hb=>Oc x o1 h1 (fun hr=>(hro hr).1) fun R hR=>hc R ⟨fun _=>hR,fun hb'=>by rw [hb] at hb';simp at hb'⟩,
    fun hb=>Oc y o2 h2 (fun hr=>(hro hr).2) fun R hR=>hc R ⟨fun hb'=>by rw [hb] at hb';simp at hb',fun _=>hR⟩⟩
  ·simp at h
 | .fail,o,h,_,_=>by simp [E8] at h
 | .allI ..,o,h,_,_=>by simp [E8] at h
 | .allN ..,o,h,_,_=>by simp [E8] at h
 | .allB ..,o,h,_,_=>by simp [E8] at h
 | .allL ..,o,h,_,_=>by simp [E8] at h
 | .leaf ..,o,h,_,_=>by simp [E8] at h
 | .imp ..,o,h,_,_=>by simp [E8] at h
 | .namI ..,o,h,_,_=>by simp [E8] at h
 | .namN ..,o,h,_,_=>by simp [E8] at h
 | .namB ..,o,h,_,_=>by simp [E8] at h
 | .namL ..,o,h,_,_=>by simp [E8] at h
theorem fH {C:A2} {K:DCfg} {Q:Ex→List AV→Hp→Prop} {R:AV→Hp→Prop} (hG:C.G=C.G) {F:DFr} {H:DHp} {op:Op} {o:EB×FamR} {fs:Facts} {k:Facts→EV→T} (ho:bQ K.fam C.P F H op=some o) (h:vT C.G Q R (Uy fs o k)) :
  ∃ fs2 v,I8 C (vVs C.G F) (B4 C.G H) op=some (true,vV C.G v)∧vT C.G Q R (k fs2 v):=by
 obtain ⟨c0,x⟩:=o;cases x with
 | val c v=>
  simp only [Uy] at h;obtain ⟨h0,h⟩:=S1 c0 h;obtain ⟨h1,h⟩:=S1 c h;exact ⟨fs,v,lJ hG ho h0 h1,h⟩
 | ptr n c v=>
  simp only [Uy] at h;obtain ⟨h0,h⟩:=S1 c0 h;have hw:=lJ hG ho h0;rcases U1 n fs _ _ h with ⟨h1,fs1,_,h2⟩ | ⟨h1,fs1,_,h2⟩
  ·exact ⟨fs1,.nilp,by rw [hw.1 h1];simp only [vV],h2⟩
  ·obtain ⟨h3,h4⟩:=S1 c h2;exact ⟨fs1,v,hw.2 h3,h4⟩
theorem qM {F:DFr} {op:Op}:Gu (vVs G F) op=(Nv F op).map (vR G):=by
 unfold Gu Nv;cases op<;>simp only [Option.map_none]
 ·simp only [←vV_evD];generalize evD F _=x;cases x<;>simp only [vV,Option.map_some,Option.map_none]
 ·simp only [←vV_evD];generalize evD F _=x;cases x<;>simp only [vV,Option.map_some,Option.map_none]
theorem G7 {P P':Ex→DFr→DHp→Prop} (hp:∀ e F H,P e F H→P' e F H):∀ (o:LOut) (n:Nat),H5 G P n o→H5 G P' n o
 | .one e F H,n,h=>hp _ _ _ h
 | .chk b x,n,h=>⟨h.1,G7 hp x n h.2⟩
 | .tst b x y,n,h=>⟨fun hb=>G7 hp x n (h.1 hb),fun hb=>G7 hp y n (h.2 hb)⟩
 | .imp b x,n,h=>fun hb=>G7 hp x n (h hb)
 | .allI f,n,h=>fun x=>G7 hp (f (.var n x)) (n+1) (h x)
 | .allN f,n,h=>fun x=>G7 hp (f (.var n x)) (n+1) (h x)
 | .allB f,n,h=>fun x=>G7 hp (f (.var n x)) (n+1) (h x)
 | .allL f,n,h=>fun x=>G7 hp (f (.var n x)) (n+1) (h x)
 | .namI e f,n,h=>G7 hp (f (.var n _)) (n+1) h
 | .namN e f,n,h=>G7 hp (f (.var n _)) (n+1) h
 | .namB e f,n,h=>G7 hp (f (.var n _)) (n+1) h
 | .namL e f,n,h=>G7 hp (f (.var n _)) (n+1) h
def LpD (K:DCfg) (lps:List Code) (wk:DWk):Prop:=
 match wk with
 | .code c=>∀ b∈A8 c,b∈lps
 | _=>True
theorem bB {Q:Ex→List AV→Hp→Prop} {R:AV→Hp→Prop} {fs:Facts} {all:List Oper} {g:Option (Nat×Bool)} {F:DFr} {go skip:DFr→Facts→T} (h:vT G Q R (Jm fs all g F go skip)) :
  ∃ F' fs',vVs G F'=vVs G F∧F'.length=F.length∧((wantA all g (vVs G F)=some true∧vT G Q R (go F' fs'))∨(wantA all g (vVs G F)=some false∧vT G Q R (skip F' fs'))):=by
 unfold Jm at h;unfold wantA;split at h
 ·exact ⟨F,fs,rfl,rfl,.inl ⟨rfl,h⟩⟩
 ·rename_i j want;simp only;split at h
  ·rename_i t ht;simp only [ht,Y6];rw [Dv] at h;split at h
   ·rename_i b hb
    have hv:∀ x:Bool,vB G b=x→vVs G (I7 F (some t) (.bool (.lit x)))=vVs G F:=fun x hx=>by
     rw [W9];simp only [put,vV,vB];refine T2 ?_ (by simp);rw [Y6,hb];simp only [vV,hx]
    rw [hb];simp only [vV];rcases U1 b fs _ _ h with ⟨h1,fs1,_,h2⟩ | ⟨h1,fs1,_,h2⟩
    ·refine ⟨I7 F (some t) (.bool (.lit true)),fs1,hv _ h1,by simp [I7,Ka],?_⟩;rw [h1];cases want
     ·exact .inr ⟨rfl,h2⟩
     ·exact .inl ⟨rfl,h2⟩
    ·refine ⟨I7 F (some t) (.bool (.lit false)),fs1,hv _ h1,by simp [I7,Ka],?_⟩;rw [h1];cases want
     ·exact .inl ⟨rfl,h2⟩
     ·exact .inr ⟨rfl,h2⟩
   ·rename_i hb;rw [hb];simp only [vV,vVs];exact ⟨F,fs,rfl,rfl,.inr ⟨trivial,h⟩⟩
   ·exact h.elim
  ·exact h.elim
theorem Qt {C:A2} {K:DCfg} {lps:List Code} (hK:O6 C K lps):∀ n m wk F H fs q (Q:Post) (QQ:Ex→List AV→Hp→Prop) (RR:AV→Hp→Prop),
    (∀ e F H fs,vT C.G QQ RR (q e F H fs)→Q e (vVs C.G F) (B4 C.G H))→LpD K lps wk→vT C.G QQ RR (dx K n m wk F H fs q)→Snd (K0 C) m (vWk C.G wk) (vVs C.G F) (B4 C.G H) Q:=by
  have hG:C.G=C.G:=rfl;have hP:=hK.hP;intro n
  induction n with
  | zero => intro m wk F H fs q Q QQ RR _ _ h; exact h.elim
  | succ n ih=>
    intro m wk F H fs q Q QQ RR hq hlp h;have g0:=Ut (C:=C) hK.mix lps;cases wk with
    | ops all l=>
      change vT C.G QQ RR (Gs K (dx K n) m all l F H fs q) at h;cases l with
      | nil=>exact fun r ρ a w hm hH hF=>⟨.normal,ρ,_,_,rfl,hq _ _ _ _ h,P4.refl m ρ,hH,hF,Frm.refl ρ w⟩
      | cons o l=>
        obtain ⟨dst,op,ty,pos,after,guard⟩:=o;simp only [Gs] at h;obtain ⟨F',fs',hFe,_,h⟩:=bB h;rw [← hFe];rw [← hFe] at h;rcases h with ⟨hw,h⟩ | ⟨hw,h⟩
        · unfold Tz at h;rw [hP] at h;split at h
          · rename_i hk;obtain ⟨c,v,h1,h2,h3⟩:=Gp h
            have:=ih m (.ops all l) _ _ _ _ _ _ _ hq trivial h3
            rw [W9] at this;exact L8 (lps:=lps) g0 (.pure hw hk (eJ _ _ h1 h2)) this
          · rename_i hk;split at h
            · rename_i o ho;obtain ⟨fs2,v,h1,h3⟩:=fH hG (o:=o) ho h
              have:=ih m (.ops all l) _ _ _ _ _ _ _ hq trivial h3
              rw [W9] at this;exact L8 (lps:=lps) g0 (.read hw hk h1) this
            · obtain ⟨c,v,h1,h2,h3⟩:=Gp h
              have:=ih m (.ops all l) _ _ _ _ _ _ _ hq trivial h3
              rw [W9] at this;exact L8 (lps:=lps) g0 (.read hw hk (eE hG _ _ h1 h2)) this
          · rename_i hk;split at h
            · rename_i c v x hx;obtain ⟨h2,h3⟩:=S1 c h
              have:=ih m (.ops all l) _ _ _ _ _ _ _ hq trivial h3
              rw [W9,Pn] at this;exact L8 (lps:=lps) g0 (.write hw hk (Yn hG _ _ _ hx h2)) this
            · split at h
              · rename_i c hs hx;obtain ⟨h2,h3⟩:=S1 c h;obtain ⟨hp,e1,e2⟩:=iX hG hx h2
                have:=ih m (.ops all l) _ _ _ _ _ _ _ hq trivial h3
                rw [W9,Bn,←e2] at this;simp only [vV,vVs] at this;exact L8 (lps:=lps) g0 (.write hw hk e1) this
              · exact h.elim
          · rename_i hk;split at h
            · rename_i f args hc;have hc:=fO (G:=C.G) hc;split at h
              · rename_i hi;split at h
                · rename_i fn hfn;split at h
                  · rename_i c hb;split at h
                    · exact h.elim
                    · rename_i hnm
                      have hbody:∀ (r:Option Nat),Z8 r c=true→∀ (ρ:Env) (a:Act) (w:World),(B4 C.G H).length≤(B4 C.G H).length→A6 C ρ (B4 C.G H) w→D6 ρ (R4 fn (vVs C.G args)) a→
                          c.wpIn (W r) 0 C.P (AP C (B4 C.G H).length ρ w (N6 C fn fun v' H'=>∃ v H1 fs,v'=vV C.G v∧H'=B4 C.G H1∧vT C.G QQ RR (dx K n m (.ops all l) (I7 F' dst v) H1 fs q))) a w:=by
                        have:=ih H.length (.code c) (Fa fn args) H fs' _ (N6 C fn fun v' H'=>∃ v H1 fs,v'=vV C.G v∧H'=B4 C.G H1∧vT C.G QQ RR (dx K n m (.ops all l) (I7 F' dst v) H1 fs q)) QQ RR (fun e F1 H1 fs1 ht=>by
                          unfold Mf at ht;split at ht
                          · exact ht.elim
                          · rename_i hne;obtain ⟨cc,v,q1,q2,q3⟩:=Gp ht;have e1:=Zp hG _ _ q1 q2;cases e with
                            | exit i=>exact absurd rfl (hne i)
                            | normal=>simp only [N6];rw [e1];exact ⟨v,H1,fs1,rfl,rfl,q3⟩
                            | ret=>simp only [N6];rw [e1];exact ⟨v,H1,fs1,rfl,rfl,q3⟩) (fun b hb'=>hK.inl f fn c hi hfn hb b hb') h
                        rw [Qp] at this;rw [← D7 (G := C.G) H] at this;exact this
                      have hcall:=acalls_of (f:=f) (C:=C) (fn:=fn) (K:=fun v' H'=>∃ v H1 fs,v'=vV C.G v∧H'=B4 C.G H1∧vT C.G QQ RR (dx K n m (.ops all l) (I7 F' dst v) H1 fs q)) hfn hb hnm (fun r hr ρ a w hH hF=>hbody r hr ρ a w (Nat.le_refl _) hH hF);intro r ρ a w hm hH hF;unfold wpListIn;rw [Q4 hF hw,if_pos rfl];obtain ⟨cargs,hv,h1⟩:=It (w:=w) (o:=⟨dst,op,ty,pos,after,guard⟩) hF hc hcall.1;refine Be (Uk hc) ?_;have h1:(execOp a.eval ⟨dst,op,ty,pos,after,guard⟩).run (K0 C).C.P w=.ok (.enter f cargs.toArray) w:=h1;rw [h1]
                      refine ⟨fun h=>by simp [W,Fence.wide] at h,If.2 ((hcall.2 ρ w cargs hH hv).mono ?_)⟩;rintro e w' ⟨v',cv,ρ',H',rfl,⟨v,H1,fs1,rfl,rfl,g1⟩,g2,g3,g4,g5⟩;have hp:=P4.of_le hH g2 hm
                      have:=ih m (.ops all l) _ _ _ _ _ _ _ hq trivial g1
                      rw [W9] at this;exact M8 (fun e a w h=>AP.link hp g5 h) l _ _ (this r ρ' _ w' (X6 hm hH g3 hp) g3 ((hF.mono g2).put _ _ _ g4))
                  · exact h.elim
                · exact h.elim
              · split at h
                · rename_i o ho;obtain ⟨fs1,v,hs,h1,h2⟩:=U2 o fs' h (hK.calls _ _ _ _ ho)
                  have:=ih m (.ops all l) _ _ _ _ _ _ _ hq trivial h2
                  rw [W9,Bn] at this;exact L8 (lps:=lps) g0 (.call hw hk hc h1) this
                · exact h.elim
            · split at h
              · rename_i i args hy;have hy:=iV (G:=C.G) hy;split at h
                · rename_i o ho;obtain ⟨fs1,v,hs,h1,h2⟩:=U2 o fs' h (hK.ylds _ _ _ _ ho)
                  have:=ih m (.ops all l) _ _ _ _ _ _ _ hq trivial h2
                  rw [W9,Bn] at this;intro r ρ a w hm hH hF;unfold wpListIn;rw [Q4 hF hw,if_pos rfl];refine h1 ρ _ w a ⟨dst,op,ty,pos,after,guard⟩ r _ _ hH hF hy ?_;rintro v' H' ρ' cv w' ⟨rfl,rfl⟩ g3 g4 g2 g5;have hp:=P4.of_le hH g2 hm;exact M8 (fun e a w h=>AP.link hp g5 h) l _ _ (this r ρ' _ w' (X6 hm hH g3 hp) g3 ((hF.mono g2).put _ _ _ g4))
                · exact h.elim
              · exact h.elim
        · have:=ih m (.ops all l) _ _ _ _ _ _ _ hq trivial h
          rw [W9] at this;simp only [vV,vVs] at this;exact L8 (lps:=lps) g0 (.skip hw) this
    | dr all l trs=>
      change vT C.G QQ RR (Dh K (dx K n) m all l trs F H fs q) at h;cases l with
      | nil=>
        simp only [Dh] at h;split at h
        · rename_i hd;exact ⟨[],_,_,.nil _ _,by have:=lL (G:=C.G) all trs hd;simpa using this,hq _ _ _ _ h⟩
        · exact h.elim
      | cons o l=>
        obtain ⟨dst,op,ty,pos,after,guard⟩:=o;simp only [Dh] at h;obtain ⟨F',fs',hFe,_,h⟩:=bB h;rw [← hFe];rw [← hFe] at h
        have go:∀ {tr:To} {v:EV} {H':DHp} {fs1:Facts},St (K0 C) all ⟨dst,op,ty,pos,after,guard⟩ (vVs C.G F') (B4 C.G H) (Vt C.G tr) (vV C.G v) (B4 C.G H')→
            vT C.G QQ RR (dx K n m (.dr all l (trs++[tr])) (I7 F' dst v) H' fs1 q)→Snd (K0 C) m (vWk C.G (.dr all (⟨dst,op,ty,pos,after,guard⟩::l) trs)) (vVs C.G F') (B4 C.G H) Q:=by
          intro tr v H' fs1 hst hrec
          have:=ih m (.dr all l (trs++[tr])) _ _ _ _ _ _ _ hq trivial hrec
          rw [W9] at this;obtain ⟨trs',F1,H1,g1,g2,g3⟩:=this;exact ⟨Vt C.G tr::trs',F1,H1,.cons hst g1,by simpa using g2,g3⟩
        rcases h with ⟨hw,h⟩ | ⟨hw,h⟩
        · unfold Lx at h;rw [hP] at h;split at h
          · rename_i hk;obtain ⟨c,v,h1,h2,h3⟩:=Gp h;refine go (tr:=⟨.still,H.length,[]⟩) ?_ h3
            have:=St.pure (K:=K0 C) (all:=all) (o:=⟨dst,op,ty,pos,after,guard⟩) (H:=B4 C.G H) hw hk (eJ _ _ h1 h2)
            rw [D7] at this;exact this
          · rename_i hk
            obtain ⟨fs2,v,h1,h3⟩:∃ fs2 v,I8 C (vVs C.G F') (B4 C.G H) op=some (true,vV C.G v)∧vT C.G QQ RR (dx K n m (.dr all l (trs++[⟨(match Nv F' op with | some r=>.read r | none=>.still),H.length,[]⟩])) (I7 F' dst v) H fs2 q):=by
              split at h
              · rename_i o ho;exact fH hG (o:=o) ho h
              · obtain ⟨c,v,h1,h2,h3⟩:=Gp h;exact ⟨_,v,eE hG _ _ h1 h2,h3⟩
            refine go ?_ h3
            have:=St.read (K:=K0 C) (all:=all) (o:=⟨dst,op,ty,pos,after,guard⟩) (H:=B4 C.G H) hw hk h1
            rw [D7] at this;refine cast (congrArg (fun tr=>St (K0 C) all ⟨dst,op,ty,pos,after,guard⟩ (vVs C.G F') (B4 C.G H) tr (vV C.G v) (B4 C.G H)) ?_) this;simp only [Vt,List.map_nil];congr 1;rw [qM];cases Nv F' op<;>simp only [Option.map_some,Option.map_none,mH]
          · rename_i hk;split at h
            · rename_i c v x hx;obtain ⟨h2,h3⟩:=S1 c h;refine go ?_ h3
              have:=St.write (K:=K0 C) (all:=all) (o:=⟨dst,op,ty,pos,after,guard⟩) hw hk (Yn hG _ _ _ hx h2)
              rw [D7,←Pn] at this;exact this
            · exact h.elim
          · rename_i hk;split at h
            · rename_i f args hc;have hc:=fO (G:=C.G) hc
              have fin:∀ {o:Outs} {fs1:Facts},At C.G (F7 C f args H) o→vT C.G QQ RR (Z6 fs1 o fun fs v hs=>dx K n m (.dr all l (trs++[⟨.write,H.length,hs⟩])) (I7 F' dst v) (Em H hs) fs q)→
                  Snd (K0 C) m (vWk C.G (.dr all (⟨dst,op,ty,pos,after,guard⟩::l) trs)) (vVs C.G F') (B4 C.G H) Q:=by
                intro o fs1 ho ht;obtain ⟨fs2,v,hs,h1,h2⟩:=U2 o fs1 ht ho;refine go ?_ h2
                have:=St.call (K:=K0 C) (all:=all) (o:=⟨dst,op,ty,pos,after,guard⟩) hw hk hc h1
                rw [D7,←Bn] at this;exact this
              split at h
              · rename_i hi;split at h
                · rename_i fn hfn;split at h
                  · rename_i c hb;split at h
                    · exact h.elim
                    · rename_i hnm;split at h
                      · rename_i o ho;refine fin (Oc _ _ ho (fun hr=>?_) fun R hR=>?_) h
                        · refine dx_ro n _ (.code c) _ _ _ _ hr fun e F fs=>?_;unfold Mf;split
                          · trivial
                          · exact Jl fun v=>rfl
                        · refine acalls_of (f:=f) (C:=C) (fn:=fn) hfn hb hnm fun r hr ρ a w hH hF=>?_
                          have:=ih H.length (.code c) (Fa fn args) H fs' _ (N6 C fn R) (fun _ _ _=>False) R (fun e F1 H1 fs1 ht=>by
                            unfold Mf at ht;split at ht
                            · exact ht.elim
                            · rename_i hne;obtain ⟨cc,v,q1,q2,q3⟩:=Gp ht;have e1:=Zp hG _ _ q1 q2;cases e with
                              | exit i=>exact absurd rfl (hne i)
                              | normal=>simp only [N6];rw [e1];exact q3
                              | ret=>simp only [N6];rw [e1];exact q3) (fun b hb'=>hK.inl f fn c hi hfn hb b hb') hR
                          rw [Qp,←D7 (G:=C.G) H] at this;exact this r hr ρ a w (Nat.le_refl _) hH hF
                      · exact h.elim
                  · exact h.elim
                · exact h.elim
              · split at h
                · rename_i o ho;exact fin (hK.calls _ _ _ _ ho) h
                · exact h.elim
            · split at h
              · rename_i i args hy;have hy:=iV (G:=C.G) hy;split at h
                · rename_i o ho;obtain ⟨fs2,v,hs,h1,h2⟩:=U2 o fs' h (hK.ylds _ _ _ _ ho);refine go ?_ h2
                  have:=St.yld (K:=K0 C) (all:=all) (o:=⟨dst,op,ty,pos,after,guard⟩) hw hy h1
                  rw [D7,←Bn] at this;exact this
                · exact h.elim
              · exact h.elim
        · refine go (tr:=⟨.still,H.length,[]⟩) (v:=.tup []) ?_ h
          have:=St.skip (K:=K0 C) (all:=all) (o:=⟨dst,op,ty,pos,after,guard⟩) (H:=B4 C.G H) hw
          rw [D7] at this;simp only [vV,vVs];exact this
    | code c=>
      change vT C.G QQ RR (Z1 K (dx K n) m c F H fs q) at h;intro r hr ρ a w hm hH hF;have here:∀ ae,Q ae (vVs C.G F) (B4 C.G H)→AP C m ρ w Q (Rh ae) a w:=fun ae hq=>⟨ae,ρ,_,_,rfl,hq,P4.refl m ρ,hH,hF,Frm.refl ρ w⟩;cases c with
      | skip=>exact wpIn_skip (here .normal (hq _ _ _ _ h))
      | region id ops draw=>
        cases draw with
        | true=>
          obtain ⟨trs',F',H',g1,g2,g3⟩:=ih m (.dr ops.toList ops.toList []) F H fs q Q QQ RR hq trivial h
          have:=Tc (id:=id) (r:=r) (Q:=AP C m ρ w Q) (lps:=lps) g0 g1 (by simpa using g2) hH hF fun ρ' a' w' q1 q2 q3 q4=>⟨.normal,ρ',F',H',rfl,g3,P4.of_le hH q3 hm,q1,q2,q4⟩
          rwa [Array.toArray_toList] at this
        | false=>
          have:=ih m (.ops ops.toList ops.toList) F H fs q Q QQ RR hq trivial h r ρ a w hm hH hF
          rw [Array.toArray_toList] at this;exact wpIn_region_list this
      | seq x y=>
        have hx:LpD K lps (.code x):=fun b hb=>hlp b (List.mem_append.2 (.inl hb));have hy:LpD K lps (.code y):=fun b hb=>hlp b (List.mem_append.2 (.inr hb))
        have key:=ih m (.code x) F H fs (fY (dx K n) m y q) (fun e F1 H1=>match e with
          | .normal=>∀ ρ' a' w',m≤H1.length→A6 C ρ' H1 w'→D6 ρ' F1 a'→y.wpIn (W r) 0 C.P (AP C m ρ' w' Q) a' w'
          | e=>Q e F1 H1) QQ RR (fun e F1 H1 fs1 ht=>by
            cases e with
            | normal=>exact fun ρ' a' w' q1 q2 q3=>ih m (.code y) F1 H1 fs1 q Q QQ RR hq hy ht r (Gf hr).2 ρ' a' w' q1 q2 q3
            | exit i=>exact hq _ _ _ _ ht
            | ret=>exact hq _ _ _ _ ht) hx h r (Gf hr).1 ρ a w hm hH hF
        refine wpIn_seq (Code.wpIn_mono ?_ key);rintro e a' w' ⟨ae,ρ',F',H',rfl,h2,h3,h4,h5,h6⟩;cases ae with
        | normal=>exact Code.wpIn_mono (fun e a w h=>AP.link h3 h6 h) (h2 ρ' a' w' (X6 hm hH h4 h3) h4 h5)
        | exit i=>exact ⟨.exit i,ρ',F',H',rfl,h2,h3,h4,h5,h6⟩
        | ret=>exact ⟨.ret,ρ',F',H',rfl,h2,h3,h4,h5,h6⟩
      | cond c x y=>
        have hx:LpD K lps (.code x):=fun b hb=>hlp b (List.mem_append.2 (.inl hb));have hy:LpD K lps (.code y):=fun b hb=>hlp b (List.mem_append.2 (.inr hb));simp only [Z1,Ly] at h;split at h
        · rename_i t;rw [Dv] at h;split at h
          · rename_i b hb;have hv:=hF.at t;rw [Y6,hb] at hv;simp only [vV,VR] at hv
            have hs:∀ x:Bool,vB C.G b=x→vVs C.G (I7 F (some t) (.bool (.lit x)))=vVs C.G F:=fun x hx=>by
              rw [W9];simp only [put,vV,vB];refine T2 ?_ (by simp);rw [Y6,hb];simp only [vV,hx]
            rcases U1 b fs _ _ h with ⟨h1,fs1,_,h2⟩ | ⟨h1,fs1,_,h2⟩
            · rw [h1] at hv
              have:=ih m (.code x) _ H fs1 q Q QQ RR hq hx h2 r (Z7 hr).1 ρ a w hm hH
              rw [hs _ h1] at this;exact wpIn_cond_true hv (this hF)
            · rw [h1] at hv
              have:=ih m (.code y) _ H fs1 q Q QQ RR hq hy h2 r (Z7 hr).2 ρ a w hm hH
              rw [hs _ h1] at this;exact wpIn_cond_false hv (this hF)
          · exact h.elim
        · rename_i b;cases b with
          | true=>exact wpIn_cond_true rfl (ih m (.code x) F H fs q Q QQ RR hq hx h r (Z7 hr).1 ρ a w hm hH hF)
          | false=>exact wpIn_cond_false rfl (ih m (.code y) F H fs q Q QQ RR hq hy h r (Z7 hr).2 ρ a w hm hH hF)
        · exact h.elim
      | block id c=>
        have key:=ih m (.code c) F H fs (Tj id q) (Ad id Q) QQ RR (fun e F1 H1 fs1 ht=>by
          cases e with
          | normal=>exact hq _ _ _ _ ht
          | ret=>exact hq _ _ _ _ ht
          | exit i=>
            simp only [Tj] at ht;simp only [Ad];cases hb:(i==id) with
            | true=>rw [hb] at ht;exact hq _ _ _ _ ht
            | false=>rw [hb] at ht;exact hq _ _ _ _ ht) (fun b hb=>hlp b hb) h r (Mm hr) ρ a w hm hH hF
        refine wpIn_block (Code.wpIn_mono ?_ key);rintro e a' w' ⟨ae,ρ',F',H',rfl,h2,h3⟩;cases ae with
        | normal=>exact ⟨.normal,ρ',F',H',rfl,h2,h3⟩
        | ret=>exact ⟨.ret,ρ',F',H',rfl,h2,h3⟩
        | exit i=>
          simp only [Ad] at h2;show (if i=id then AP C m ρ w Q .normal a' w' else AP C m ρ w Q (.exit i) a' w');split at h2
          · rename_i hi;rw [if_pos (by simpa using hi)];exact ⟨.normal,ρ',F',H',rfl,h2,h3⟩
          · rename_i hi;rw [if_neg (by simpa using hi)];exact ⟨.exit i,ρ',F',H',rfl,h2,h3⟩
      | loop c=>
        simp only [Z1] at h;split at h
        · rename_i hm';split at h
          · rename_i o ho;have hmem:c∈lps:=hlp c (List.mem_cons_self ..);exact hK.loops m c F H o (Nat.le_of_ble_eq_true hm') hmem ho fs.n Q (G7 (fun e F' H' ⟨fs',ht⟩=>hq _ _ _ _ ht) o fs.n (L3 o fs h)) r hr ρ a w hH hF
          · exact h.elim
        · exact h.elim
      | rangeFunc g ps as bd=>
        simp only [Z1] at h;split at h
        · rename_i hm';split at h
          · rename_i o ho;have hmem:Code.rangeFunc g ps as bd∈lps:=hlp _ (List.mem_cons_self ..);exact hK.rngs m _ F H o (Nat.le_of_ble_eq_true hm') hmem ho fs.n Q (G7 (fun e F' H' ⟨fs',ht⟩=>hq _ _ _ _ ht) o fs.n (L3 o fs h)) r hr ρ a w hH hF
          · exact h.elim
        · exact h.elim
      | exit i=>exact wpIn_exit (here (.exit i) (hq _ _ _ _ h))
      | scope c=>
        refine Cx (Code.wpIn_mono ?_ (ih m (.code c) F H fs q Q QQ RR hq (fun b hb=>hlp b hb) h r (Ws hr) ρ a w hm hH hF));rintro e a' w' h;obtain ⟨ae,ρ',F',H',rfl,h2⟩:=h;cases ae with
        | normal=>exact ⟨.normal,ρ',F',H',rfl,h2⟩
        | ret=>exact ⟨.ret,ρ',F',H',rfl,h2⟩
        | exit i=>exact ⟨.exit i,ρ',F',H',rfl,h2⟩
      | label i=>exact wpIn_label (here .normal (hq _ _ _ _ h))
      | ret=>exact wpIn_ret (here .ret (hq _ _ _ _ h))
      | _=>exact h.elim
end Go.Am
namespace Go.Am
variable {C:A2}
def f0 (n:Nat):Facts:=⟨n,[]⟩
noncomputable def J7 (K:DCfg) (fuel n0:Nat) (fn:Func) (args:List EV) (H:DHp) (keep:Nat):T:=
 dx K fuel H.length (.code (B8 fn)) (Fa fn args) H (f0 n0) (Mf K.P fn fun v H' _=>.ret v (H'.take keep))
def rdD (live:List Nat) (F:DFr):List EV:=live.map fun i=>F.getD i .undef
def Wz (N:Nat) (live:List Nat) (vs:List EV):DFr:=(List.range N).map fun i=>(((live.zip vs).find? fun p=>Nat.beq p.1 i).map (·.2)).getD .undef
def hZ (N:Nat) (live:List Nat):DK:=fun e F H _=>match Nat.beq F.length N with
 | true=>.leaf e (rdD live F) H
 | false=>.fail
noncomputable def F8 (K:DCfg) (fuel n0 m:Nat) (c:Code) (N:Nat) (live:List Nat) (vs:List EV) (H:DHp):T:=
 dx K fuel m (.code c) (Wz N live vs) H (f0 n0) (hZ N live)
theorem Yr {G:Nat→List AV} (N:Nat) (live:List Nat) (vs:List EV):vVs G (Wz N live vs)=fl N live (vVs G vs):=by
 unfold Wz fl fr;rw [L6,List.map_map];refine List.map_congr_left fun i _=>?_;simp only [Function.comp]
 induction live generalizing vs with
 | nil=>simp [vV]
 | cons x live ih=>
  cases vs with
  | nil=>simp [vV,vVs]
  | cons v vs=>
   simp only [vVs,List.zip_cons_cons,List.find?_cons];split
   ·rename_i h;simp only [Option.map_some,Option.getD_some]
   ·rename_i h;exact ih vs
theorem Yq {G:Nat→List AV} (live:List Nat) (F:DFr):vVs G (rdD live F)=Fm live (vVs G F):=by
 unfold rdD Fm;rw [L6,List.map_map];refine List.map_congr_left fun i _=>?_;simp only [Function.comp,Y6]
theorem C9 {K : DCfg} {fuel n0 : Nat} {f : FuncId} {fn : Func} {args : List EV} {H : DHp} {keep : Nat} {R : AV → Hp → Prop} (hK : O6 C K (A8 (B8 fn))) (hf : C.P.funcs[f]? = some fn) (hb : fn.body = some (B8 fn)) (hn : (fn.name == "runtime.NumGoroutine") = false)
  (h:vT C.G (fun _ _ _=>False) R (J7 K fuel n0 fn args H keep)):ACalls C f (vVs C.G args) (B4 C.G H) fun v H'=>R v (H'.take keep):=by
 refine acalls_of hf hb hn fun r hr ρ a w hH hF=>?_
 have:=Qt hK fuel H.length (.code (B8 fn)) (Fa fn args) H (f0 n0) _ (N6 C fn fun v H'=>R v (H'.take keep)) (fun _ _ _=>False) R (fun e F1 H1 fs1 ht=>by
  unfold Mf at ht;split at ht
  ·exact ht.elim
  ·rename_i hne;obtain ⟨cc,v,q1,q2,q3⟩:=Gp ht;rw [hK.hP] at q1;have e1:=Zp rfl _ _ q1 q2;have e2:B4 C.G (H1.take keep)=(B4 C.G H1).take keep:=by simp only [B4,List.map_take]
   simp only [vT,e2] at q3;cases e with
   | exit i=>exact absurd rfl (hne i)
   | normal=>simp only [N6];rw [e1];exact q3
   | ret=>simp only [N6];rw [e1];exact q3) (fun b hb=>hb) h
 simp only [vWk,Qp] at this
 have:=this r hr ρ a w (by simp [D7]) hH hF
 rw [←D7 (G:=C.G) H] at this;exact this
theorem D3 {K:DCfg} {fuel n0 m:Nat} {c:Code} {N:Nat} {live:List Nat} {vs:List EV} {H:DHp} {Q:Ex→List AV→Hp→Prop} (hK:O6 C K (A8 c)) (hm:m≤H.length)
  (h:vT C.G Q (fun _ _=>False) (F8 K fuel n0 m c N live vs H)):AWp C m c (fl N live (vVs C.G vs)) (B4 C.G H) (lv N live Q):=by
 have:=Qt hK fuel m (.code c) (Wz N live vs) H (f0 n0) _ (lv N live Q) Q (fun _ _=>False) (fun e F1 H1 fs1 ht=>by
  unfold hZ at ht;split at ht
  ·rename_i hb;simp only [vT,Yq] at ht;simp only [lv,S4,hb];exact ht
  ·exact ht.elim) (fun b hb=>hb) h
 rw [Yr] at this;exact fun r hr ρ a w hH hF=>this r hr ρ a w (by simpa [D7] using hm) hH hF
abbrev DSum:=List EV→DHp→Option Outs
def Tb:List (Nat×DSum)→FuncId→List EV→DHp→Option Outs
 | [],_,_,_=>none
 | (g,s)::l,f,args,H=>match Nat.beq g f with
  | true=>s args H
  | false=>Tb l f args H
def G5 (C:A2) (f:FuncId) (s:DSum):Prop:=∀ args H o,s args H=some o→At C.G (F7 C f args H) o
def U9 (C:A2) (l:List (Nat×DSum)):Prop:=∀ f args H o,Tb l f args H=some o→At C.G (F7 C f args H) o
theorem U9.nil:U9 C []:=fun f args H o h=>by simp [Tb] at h
theorem U9.cons {g:Nat} {s:DSum} {l:List (Nat×DSum)} (h:G5 C g s) (k:U9 C l):U9 C ((g,s)::l):=by
 intro f args H o ho;simp only [Tb] at ho;split at ho
 ·rename_i hg
  have:=Nat.eq_of_beq_eq_true hg
  subst this;exact h args H o ho
 ·exact k f args H o ho
theorem F7.of {f:FuncId} {s:Sum1} (hs:qC C f s) {args:List EV} {H:DHp} {v:EV} {hs':List DHop} (h:s (vVs C.G args) (B4 C.G H)=some (true,vV C.G v,hs'.map (I3 C.G))):F7 C f args H v hs':=
 hs _ _ _ _ h
abbrev DLoop:=List EV→DHp→Option LOut
def Bh (N:Nat) (live:List Nat):LOut→LOut
 | .one e vs H=>.one e (Wz N live vs) H
 | .chk b x=>.chk b (Bh N live x)
 | .tst b x y=>.tst b (Bh N live x) (Bh N live y)
 | .imp b x=>.imp b (Bh N live x)
 | .allI k=>.allI fun x=>Bh N live (k x)
 | .allN k=>.allN fun x=>Bh N live (k x)
 | .allB k=>.allB fun x=>Bh N live (k x)
 | .allL k=>.allL fun x=>Bh N live (k x)
 | .namI e k=>.namI e fun x=>Bh N live (k x)
 | .namN e k=>.namN e fun x=>Bh N live (k x)
 | .namB e k=>.namB e fun x=>Bh N live (k x)
 | .namL e k=>.namL e fun x=>Bh N live (k x)
structure DL where
 ex:Nat
 N:Nat
 live:List Nat
 S:DLoop
def Ac:List DL→Code→DFr→DHp→Option LOut
 | [],_,_,_=>none
 | d::l,c,F,H=>match Iq c with
  | some i=>match Nat.beq i d.ex with
   | true=>match Nat.beq F.length d.N with
    | true=>match d.S (rdD d.live F) H with
     | some o=>some (Bh d.N d.live o)
     | none=>none
    | false=>none
   | false=>Ac l c F H
  | none=>none
theorem J4 {G:Nat→List AV} {Q:Ex→DFr→DHp→Prop} {N:Nat} {live:List Nat}:∀ (o:LOut) (n:Nat),H5 G Q n (Bh N live o)→H5 G (fun e vs H=>Q e (Wz N live vs) H) n o
 | .one e F H,n,h=>h
 | .chk b x,n,h=>⟨h.1,J4 x n h.2⟩
 | .tst b x y,n,h=>⟨fun hb=>J4 x n (h.1 hb),fun hb=>J4 y n (h.2 hb)⟩
 | .imp b x,n,h=>fun hb=>J4 x n (h hb)
 | .allI f,n,h=>fun x=>J4 (f (.var n x)) (n+1) (h x)
 | .allN f,n,h=>fun x=>J4 (f (.var n x)) (n+1) (h x)
 | .allB f,n,h=>fun x=>J4 (f (.var n x)) (n+1) (h x)
 | .allL f,n,h=>fun x=>J4 (f (.var n x)) (n+1) (h x)
 | .namI e f,n,h=>J4 (f (.var n _)) (n+1) h
 | .namN e f,n,h=>J4 (f (.var n _)) (n+1) h
 | .namB e f,n,h=>J4 (f (.var n _)) (n+1) h
 | .namL e f,n,h=>J4 (f (.var n _)) (n+1) h
def Lp (m:Nat) (Q:Ex→List AV→Hp→Prop) (e:Ex) (vs'':List AV) (H'':Hp):Prop:=(∃ vs',wk vs' vs''∧Q e vs' H'')∨∃ vs' H',B7 m vs' H' vs'' H''∧Q e vs' H'
def H7 (C:A2) (M:Nat) (c:Code) (d:DL):Prop:=
 ∀ m vs H o,m≤M→d.S vs H=some o→∀ n (Q:Ex→List AV→Hp→Prop),H5 C.G (fun e vs' H'=>Q e (vVs C.G vs') (B4 C.G H')) n o→
  AWp C m (.loop c) (fl d.N d.live (vVs C.G vs)) (B4 C.G H) (lv d.N d.live (Lp m Q))
def N1 (C:A2) (M:Nat) (cs:List Code) (ls:Code→DFr→DHp→Option LOut):Prop:=∀ m c F H o,m≤M→c∈cs→ls c F H=some o→∀ n (Q:Post),H5 C.G (fun e F' H'=>Q e (vVs C.G F') (B4 C.G H')) n o→AWp C m (.loop c) (vVs C.G F) (B4 C.G H) Q
theorem N1.nil {M:Nat} {ls:Code→DFr→DHp→Option LOut}:N1 C M [] ls:=fun m c F H o _ h=>by simp at h
theorem AWp.wkd {m:Nat} {c:Code} {F:Fr} {H:Hp} {N:Nat} {live:List Nat} {Q:Ex→List AV→Hp→Prop} {Q':Post} (h:AWp C m c F H (lv N live (Lp m Q))) (hq:∀ e vs H',Q e vs H'→Q' e (fl N live vs) H'):AWp C m c F H Q':=by
 intro r hr ρ a w hH hF;refine Code.wpIn_mono ?_ (h r hr ρ a w hH hF);rintro e a' w' ⟨ae,ρ',F',H',rfl,h2,h3,h4,h5,h6⟩;obtain ⟨h7,h8⟩:=Dy h2;have hN:F'.length=N:=Nat.eq_of_beq_eq_true h7;rcases h8 with ⟨vs',h8,h9⟩ | ⟨vs',H1,h8,h9⟩
 ·exact ⟨ae,ρ',_,H',rfl,hq _ _ _ h9,h3,h4,sM h5 hN h8,h6⟩
 ·obtain ⟨ρ2,g1,g2,g3,g4⟩:=h8.live (N:=N) (live:=live) h4 h5.nod (by rw [←h5.len,hN]) (by simp [Fm]) (fun j i v q1 q2=>by
   simp only [Fm,List.getElem?_map,q1,Option.map_some,Option.some.injEq] at q2;subst q2;by_cases hi:i<F'.length
   ·exact h5.val i _ (by simp [List.getD,hi])
   ·simp [List.getD,hi,VR])
  exact ⟨ae,ρ2,_,H1,rfl,hq _ _ _ h9,h3.trans g3,g1,g2,h6.trans g4⟩
def Td (i:Nat):List DL→Option DL
 | []=>none
 | d::l=>match Nat.beq i d.ex with
  | true=>some d
  | false=>Td i l
theorem Is {c:Code} {F:DFr} {H:DHp} {o:LOut} {i:Nat} (he:Iq c=some i):∀ (l:List DL),Ac l c F H=some o→∃ d,Td i l=some d∧F.length=d.N∧∃ o',d.S (rdD d.live F) H=some o'∧o=Bh d.N d.live o'
 | [],h=>by simp [Ac] at h
 | d::l,h=>by
  simp only [Ac,he] at h;simp only [Td];split at h
  ·rename_i hi;split at h
   ·rename_i hN;split at h
    ·rename_i o' ho;simp at h;subst h;exact ⟨d,rfl,Nat.eq_of_beq_eq_true hN,o',ho,rfl⟩
    ·simp at h
   ·simp at h
  ·exact Is he l h
theorem N1.cons {M:Nat} {c:Code} {cs:List Code} {l:List DL} {d:DL} {i:Nat} (he:Iq c=some i) (hp:Td i l=some d) (h:H7 C M c d) (k:N1 C M cs (Ac l)):N1 C M (c::cs) (Ac l):=by
 intro m c' F H o hm hc ho n Q hQ;rcases List.mem_cons.1 hc with rfl | hc
 ·obtain ⟨d',h1,h2,o',h3,rfl⟩:=Is he l ho;rw [hp] at h1;simp at h1;subst h1
  have:=h m _ _ _ hm h3 n (fun e vs H'=>Q e (fl d.N d.live vs) H') (by
   have:=J4 o' n hQ
   refine G7 (fun e vs H' hq=>?_) o' n this;rw [Yr] at hq
   exact hq)
  have:=this.wkd (Q':=Q) fun e vs H' h=>h
  intro r hr ρ a w hH hF;refine this r hr ρ a w hH ?_
  have:=Rs (live:=d.live) (N:=d.N) hF (by rw [S4];exact h2)
  rw [Yq];exact this
 ·exact k m c' F H o hm hc ho n Q hQ
theorem N1.cast {M:Nat} {cs ds:List Code} {ls:Code→DFr→DHp→Option LOut} (h:N1 C M ds ls) (e:cs=ds):N1 C M cs ls:=by rw [e];exact h
theorem B7.pin {m m':Nat} (hm:m'≤m) {F F':Fr} {H H':Hp} (h:B7 m F H F' H'):B7 m' F H F' H':=by
 obtain ⟨θ,g1,g2,g3,g4⟩:=h.ex;exact ⟨θ,g1,by omega,fun i hi=>g3 i (by omega),g4⟩
theorem Lp.pin {m m':Nat} (hm:m'≤m) {Q:Ex→List AV→Hp→Prop} {e:Ex} {vs:List AV} {H:Hp} (h:Lp m Q e vs H):Lp m' Q e vs H:=by
 rcases h with h | ⟨vs',H',h1,h2⟩
 ·exact .inl h
 ·exact .inr ⟨vs',H',h1.pin hm,h2⟩
def Dc (P:Program) (inl:List Nat) (sums:List (Nat×DSum)) (ls:List DL) (M:Nat):DCfg:={ P:=P,inl:=bA inl,sum:=Tb sums,loop:=Ac ls,M:=M }
theorem I0 {P:Program} {G:Nat→List AV} {B:Nat} {inl:List Nat} {sums:List (Nat×DSum)} {ls:List DL} {M:Nat} {cs:List Code} (hm:P.follows .mixedOrders=true) (hp:Nz P inl=true) (hs:U9 ⟨P,G,B⟩ sums) (hl:N1 ⟨P,G,B⟩ M cs (Ac ls)) :
  O6 ⟨P,G,B⟩ (Dc P inl sums ls M) cs:=
 ⟨rfl,hm,hs,hl,Wn hp,fun m c F H o _ _ h=>by simp [Dc] at h,fun i args H o h=>by simp [Dc] at h⟩
abbrev Df (P:Program) (fam:List (TypeId×Nat×Nat)) (inl:List Nat) (sums:List (Nat×DSum)) (ls:List DL) (M:Nat):DCfg:={ Dc P inl sums ls M with fam:=fun t=>(fam.find? fun x=>Nat.beq x.1 t).map (·.2) }
theorem K9 {P:Program} {fam:List (TypeId×Nat×Nat)} {G:Nat→List AV} {B:Nat} {inl:List Nat} {sums:List (Nat×DSum)} {ls:List DL} {M:Nat} {cs:List Code} (hm:P.follows .mixedOrders=true) (hp:Nz P inl=true) (hs:U9 ⟨P,G,B⟩ sums) (hl:N1 ⟨P,G,B⟩ M cs (Ac ls)) :
  O6 ⟨P,G,B⟩ (Df P fam inl sums ls M) cs:=
 ⟨rfl,hm,hs,hl,Wn hp,fun m c F H o _ _ h=>by simp [Df,Dc] at h,fun i args H o h=>by simp [Df,Dc] at h⟩
end Go.Am
