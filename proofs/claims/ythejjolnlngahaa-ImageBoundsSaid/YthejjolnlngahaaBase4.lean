/-
  Written terms: what the abstract machine over them says of values, and The machine over written terms: a piece of code becomes a tree.
-/
import Derived.Test.YthejjolnlngahaaBase3
namespace Go.Am
mutual
/-- whole numbers -/
inductive EI
 | lit (n:Int)
 | var (j:Nat) (x:Int)
 | bin (o:BinOp) (k:IntKind) (a b:EI)
 | conv (k:IntKind) (a:EI)
 | neg (k:IntKind) (a:EI)
 | cpl (k:IntKind) (a:EI)
 | ofN (n:EN)
 | mx (a b:EI)
 | mn (a b:EI)
 | get (l:EL) (o:EN)
 | uf (j:Nat) (f:List AV→Int) (as:List EV)
/-- counts -/
inductive EN
 | lit (n:Nat)
 | var (j:Nat) (x:Nat)
 | toN (a:EI)
 | add (a b:EN)
 | mul (a:EN) (z:Nat)
 | sub (a b:EN)
 | len (l:EL)
 | slen (s:ES)
 | rk (l:EL) (o:EN)
 | ro (l:EL) (o:EN)
 | rn (l:EL) (o:EN)
 | fk (b:Nat) (l:EL) (o:EN)
 | fo (l:EL) (o:EN)
 | fn (l:EL) (o:EN)
 | uf (j:Nat) (f:List AV→Nat) (as:List EV)
/-- truth values -/
inductive EB
 | lit (b:Bool)
 | var (j:Nat) (x:Bool)
 | cmp (o:BinOp) (a b:EI)
 | not (b:EB)
 | and (a b:EB)
 | eqB (a b:EB)
 | eqS (a b:ES)
 | isI (k:IntKind) (l:EL) (o:EN)
 | isB (l:EL) (o:EN)
 | isT (l:EL) (o:EN)
 | isR (l:EL) (o:EN)
 | get (l:EL) (o:EN)
 | leN (a b:EN)
 | eqN (a b:EN)
 | leaf (l:EL) (o:EN) (ls:List Lf)
 | u8s (l:EL)
 | cells (l:EL)
 | isF (b c:Nat) (l:EL) (o:EN)
 | isP (b c:Nat) (l:EL) (o:EN)
 | isNil (l:EL) (o:EN)
 | rows (l:EL) (ls:List EV)
 | uf (j:Nat) (f:List AV→Bool) (as:List EV)
/-- texts -/
inductive ES
 | lit (s:List UInt8)
 | var (j:Nat) (x:List UInt8)
 | app (a b:ES)
 | sub (s:ES) (lo hi:EN)
 | get (l:EL) (o:EN)
 | ofL (l:EL)
 | uf (j:Nat) (f:List AV→List UInt8) (as:List EV)
/-- cells -/
inductive EL
 | of (cs:List EV)
 | var (j:Nat) (x:List AV)
 | ro (n:EN)
 | set (l:EL) (o:EN) (v:EV)
 | app (a b:EL)
 | sub (l:EL) (o n:EN)
 | bytes (s:ES)
 | rep (n:EN) (l:EL)
 | row (l:EL) (k:EN)
 | put (l:EL) (k:EN) (v:EL)
 | uf (j:Nat) (f:List AV→List AV) (as:List EV)
/-- values -/
inductive EV
 | undef
 | bool (b:EB)
 | int (k:IntKind) (n:EI)
 | str (s:ES)
 | nilp
 | ptr (r:ER) (o:EN)
 | nils
 | slice (mb:Bool) (r:ER) (o n:EN)
 | nilf
 | func (f:FuncId) (cap:List EV)
 | agg (l:EL)
 | tup (vs:List EV)
 | yld (i:Nat)
/-- places -/
inductive ER
 | rw (i:Nat)
 | ro (n:EN)
 | fm (b c:Nat) (k:EN)
end
def Lz (o:BinOp) (k:IntKind) (x y:Int):Int:=
 match o with
 | .add=>k.wrap (x+y)
 | .sub=>k.wrap (x - y)
 | .mul=>k.wrap (x*y)
 | .quo=>k.wrap (x.tdiv y)
 | .rem=>x.tmod y
 | .and=>Gg k x y
 | .or=>kOr k x y
 | .xor=>dR k x y
 | .andNot=>Pg k x y
 | .shl=>Yq k x y
 | .shr=>Yp k x y
 | _=>0
def Ly (o:BinOp) (x y:Int):Bool:=
 match o with
 | .eql=>x==y
 | .neq=>x != y
 | .lss=>decide (x<y)
 | .leq=>decide (x≤y)
 | .gtr=>decide (x>y)
 | .geq=>decide (x≥y)
 | _=>false
def Ua (x y:Nat):Bool:=decide (x≤y)
def u8s (cs:List AV):Bool:=cs.all Yr
def Vf (cs:List AV):Bool:=cs.all isCell
def strL (cs:List AV):List UInt8:=cs.map Mk
def Vg (s:List UInt8):List AV:=s.map fun b=>.int .u8 b.toNat
def cU (cs:List AV) (o n:Nat):List AV:=(cs.drop o).take n
def repL (n:Nat) (cs:List AV):List AV:=(List.replicate n cs).flatten
def Da (L:List AV) (k:Nat):List AV:=match L[k]? with | some (.agg cs)=>cs | _=>[]
def Pa (L:List AV) (k:Nat) (cs:List AV):List AV:=L.set k (.agg cs)
def Nt (b:Nat) (cs:List AV) (o:Nat):Nat:=match cs[o]? with | some (.slice _ (.rw i) _ _)=>i - b | some (.ptr (.rw i) _)=>i - b | _=>0
def Us (cs:List AV) (o:Nat):Nat:=match cs[o]? with | some (.slice _ (.rw _) f _)=>f | some (.ptr (.rw _) f)=>f | _=>0
def fnA (cs:List AV) (o:Nat):Nat:=match cs[o]? with | some (.slice _ (.rw _) _ n)=>n | _=>0
def dT (b c:Nat) (cs:List AV) (o:Nat):Bool:=match cs[o]? with | some (.slice true (.rw i) _ _)=>Nat.ble b i&&Nat.blt i (b+c) | _=>false
def dS (b c:Nat) (cs:List AV) (o:Nat):Bool:=match cs[o]? with | some (.ptr (.rw i) _)=>Nat.ble b i&&Nat.blt i (b+c) | _=>false
def Ue (cs:List AV) (o:Nat):Bool:=match cs[o]? with | some .nilp=>true | _=>false
open Classical in
noncomputable def Mp (l:List AV) (ls:List AV):Bool:=decide (∀ v∈ls,v=.agg l)
section
variable (G:Nat→List AV)
mutual
noncomputable def vI:EI→Int
 | .lit n=>n
 | .var _ x=>x
 | .bin o k a b=>Lz o k (vI a) (vI b)
 | .conv k a=>k.wrap (vI a)
 | .neg k a=>k.wrap (0 - vI a)
 | .cpl k a=>Ud k (vI a)
 | .ofN n=>(vN n:Int)
 | .mx a b=>if vI b>vI a then vI b else vI a
 | .mn a b=>if vI b<vI a then vI b else vI a
 | .get l o=>A8 (vL l) (vN o)
 | .uf _ f as=>f (vVs as)
termination_by structural x=>x
noncomputable def vN:EN→Nat
 | .lit n=>n
 | .var _ x=>x
 | .toN a=>(vI a).toNat
 | .add a b=>vN a+vN b
 | .mul a z=>vN a*z
 | .sub a b=>vN a - vN b
 | .len l=>(vL l).length
 | .slen s=>(vS s).length
 | .rk l o=>Bg (vL l) (vN o)
 | .ro l o=>Bf (vL l) (vN o)
 | .rn l o=>N2 (vL l) (vN o)
 | .fk b l o=>Nt b (vL l) (vN o)
 | .fo l o=>Us (vL l) (vN o)
 | .fn l o=>fnA (vL l) (vN o)
 | .uf _ f as=>f (vVs as)
termination_by structural x=>x
noncomputable def vB:EB→Bool
 | .lit b=>b
 | .var _ x=>x
 | .cmp o a b=>Ly o (vI a) (vI b)
 | .not b=>!(vB b)
 | .and a b=>vB a&&vB b
 | .eqB a b=>vB a==vB b
 | .eqS a b=>vS a==vS b
 | .isI k l o=>isI k (vL l) (vN o)
 | .isB l o=>isB (vL l) (vN o)
 | .isT l o=>Sb (vL l) (vN o)
 | .isR l o=>Ph (vL l) (vN o)
 | .get l o=>Q3 (vL l) (vN o)
 | .leN a b=>Ua (vN a) (vN b)
 | .eqN a b=>Nat.beq (vN a) (vN b)
 | .leaf l o ls=>H8 (vL l) (vN o) ls
 | .u8s l=>u8s (vL l)
 | .cells l=>Vf (vL l)
 | .isF b c l o=>dT b c (vL l) (vN o)
 | .isP b c l o=>dS b c (vL l) (vN o)
 | .isNil l o=>Ue (vL l) (vN o)
 | .rows l ls=>Mp (vL l) (vVs ls)
 | .uf _ f as=>f (vVs as)
termination_by structural x=>x
noncomputable def vS:ES→List UInt8
 | .lit s=>s
 | .var _ x=>x
 | .app a b=>vS a++vS b
 | .sub s lo hi=>((vS s).take (vN hi)).drop (vN lo)
 | .get l o=>Nq (vL l) (vN o)
 | .ofL l=>strL (vL l)
 | .uf _ f as=>f (vVs as)
termination_by structural x=>x
noncomputable def vL:EL→List AV
 | .of cs=>vVs cs
 | .var _ x=>x
 | .ro n=>G (vN n)
 | .set l o v=>F6 (vL l) (vN o) (vV v)
 | .app a b=>vL a++vL b
 | .sub l o n=>cU (vL l) (vN o) (vN n)
 | .bytes s=>Vg (vS s)
 | .rep n l=>repL (vN n) (vL l)
 | .row l k=>Da (vL l) (vN k)
 | .put l k v=>Pa (vL l) (vN k) (vL v)
 | .uf _ f as=>f (vVs as)
termination_by structural x=>x
noncomputable def vV:EV→AV
 | .undef=>.undef
 | .bool b=>.bool (vB b)
 | .int k n=>.int k (vI n)
 | .str s=>.str (vS s)
 | .nilp=>.nilp
 | .ptr r o=>.ptr (vR r) (vN o)
 | .nils=>.nils
 | .slice mb r o n=>.slice mb (vR r) (vN o) (vN n)
 | .nilf=>.nilf
 | .func f cap=>.func f (vVs cap)
 | .agg l=>.agg (vL l)
 | .tup vs=>.tup (vVs vs)
 | .yld i=>.yld i
termination_by structural x=>x
noncomputable def vVs:List EV→List AV
 | []=>[]
 | x::l=>vV x::vVs l
termination_by structural x=>x
noncomputable def vR:ER→Ref
 | .rw i=>.rw i
 | .ro n=>.ro (vN n)
 | .fm b _ k=>.rw (b+vN k)
termination_by structural x=>x
end
end
mutual
def Aa:EI→EI→Bool
 | .lit a,.lit b=>a==b
 | .var j _,.var i _=>Nat.beq j i
 | .bin o k a b,.bin o' k' a' b'=>o==o'&&(k==k'&&(Aa a a'&&Aa b b'))
 | .conv k a,.conv k' a'=>k==k'&&Aa a a'
 | .neg k a,.neg k' a'=>k==k'&&Aa a a'
 | .cpl k a,.cpl k' a'=>k==k'&&Aa a a'
 | .ofN a,.ofN b=>eqN a b
 | .mx a b,.mx a' b'=>Aa a a'&&Aa b b'
 | .mn a b,.mn a' b'=>Aa a a'&&Aa b b'
 | .get l o,.get l' o'=>eqN o o'&&M6 l l'
 | .uf j _ a,.uf j' _ a'=>Nat.beq j j'&&En a a'
 | _,_=>false
termination_by structural x=>x
def eqN:EN→EN→Bool
 | .lit a,.lit b=>Nat.beq a b
 | .var j _,.var i _=>Nat.beq j i
 | .toN a,.toN b=>Aa a b
 | .add a b,.add a' b'=>eqN a a'&&eqN b b'
 | .mul a z,.mul a' z'=>Nat.beq z z'&&eqN a a'
 | .sub a b,.sub a' b'=>eqN a a'&&eqN b b'
 | .len a,.len b=>M6 a b
 | .slen a,.slen b=>eqS a b
 | .rk l o,.rk l' o'=>eqN o o'&&M6 l l'
 | .ro l o,.ro l' o'=>eqN o o'&&M6 l l'
 | .rn l o,.rn l' o'=>eqN o o'&&M6 l l'
 | .fk b l o,.fk b' l' o'=>Nat.beq b b'&&(eqN o o'&&M6 l l')
 | .fo l o,.fo l' o'=>eqN o o'&&M6 l l'
 | .fn l o,.fn l' o'=>eqN o o'&&M6 l l'
 | .uf j _ a,.uf j' _ a'=>Nat.beq j j'&&En a a'
 | _,_=>false
termination_by structural x=>x
def eqB:EB→EB→Bool
 | .lit a,.lit b=>a==b
 | .var j _,.var i _=>Nat.beq j i
 | .cmp o a b,.cmp o' a' b'=>o==o'&&(Aa a a'&&Aa b b')
 | .not a,.not b=>eqB a b
 | .and a b,.and a' b'=>eqB a a'&&eqB b b'
 | .eqB a b,.eqB a' b'=>eqB a a'&&eqB b b'
 | .eqS a b,.eqS a' b'=>eqS a a'&&eqS b b'
 | .isI k l o,.isI k' l' o'=>k==k'&&(eqN o o'&&M6 l l')
 | .isB l o,.isB l' o'=>eqN o o'&&M6 l l'
 | .isT l o,.isT l' o'=>eqN o o'&&M6 l l'
 | .isR l o,.isR l' o'=>eqN o o'&&M6 l l'
 | .get l o,.get l' o'=>eqN o o'&&M6 l l'
 | .leN a b,.leN a' b'=>eqN a a'&&eqN b b'
 | .eqN a b,.eqN a' b'=>eqN a a'&&eqN b b'
 | .leaf l o _,.leaf l' o' _=>eqN o o'&&M6 l l'
 | .u8s l,.u8s l'=>M6 l l'
 | .cells l,.cells l'=>M6 l l'
 | .isF b _ l o,.isF b' _ l' o'=>Nat.beq b b'&&(eqN o o'&&M6 l l')
 | .isP b _ l o,.isP b' _ l' o'=>Nat.beq b b'&&(eqN o o'&&M6 l l')
 | .isNil l o,.isNil l' o'=>eqN o o'&&M6 l l'
 | .rows l ls,.rows l' ls'=>M6 l l'&&En ls ls'
 | .uf j _ a,.uf j' _ a'=>Nat.beq j j'&&En a a'
 | _,_=>false
termination_by structural x=>x
def eqS:ES→ES→Bool
 | .lit a,.lit b=>a==b
 | .var j _,.var i _=>Nat.beq j i
 | .app a b,.app a' b'=>eqS a a'&&eqS b b'
 | .sub s l h,.sub s' l' h'=>eqS s s'&&(eqN l l'&&eqN h h')
 | .get l o,.get l' o'=>eqN o o'&&M6 l l'
 | .ofL l,.ofL l'=>M6 l l'
 | .uf j _ a,.uf j' _ a'=>Nat.beq j j'&&En a a'
 | _,_=>false
termination_by structural x=>x
def M6:EL→EL→Bool
 | .of a,.of b=>En a b
 | .var j _,.var i _=>Nat.beq j i
 | .ro a,.ro b=>eqN a b
 | .set l o v,.set l' o' v'=>eqN o o'&&(eqV' v v'&&M6 l l')
 | .app a b,.app a' b'=>M6 a a'&&M6 b b'
 | .sub l a b,.sub l' a' b'=>M6 l l'&&(eqN a a'&&eqN b b')
 | .bytes a,.bytes b=>eqS a b
 | .rep n l,.rep n' l'=>eqN n n'&&M6 l l'
 | .row l k,.row l' k'=>eqN k k'&&M6 l l'
 | .put l k v,.put l' k' v'=>eqN k k'&&(M6 v v'&&M6 l l')
 | .uf j _ a,.uf j' _ a'=>Nat.beq j j'&&En a a'
 | _,_=>false
termination_by structural x=>x
def eqV':EV→EV→Bool
 | .undef,.undef=>true
 | .bool a,.bool b=>eqB a b
 | .int k a,.int k' b=>k==k'&&Aa a b
 | .str a,.str b=>eqS a b
 | .nilp,.nilp=>true
 | .ptr r o,.ptr r' o'=>eqR r r'&&eqN o o'
 | .nils,.nils=>true
 | .slice _ r o n,.slice _ r' o' n'=>eqR r r'&&(eqN o o'&&eqN n n')
 | .nilf,.nilf=>true
 | .func f c,.func f' c'=>Nat.beq f f'&&En c c'
 | .agg a,.agg b=>M6 a b
 | .tup a,.tup b=>En a b
 | .yld i,.yld j=>Nat.beq i j
 | _,_=>false
termination_by structural x=>x
def En:List EV→List EV→Bool
 | [],[]=>true
 | x::l,y::m=>eqV' x y&&En l m
 | _,_=>false
termination_by structural x=>x
def eqR:ER→ER→Bool
 | .rw i,.rw j=>Nat.beq i j
 | .ro a,.ro b=>eqN a b
 | .fm b _ k,.fm b' _ k'=>Nat.beq b b'&&eqN k k'
 | _,_=>false
termination_by structural x=>x
end
def B6 (a b:EB):EB:=
 match a with
 | .lit true=>b
 | .lit false=>.lit false
 | a=>match b with
  | .lit true=>a
  | .lit false=>.lit false
  | b=>.and a b
def V7:EB→EB
 | .lit b=>.lit (!b)
 | .not b=>b
 | b=>.not b
def Rz (a b:EB):EB:=
 match a,b with
 | .lit true,b=>b
 | .lit false,b=>V7 b
 | a,.lit true=>a
 | a,.lit false=>V7 a
 | a,b=>.eqB a b
def C9 (o:BinOp) (a b:EI):EB:=
 match a,b with
 | .lit x,.lit y=>.lit (Ly o x y)
 | a,b=>.cmp o a b
def U2 (o:BinOp) (k:IntKind) (a b:EI):EI:=
 match a,b with
 | .lit x,.lit y=>.lit (Lz o k x y)
 | a,b=>.bin o k a b
def Tu (k:IntKind):EI→EI
 | .lit x=>.lit (k.wrap x)
 | a=>.conv k a
def Yk (k:IntKind):EI→EI
 | .lit x=>.lit (k.wrap (0 - x))
 | a=>.neg k a
def Yl (k:IntKind):EI→EI
 | .lit x=>.lit (Ud k x)
 | a=>.cpl k a
def Ce:EN→EI
 | .lit n=>.lit n
 | n=>.ofN n
def P8:EI→EN
 | .lit n=>.lit n.toNat
 | .ofN n=>n
 | a=>.toN a
def G9 (a b:EN):EN:=
 match a,b with
 | .lit x,.lit y=>.lit (x+y)
 | a,.lit 0=>a
 | .lit 0,b=>b
 | .add a (.lit x),.lit y=>.add a (.lit (x+y))
 | a,b=>.add a b
def L3 (a:EN) (z:Nat):EN:=
 match z with
 | 1=>a
 | z=>match a with
  | .lit x=>.lit (x*z)
  | a=>.mul a z
def Yj (a b:EN):EN:=
 match a,b with
 | .lit x,.lit y=>.lit (x - y)
 | a,.lit 0=>a
 | a,b=>.sub a b
def L4 (a b:EN):EB:=
 match a,b with
 | .lit x,.lit y=>.lit (Nat.ble x y)
 | .lit 0,_=>.lit true
 | a,b=>.leN a b
def Ry (a b:EN):EB:=
 match a,b with
 | .lit x,.lit y=>.lit (Nat.beq x y)
 | a,b=>.eqN a b
def Nh (a b:ES):EB:=
 match a,b with
 | .lit x,.lit y=>.lit (x==y)
 | a,b=>.eqS a b
def Ym (a b:ES):ES:=
 match a,b with
 | .lit x,.lit y=>.lit (x++y)
 | .lit [],b=>b
 | a,.lit []=>a
 | a,b=>.app a b
def P9:EL→EN
 | .of cs=>.lit cs.length
 | .bytes s=>.slen s
 | .sub l o n=>.len (.sub l o n)
 | l=>.len l
def Ug:EV→Bool
 | .agg _=>true
 | _=>false
def Gc (l:EL) (o:EN) (v:EV):EL:=
 match l,o with
 | .of cs,.lit n=>match v with
  | .agg (.of ds)=>.of (cs.take n++(ds++cs.drop (n+ds.length)))
  | .agg d=>.set (.of cs) (.lit n) (.agg d)
  | v=>.of (cs.set n v)
 | l,o=>.set l o v
def Y2 (l:EL) (o n:EN):EL:=
 match l,o,n with
 | .of cs,.lit a,.lit b=>.of ((cs.drop a).take b)
 | l,o,n=>.sub l o n
def Ni (a b:EL):EL:=
 match a,b with
 | .of cs,.of ds=>.of (cs++ds)
 | .of [],b=>b
 | a,.of []=>a
 | a,b=>.app a b
def Jr:ES→EL
 | .lit s=>.of (s.map fun b=>.int .u8 (.lit b.toNat))
 | s=>.bytes s
def Ng (n:EN) (l:EL):EL:=
 match n,l with
 | .lit k,.of cs=>.of ((List.replicate k cs).flatten)
 | n,l=>.rep n l
def Lm:EN→Option Nat
 | .lit n=>some n
 | _=>none
def P6:EL→Nat→Option (EB×EV)
 | .of cs,n=>match cs[n]? with
  | some v=>some (.lit true,v)
  | none=>none
 | .set l o v,n=>match Lm o,Ug v with
  | some m,false=>match Nat.beq m n with
   | true=>some (L4 (.lit (n+1)) (P9 l),v)
   | false=>P6 l n
  | _,_=>none
 | _,_=>none
def rdI (k:IntKind) (l:EL) (o:EN):Option (EB×EI):=
 match Lm o with
 | some n=>match P6 l n with
  | some (c,.int k' e)=>if k=k' then some (c,e) else none
  | some _=>none
  | none=>some (.isI k l o,.get l o)
 | none=>some (.isI k l o,.get l o)
def rdB (l:EL) (o:EN):Option (EB×EB):=
 match Lm o with
 | some n=>match P6 l n with
  | some (c,.bool e)=>some (c,e)
  | some _=>none
  | none=>some (.isB l o,.get l o)
 | none=>some (.isB l o,.get l o)
end Go.Am
namespace Go.Am
structure Mf where
 esz:Nat
 cells:EL
abbrev DHp:=List (Option Mf)
abbrev DFr:=List EV
noncomputable def Gl (F:DFr) (n:Nat):EV:=
 List.rec (motive:=fun _=>Nat→EV) (fun _=>.undef) (fun x _ ih n=>Nat.rec (motive:=fun _=>EV) x (fun m _=>ih m) n) F n
noncomputable def Yd (F:DFr) (n:Nat) (v:EV):DFr:=
 List.rec (motive:=fun _=>Nat→DFr) (fun _=>[]) (fun x xs ih n=>Nat.rec (motive:=fun _=>DFr) (v::xs) (fun m _=>x::ih m) n) F n
theorem Aj:∀ (F:DFr) (n:Nat),Gl F n=F.getD n .undef
 | [],n=>rfl
 | x::F,0=>rfl
 | x::F,n+1=>by
  have:=Aj F n
  show Gl F n=_;rw [this];rfl
theorem Fw:∀ (F:DFr) (n:Nat) (v:EV),Yd F n v=F.set n v
 | [],n,v=>rfl
 | x::F,0,v=>rfl
 | x::F,n+1,v=>by
  have:=Fw F n v
  show x::Yd F n v=_;rw [this];rfl
structure Facts where
 n:Nat
 l:List (EB×Bool)
inductive T
 | fail
 | chk (b:EB) (t:T)
 | tst (b:EB) (x y:T)
 | imp (b:EB) (t:T)
 | allI (j:Nat) (k:Int→T)
 | allN (j:Nat) (k:Nat→T)
 | allB (j:Nat) (k:Bool→T)
 | allL (j:Nat) (k:List AV→T)
 | namI (j:Nat) (e:EI) (k:Int→T)
 | namN (j:Nat) (e:EN) (k:Nat→T)
 | namB (j:Nat) (e:EB) (k:Bool→T)
 | namL (j:Nat) (e:EL) (k:List AV→T)
 | leaf (e:Ex) (F:List EV) (H:DHp)
 | ret (v:EV) (H:DHp)
inductive DHop
 | set (i:Nat) (b:Mf)
 | new (b:Mf)
 | app (j:Nat) (b:Mf)
def DHop.act (H:DHp):DHop→DHp
 | .set i b=>H.set i (some b)
 | .new b=>H++[some b]
 | .app j b=>H.set j none++[some b]
def Ba (H:DHp):List DHop→DHp
 | []=>H
 | h::hs=>Ba (h.act H) hs
inductive Outs
 | one (v:EV) (hs:List DHop)
 | chk (b:EB) (x:Outs)
 | tst (b:EB) (x y:Outs)
 | namI (e:EI) (k:EI→Outs)
 | namN (e:EN) (k:EN→Outs)
 | namB (e:EB) (k:EB→Outs)
 | namL (e:EL) (k:EL→Outs)
inductive LOut
 | one (e:Ex) (F:DFr) (H:DHp)
 | chk (b:EB) (x:LOut)
 | tst (b:EB) (x y:LOut)
 | imp (b:EB) (x:LOut)
 | allI (k:EI→LOut)
 | allN (k:EN→LOut)
 | allB (k:EB→LOut)
 | allL (k:EL→LOut)
 | namI (e:EI) (k:EI→LOut)
 | namN (e:EN) (k:EN→LOut)
 | namB (e:EB) (k:EB→LOut)
 | namL (e:EL) (k:EL→LOut)
def nf:EB→EB×Bool
 | .not b=>match nf b with | (b,s)=>(b,!s)
 | .cmp .neq a b=>(.cmp .eql a b,false)
 | .cmp .geq a b=>(.cmp .lss a b,false)
 | .cmp .gtr a b=>(.cmp .lss b a,true)
 | .cmp .leq a b=>(.cmp .lss b a,false)
 | b=>(b,true)
def look (b:EB):List (EB×Bool)→Option Bool
 | []=>none
 | (c,v)::fs=>match eqB b c with
  | true=>some v
  | false=>look b fs
def maxO:Option Int→Int→Option Int
 | none,b=>some b
 | some a,b=>some (if a<b then b else a)
def minO:Option Int→Int→Option Int
 | none,b=>some b
 | some a,b=>some (if b<a then b else a)
def Mt (a:EI):List (EB×Bool)→Option Int×Option Int
 | []=>match a with
  | .ofN _=>(some 0,none)
  | _=>(none,none)
 | (.cmp .eql b (.lit m),true)::fs=>match Aa a b with
  | true=>(some m,some m)
  | false=>Mt a fs
 | (.cmp .lss b (.lit m),v)::fs=>match Aa a b,v,Mt a fs with
  | true,true,(lo,hi)=>(lo,minO hi (m - 1))
  | true,false,(lo,hi)=>(maxO lo m,hi)
  | _,_,r=>r
 | (.cmp .lss (.lit m) b,v)::fs=>match Aa a b,v,Mt a fs with
  | true,true,(lo,hi)=>(maxO lo (m+1),hi)
  | true,false,(lo,hi)=>(lo,minO hi m)
  | _,_,r=>r
 | _::fs=>Mt a fs
def decR (o:BinOp) (r:Option Int×Option Int) (s:Option Int×Option Int):Option Bool:=
 match o with
 | .lss=>match r,s with
  | (lo,hi),(lo',hi')=>match hi,lo' with
   | some a,some b=>match decide (a<b),lo,hi' with
    | true,_,_=>some true
    | false,some c,some d=>if d≤c then some false else none
    | false,_,_=>none
   | _,_=>match lo,hi' with
    | some c,some d=>if d≤c then some false else none
    | _,_=>none
 | .eql=>match r,s with
  | (lo,hi),(lo',hi')=>match (match hi,lo' with | some a,some b=>decide (a<b) | _,_=>false)||(match hi',lo with | some a,some b=>decide (a<b) | _,_=>false) with
   | true=>some false
   | false=>match lo,hi,lo',hi' with
    | some a,some b,some c,some d=>if a=b∧c=d∧a=c then some true else none
    | _,_,_,_=>none
 | _=>none
def Jk (fs:List (EB×Bool)):EI→Option Int×Option Int
 | .lit n=>(some n,some n)
 | a=>Mt a fs
def decN (fs:List (EB×Bool)) (b:EB):Option Bool:=
 match look b fs with
 | some v=>some v
 | none=>match b with
  | .cmp .eql x y=>match Aa x y with
   | true=>some true
   | false=>decR .eql (Jk fs x) (Jk fs y)
  | .cmp .lss x y=>match Aa x y with
   | true=>some false
   | false=>decR .lss (Jk fs x) (Jk fs y)
  | .eqS x y=>match eqS x y with
   | true=>some true
   | false=>none
  | .leN x y=>match eqN x y with
   | true=>some true
   | false=>none
  | .eqN x y=>match eqN x y with
   | true=>some true
   | false=>none
  | _=>none
def dec (fs:Facts) (b:EB):Option Bool:=
 match nf b with
 | (b,s)=>match decN fs.l b with
  | some v=>some (v==s)
  | none=>none
def Ax (fs:Facts) (b:EB) (v:Bool):Facts:=
 match nf b with
 | (b,s)=>⟨fs.n,(b,v==s)::fs.l⟩
def fresh (fs:Facts):Facts:=⟨fs.n+1,fs.l⟩
def U9 (b:EB) (t:T):T:=
 match b with
 | .lit true=>t
 | .lit false=>.fail
 | .and a b=>U9 a (U9 b t)
 | b=>.chk b t
def P4 (fs:Facts) (b:EB) (x y:Facts→T):T:=
 match b with
 | .lit true=>x fs
 | .lit false=>y fs
 | .not b=>P4 fs b y x
 | .and a b=>P4 fs a (fun fs=>P4 fs b x y) y
 | .eqB a b=>P4 fs a (fun fs=>P4 fs b x y) (fun fs=>P4 fs b y x)
 | b=>match dec fs b with
  | some true=>.chk b (x fs)
  | some false=>.chk (.not b) (y fs)
  | none=>.tst b (x (Ax fs b true)) (y (Ax fs b false))
def Nc (o:Option (EB×EV)) (k:EV→T):T:=match o with | some (c,v)=>U9 c (k v) | none=>.fail
def Sf:Value→EV
 | .bool b=>.bool (.lit b)
 | .int k n=>.int k (.lit n)
 | .string s=>.str (.lit s.data.toList)
 | .pointer none=>.nilp
 | .slice none 0 0=>.nils
 | .nilFunc=>.nilf
 | _=>.undef
def Zd:Value→EV
 | .agg cs=>.agg (.of (cs.toList.map Sf))
 | v=>Sf v
noncomputable def evD (F:DFr):Operand→EV
 | .tmp t=>Gl F t
 | .const v=>Zd v
 | .global _=>.undef
 | .func f=>.func f []
def binIntD (op:BinOp) (k:IntKind) (x y:EI):Option (EB×EV):=
 match op with
 | .add=>some (.lit true,.int k (U2 .add k x y))
 | .sub=>some (.lit true,.int k (U2 .sub k x y))
 | .mul=>some (.lit true,.int k (U2 .mul k x y))
 | .quo=>some (V7 (C9 .eql y (.lit 0)),.int k (U2 .quo k x y))
 | .rem=>some (V7 (C9 .eql y (.lit 0)),.int k (U2 .rem k x y))
 | .and=>some (.lit true,.int k (U2 .and k x y))
 | .or=>some (.lit true,.int k (U2 .or k x y))
 | .xor=>some (.lit true,.int k (U2 .xor k x y))
 | .andNot=>some (.lit true,.int k (U2 .andNot k x y))
 | .eql=>some (.lit true,.bool (C9 .eql x y))
 | .neq=>some (.lit true,.bool (V7 (C9 .eql x y)))
 | .lss=>some (.lit true,.bool (C9 .lss x y))
 | .leq=>some (.lit true,.bool (C9 .leq x y))
 | .gtr=>some (.lit true,.bool (C9 .gtr x y))
 | .geq=>some (.lit true,.bool (C9 .geq x y))
 | _=>none
def Iy (op:BinOp) (k:IntKind) (x y:EI):Option (EB×EV):=
 match op with
 | .shl=>some (C9 .leq (.lit 0) y,.int k (U2 .shl k x y))
 | .shr=>some (C9 .leq (.lit 0) y,.int k (U2 .shr k x y))
 | _=>none
def Au:ES→EN
 | .lit s=>.lit s.length
 | s=>.slen s
def Qa (op:BinOp) (x y:ES):Option (EB×EV):=
 match op with
 | .add=>some (L4 (G9 (Au x) (Au y)) (.lit 9223372036854775807),.str (Ym x y))
 | .eql=>some (.lit true,.bool (Nh x y))
 | .neq=>some (.lit true,.bool (V7 (Nh x y)))
 | _=>none
def Ay (op:BinOp) (c:Bool) (b:EB):Option (EB×EV):=
 match op with
 | .eql=>some (.lit c,.bool b)
 | .neq=>some (.lit c,.bool (V7 b))
 | _=>none
def V5 (P:Program) (t:TypeId) (l:EL) (o:EN):Option (EB×EV):=
 match P.underlying t with
 | some (.int k)=>match rdI k l o with
  | some (c,e)=>some (c,.int k e)
  | none=>none
 | some .bool=>match rdB l o with
  | some (c,e)=>some (c,.bool e)
  | none=>none
 | some (.struct _)=>match C2 P t with
  | some z=>some (L4 (G9 o (.lit z)) (P9 l),.agg (Y2 l o (.lit z)))
  | none=>none
 | some (.array _ _)=>match C2 P t with
  | some z=>some (L4 (G9 o (.lit z)) (P9 l),.agg (Y2 l o (.lit z)))
  | none=>none
 | some _=>match Lm o with
  | some n=>P6 l n
  | none=>none
 | none=>none
def Kb (P:Program) (rec:TypeId→EV→EV→Option (EB×EB)) (xs ys:EL):List Field→Option (EB×EB)
 | []=>some (.lit true,.lit true)
 | f::fs=>
  if f.name ≠ "_" then
   match V5 P f.type xs (.lit f.offset),V5 P f.type ys (.lit f.offset) with
   | some (c1,a),some (c2,b)=>
    match rec f.type a b,Kb P rec xs ys fs with
    | some (c3,r),some (c4,s)=>some (B6 c1 (B6 c2 (B6 c3 c4)),B6 r s)
    | _,_=>none
   | _,_=>none
  else Kb P rec xs ys fs
def Ny (P:Program) (rec:TypeId→EV→EV→Option (EB×EB)) (e:TypeId) (z:Nat) (xs ys:EL):List Nat→Option (EB×EB)
 | []=>some (.lit true,.lit true)
 | i::is=>
   match V5 P e xs (.lit (i*z)),V5 P e ys (.lit (i*z)) with
   | some (c1,a),some (c2,b)=>
    match rec e a b,Ny P rec e z xs ys is with
    | some (c3,r),some (c4,s)=>some (B6 c1 (B6 c2 (B6 c3 c4)),B6 r s)
    | _,_=>none
   | _,_=>none
def Ps (P:Program):Nat→TypeId→EV→EV→Option (EB×EB)
 | 0,_,_,_=>none
 | n+1,t,x,y=>
  match P.underlying t with
  | some (.int _)=>match x,y with
   | .int k a,.int k' b=>if k=k' then some (.lit true,C9 .eql a b) else none
   | _,_=>none
  | some .bool=>match x,y with
   | .bool a,.bool b=>some (.lit true,Rz a b)
   | _,_=>none
  | some .string=>match x,y with
   | .str a,.str b=>some (.lit true,Nh a b)
   | _,_=>none
  | some (.struct fs)=>match x,y with
   | .agg xs,.agg ys=>match P.stoodInHeld t with
    | true=>none
    | false=>Kb P (Ps P n) xs ys fs.toList
   | _,_=>none
  | some (.array m e)=>match x,y with
   | .agg xs,.agg ys=>match C2 P e with
    | some z=>Ny P (Ps P n) e z xs ys (List.range m)
    | none=>none
   | _,_=>none
  | _=>none
def eqA1 (P:Program) (t:TypeId) (as:List AV):Bool:=match as with
 | [x,y]=>match Hg P 10 t x y with
  | some (c,_)=>c
  | none=>false
 | _=>false
def eqA2 (P:Program) (t:TypeId) (as:List AV):Bool:=match as with
 | [x,y]=>match Hg P 10 t x y with
  | some (_,b)=>b
  | none=>false
 | _=>false
def Yt:EL→Bool
 | .of _=>true
 | _=>false
def dY (P:Program) (t:TypeId) (xs ys:EL):Option (EB×EB):=
 match Yt xs||Yt ys||(match C2 P t with | some z=>Nat.ble z 8 | none=>false) with
 | true=>Ps P 10 t (.agg xs) (.agg ys)
 | false=>some (.uf (100000+t) (eqA1 P t) [.agg xs,.agg ys],.uf (200000+t) (eqA2 P t) [.agg xs,.agg ys])
def eM (P:Program) (op:BinOp) (t:TypeId) (x y:EV):Option (EB×EV):=
 match x,y with
 | .int k a,.int k' b=>
  match op with
  | .shl | .shr=>Iy op k a b
  | _=>if k=k' then binIntD op k a b else none
 | .str a,.str b=>Qa op a b
 | .bool a,.bool b=>Ay op (Ju (P.underlying t)) (Rz a b)
 | .ptr _ _,.nilp=>Ay op (Bk (P.underlying t)) (.lit false)
 | .nilp,.ptr _ _=>Ay op (Bk (P.underlying t)) (.lit false)
 | .nilp,.nilp=>Ay op (Bk (P.underlying t)) (.lit true)
 | .slice false _ _ _,.nils=>Ay op (Ai (P.underlying t)) (.lit false)
 | .nils,.nils=>Ay op (Ai (P.underlying t)) (.lit true)
 | .func _ _,.nilf=>Ay op (Cp (P.underlying t)) (.lit false)
 | .nilf,.nilf=>Ay op (Cp (P.underlying t)) (.lit true)
 | .agg xs,.agg ys=>
  match P.eqGuardType P.depth t with
  | true=>none
  | false=>match dY P t xs ys with
   | some (c,b)=>match op with
    | .eql=>some (c,.bool b)
    | .neq=>some (c,.bool (V7 b))
    | _=>none
   | none=>none
 | _,_=>none
def unD (op:UnOp) (x:EV):Option (EB×EV):=
 match op,x with
 | .neg,.int k n=>some (.lit true,.int k (Yk k n))
 | .xor,.int k n=>some (.lit true,.int k (Yl k n))
 | .not,.bool b=>some (.lit true,.bool (V7 b))
 | _,_=>none
def Ze (P:Program) (src dst:TypeId) (x:EV):Option (EB×EV):=
 match P.underlying src,P.underlying dst,x with
 | some _,some (.int k),.int _ n=>some (.lit true,.int k (Tu k n))
 | some _,some .string,.str s=>some (.lit true,.str s)
 | _,_,_=>none
def Uv (P:Program) (s:TypeId) (x:EV) (f:Nat):Option (EB×EV):=
 match P.underlying s,x with
 | some (.struct fs),.ptr r off=>
  match fs[f]? with
  | some fd=>
   match C2 P fd.type with
   | some 0=>none
   | some _=>some (.lit true,.ptr r (G9 off (.lit fd.offset)))
   | none=>none
  | none=>none
 | _,_=>none
def Uh (P:Program) (t:TypeId) (x i:EV):Option (EB×EV):=
 match i with
 | .int _ i=>
  match P.underlying t,x with
  | some (.array len e),.ptr r off=>
   match C2 P e with
   | some z=>some (B6 (C9 .leq (.lit 0) i) (C9 .lss i (.lit len)),.ptr r (G9 (L3 (P8 i) z) off))
   | none=>none
  | some (.slice e),.slice _ r off len=>
   match C2 P e with
   | some z=>some (B6 (C9 .leq (.lit 0) i) (C9 .lss i (Ce len)),.ptr r (G9 (L3 (P8 i) z) off))
   | none=>none
  | _,_=>none
 | _=>none
def Bo (x:Option EV) (d:EI):Option EI:=
 match x with
 | none=>some d
 | some (.int _ i)=>some i
 | some _=>none
def Sy (P:Program) (t:TypeId) (x:EV) (lo hi:Option EV):Option (EB×EV):=
 match P.underlying t,x with
 | some (.slice e),.slice mb r off len=>
  match C2 P e,Bo lo (.lit 0),Bo hi (Ce len) with
  | some z,some l,some h=>some (B6 (C9 .leq (.lit 0) l) (B6 (C9 .leq l h) (C9 .leq h (Ce len))),.slice mb r (G9 (L3 (P8 l) z) off) (Yj (P8 h) (P8 l)))
  | _,_,_=>none
 | some (.slice e),.nils=>
  match C2 P e,Bo lo (.lit 0),Bo hi (.lit 0) with
  | some _,some l,some h=>some (B6 (C9 .leq (.lit 0) l) (B6 (C9 .leq l h) (C9 .leq h (.lit 0))),.nils)
  | _,_,_=>none
 | some .string,.str s=>
  match Bo lo (.lit 0),Bo hi (Ce (Au s)) with
  | some l,some h=>some (B6 (C9 .leq (.lit 0) l) (B6 (C9 .leq l h) (C9 .leq h (Ce (Au s)))),.str (.sub s (P8 l) (P8 h)))
  | _,_=>none
 | _,_=>none
def O2:EV→EL
 | .agg cs=>cs
 | v=>.of [v]
def No:EV→Bool
 | .undef=>false
 | _=>true
def Jt:EV→Bool
 | .undef | .agg _ | .tup _=>false
 | _=>true
def Dk:EL→EB
 | .of cs=>.lit (cs.all Jt)
 | .sub l o n=>.cells (.sub l o n)
 | l=>.cells l
def Ch (v:EV):EB:=
 match v with
 | .agg l=>Dk l
 | v=>.lit (Jt v)
def Ez (v:EV) (z:Nat):EB:=
 match v with
 | .agg l=>Ry (P9 l) (.lit z)
 | _=>.lit (Nat.beq 1 z)
def Gn (place:Nat→Option (Nat×Nat)) (cells:EL):List (Nat×EV)→Option (EB×EL)
 | []=>some (.lit true,cells)
 | (i,v)::rest=>
  match place i with
  | none=>none
  | some (off,size)=>
   match Gn place (Gc cells (.lit off) v) rest with
   | none=>none
   | some (c,r)=>match No v with
    | true=>some (B6 (Ez v size) (B6 (L4 (.lit (off+size)) (P9 cells)) c),r)
    | false=>none
def Bz (P:Program) (t:TypeId):Option EV:=
 match P.info? t with
 | some i=>match i.zero with
  | some z=>some (Zd z)
  | none=>none
 | none=>none
def Vh (P:Program) (t:TypeId) (parts:List (Nat×EV)):Option (EB×EV):=
 match P.underlying t,Bz P t with
 | some (.struct fs),some (.agg z)=>
  match Ae P fs.toList with
  | some ps=>
   match Gn (fun i=>ps[i]?) z parts with
   | some (c,cs)=>some (c,.agg cs)
   | none=>none
  | none=>none
 | some (.array _ e),some (.agg z)=>
  match C2 P e with
  | some n=>
   match Gn (fun i=>some (i*n,n)) z parts with
   | some (c,cs)=>some (c,.agg cs)
   | none=>none
  | none=>none
 | _,_=>none
def dP (P:Program) (t:TypeId) (x:EV):Option (EB×EV):=
 match P.underlying t,x with
 | some .string,.str s=>some (.lit true,.int .i64 (Ce (Au s)))
 | some (.array n _),_=>some (.lit true,.int .i64 (.lit n))
 | some (.slice _),.slice _ _ _ n=>some (.lit true,.int .i64 (Ce n))
 | some (.slice _),.nils=>some (.lit true,.int .i64 (.lit 0))
 | _,_=>none
def eI (P:Program) (t:TypeId) (x:EV):Option (EB×EV):=
 match P.underlying t,x with
 | some (.slice _),.nils=>some (.lit true,.int .i64 (.lit 0))
 | _,_=>none
def dO (x y:EV):Option (EB×EV):=
 match x,y with
 | .int k a,.int k' b=>if k=k' then some (.lit true,.int k (.mx a b)) else none
 | _,_=>none
def dN (x y:EV):Option (EB×EV):=
 match x,y with
 | .int k a,.int k' b=>if k=k' then some (.lit true,.int k (.mn a b)) else none
 | _,_=>none
def Yi (c a b:EV):Option (EB×EV):=
 match c with
 | .bool (.lit true)=>some (.lit true,a)
 | .bool (.lit false)=>some (.lit true,b)
 | _=>none
def Ic (x:EV):Option (EB×EV):=
 match x with
 | .ptr r o=>some (.lit true,.ptr r o)
 | .func f c=>some (.lit true,.func f c)
 | .slice m r o n=>some (.lit true,.slice m r o n)
 | _=>none
noncomputable def Rw (P:Program) (F:DFr) (op:Op):Option (EB×EV):=
 match op with
 | .move x=>some (.lit true,evD F x)
 | .assign x=>some (.lit true,evD F x)
 | .pick c a b=>Yi (evD F c) (evD F a) (evD F b)
 | .nilCheck x=>Ic (evD F x)
 | .binOp op t x y _=>eM P op t (evD F x) (evD F y)
 | .unOp op _ x=>unD op (evD F x)
 | .convert s d x=>Ze P s d (evD F x)
 | .fieldAddr s x f=>Uv P s (evD F x) f
 | .indexAddr t x i=>Uh P t (evD F x) (evD F i)
 | .slice t x lo hi none=>Sy P t (evD F x) (lo.map (evD F)) (hi.map (evD F))
 | .build t parts=>Vh P t (parts.toList.map fun p=>(p.1,evD F p.2))
 | .extract x i=>match evD F x with
  | .tup vs=>match vs[i]? with
   | some v=>some (.lit true,v)
   | none=>none
  | _=>none
 | .makeFunc (.func f) first cap=>if first.size=0 then some (.lit true,.func f (cap.toList.map (evD F))) else none
 | .call { callee:=.builtin .len,args,argTypes }=>
  match args.toList,argTypes.toList with
  | [x],[t]=>dP P t (evD F x)
  | _,_=>none
 | .call { callee:=.builtin .cap,args,argTypes }=>
  match args.toList,argTypes.toList with
  | [x],[t]=>eI P t (evD F x)
  | _,_=>none
 | .call { callee:=.builtin .max,args,.. }=>
  match args.toList with
  | [x,y]=>dO (evD F x) (evD F y)
  | _=>none
 | .call { callee:=.builtin .min,args,.. }=>
  match args.toList with
  | [x,y]=>dN (evD F x) (evD F y)
  | _=>none
 | _=>none
def Np (b:Mf):Bool:=Nat.beq b.esz 4294967291
def R7 (z:Nat):Nat→DHp→Nat→Option (List EV)
 | _,_,0=>some []
 | j,some ⟨z',.row l (.lit i)⟩::H,n+1=>match Nat.beq z z'&&Nat.beq i j with
  | true=>match R7 z (j+1) H n with
   | some ls=>some (.agg l::ls)
   | none=>none
  | false=>none
 | _,_,_+1=>none
def Ka (H:DHp) (b c:Nat):Option (Nat×EL×List EV):=
 match H.drop b with
 | some ⟨z,.row l (.lit _)⟩::_=>match Nat.beq z 4294967291 with
  | true=>none
  | false=>match R7 z 0 (H.drop b) c with
   | some ls=>some (z,l,ls)
   | none=>none
 | _=>none
def Jx (b c z:Nat) (l:EL):List DHop:=(List.range c).map fun j=>.set (b+j) ⟨z,.row l (.lit j)⟩
def Ap (H:DHp):ER→Option (EB×EL)
 | .rw i=>match H[i]? with
  | some (some b)=>match Np b with
   | true=>none
   | false=>some (.lit true,b.cells)
  | _=>none
 | .ro n=>some (.lit true,.ro n)
 | .fm b c k=>match Ka H b c with
  | some (_,l,ls)=>some (B6 (L4 (G9 k (.lit 1)) (.lit c)) (.rows l ls),.row l k)
  | none=>none
def Yn (l:Lf) (cs:EL) (off:EN):EV:=
 match l with
 | .int k=>.int k (.get cs off)
 | .bool=>.bool (.get cs off)
 | .str=>.str (.get cs off)
 | .sl=>.slice true (.ro (.rk cs off)) (.ro cs off) (.rn cs off)
def Fe (cs:EL):EN→List Lf→List EV
 | _,[]=>[]
 | off,l::ls=>Yn l cs off::Fe cs (G9 off (.lit 1)) ls
def Tj (P:Program) (t:TypeId) (cs:EL) (off:EN):Option (EB×EV):=
 match P.underlying t with
 | some (.int k)=>some (.isI k cs off,.int k (.get cs off))
 | some .bool=>some (.isB cs off,.bool (.get cs off))
 | some .string=>some (.isT cs off,.str (.get cs off))
 | some (.slice _)=>some (.isR cs off,.slice true (.ro (.rk cs off)) (.ro cs off) (.rn cs off))
 | some (.struct _)=>match C2 P t,Js P 10 t with
  | some z,some ls=>match Nat.beq ls.length z with
   | true=>some (.leaf cs off ls,.agg (.of (Fe cs off ls)))
   | false=>none
  | _,_=>none
 | some (.array _ _)=>match C2 P t,Js P 10 t with
  | some z,some ls=>match Nat.beq ls.length z with
   | true=>some (.leaf cs off ls,.agg (.of (Fe cs off ls)))
   | false=>none
  | _,_=>none
 | _=>none
def aS (P:Program) (r:ER) (t:TypeId) (cs:EL) (off:EN):Option (EB×EV):=
 match r with
 | .rw _=>V5 P t cs off
 | .ro _=>Tj P t cs off
 | .fm _ _ _=>V5 P t cs off
def Sa (P:Program) (H:DHp) (t:TypeId) (r:ER) (off:EN):Option (EB×EV):=
 match Ap H r with
 | some (c0,cs)=>match aS P r t cs off with
  | some (c,v)=>some (B6 c0 c,v)
  | none=>none
 | none=>none
def Ys (cs:List AV) (o:Nat):Bool:=match cs[o]? with | some (.slice true (.ro _) _ _)=>true | _=>false
def isRXU:List AV→Bool:=fun vs=>match vs with
 | [.agg cs,.int _ o]=>Ys cs o.toNat
 | _=>false
inductive FL where
 | int (k:IntKind)
 | bool
 | sl (b c:Nat)
def fE (rec:TypeId→Option (List FL)):Nat→List Field→Option (List FL)
 | _,[]=>some []
 | acc,f::fs=>
  match Nat.beq f.offset acc with
  | true=>match rec f.type with
   | some a=>match fE rec (acc+a.length) fs with
    | some b=>some (a++b)
    | none=>none
   | none=>none
  | false=>none
def fD (P:Program) (fam:TypeId→Option (Nat×Nat)):Nat→TypeId→Option (List FL)
 | 0,_=>none
 | n+1,t=>
  match P.underlying t with
  | some (.int k)=>some [.int k]
  | some .bool=>some [.bool]
  | some (.slice _)=>match fam t with
   | some (b,c)=>some [.sl b c]
   | none=>none
  | some (.struct fs)=>fE (fD P fam n) 0 fs.toList
  | _=>none
def Jz (l:EL) (o:EN):FL→EV
 | .int k=>.int k (.get l o)
 | .bool=>.bool (.get l o)
 | .sl b c=>match c with
  | 0=>.slice true (.ro (.rk l o)) (.ro l o) (.rn l o)
  | _=>.slice true (.fm b c (.fk b l o)) (.fo l o) (.fn l o)
def Jy (l:EL) (o:EN):FL→EB
 | .int k=>.isI k l o
 | .bool=>.isB l o
 | .sl b c=>match c with
  | 0=>.uf 1099 isRXU [.agg l,.int .i64 (.ofN o)]
  | _=>.isF b c l o
def Nw (l:EL):EN→List FL→List EV
 | _,[]=>[]
 | o,f::fs=>Jz l o f::Nw l (G9 o (.lit 1)) fs
def Sc (l:EL):EN→List FL→EB
 | _,[]=>.lit true
 | o,f::fs=>B6 (Jy l o f) (Sc l (G9 o (.lit 1)) fs)
inductive FamR where
 | val (c:EB) (v:EV)
 | ptr (n c:EB) (v:EV)
def Uw (fam:TypeId→Option (Nat×Nat)) (P:Program) (t:TypeId) (cs:EL) (off:EN):Option FamR:=
 match fam t with
 | none=>none
 | some (b,c)=>match P.underlying t with
  | some (.struct _)=>match Yt cs with
   | true=>none
   | false=>match C2 P t,fD P fam 10 t with
    | some z,some ls=>match Nat.beq ls.length z&&Nat.ble 1 z with
     | true=>some (.val (Sc cs off ls) (.agg (.of (Nw cs off ls))))
     | false=>none
    | _,_=>none
  | some (.slice _)=>match V5 P t cs off with
   | some _=>none
   | none=>some (.val (Jy cs off (.sl b c)) (Jz cs off (.sl b c)))
  | some (.pointer _)=>match V5 P t cs off with
   | some _=>none
   | none=>some (.ptr (.isNil cs off) (.isP b c cs off) (.ptr (.fm b c (.fk b cs off)) (.fo cs off)))
  | _=>none
noncomputable def Uy (fam:TypeId→Option (Nat×Nat)) (P:Program) (F:DFr) (H:DHp) (op:Op):Option (EB×FamR):=
 match op with
 | .load t a=>match evD F a with
  | .ptr r off=>match r with
   | .ro _=>none
   | r=>match Ap H r with
    | some (c0,cs)=>match Uw fam P t cs off with
     | some x=>some (c0,x)
     | none=>none
    | none=>none
  | _=>none
 | .field t x f=>
  match P.underlying t,evD F x with
  | some (.struct fs),.agg cs=>match fs[f]? with
   | some fd=>match Uw fam P fd.type cs (.lit fd.offset) with
    | some x=>some (.lit true,x)
    | none=>none
   | none=>none
  | _,_=>none
 | .index t x i=>
  match P.underlying t,evD F x,evD F i with
  | some (.array len e),.agg cs,.int _ i=>match C2 P e with
   | some z=>match Uw fam P e cs (L3 (P8 i) z) with
    | some x=>some (B6 (C9 .leq (.lit 0) i) (C9 .lss i (.lit len)),x)
    | none=>none
   | none=>none
  | _,_,_=>none
 | _=>none
def Po (fs:Facts) (o:EB×FamR) (k:Facts→EV→T):T:=
 match o with
 | (c0,.val c v)=>U9 c0 (U9 c (k fs v))
 | (c0,.ptr n c v)=>U9 c0 (P4 fs n (fun fs=>k fs .nilp) (fun fs=>U9 c (k fs v)))
def aE (cs:EL) (off n:EN):EB×EV:=
 (B6 (L4 (G9 off n) (P9 cs)) (.u8s (Y2 cs off n)),.str (.ofL (Y2 cs off n)))
noncomputable def Rv (P:Program) (F:DFr) (H:DHp) (op:Op):Option (EB×EV):=
 match op with
 | .load t a=>match evD F a with
  | .ptr r off=>Sa P H t r off
  | _=>none
 | .field t x f=>
  match P.underlying t,evD F x with
  | some (.struct fs),.agg cs=>match fs[f]? with
   | some fd=>V5 P fd.type cs (.lit fd.offset)
   | none=>none
  | _,_=>none
 | .index t x i=>
  match P.underlying t,evD F x,evD F i with
  | some (.array len e),.agg cs,.int _ i=>match C2 P e with
   | some z=>match V5 P e cs (L3 (P8 i) z) with
    | some (c,v)=>some (B6 (C9 .leq (.lit 0) i) (B6 (C9 .lss i (.lit len)) c),v)
    | none=>none
   | none=>none
  | _,_,_=>none
 | .convert s d x=>
  match L7 P s&&N5 P d,evD F x with
  | true,.nils=>some (.lit true,.str (.lit []))
  | true,.slice _ r off n=>match Ap H r with
   | some (c0,cs)=>match aE cs off n with
    | (c,v)=>some (B6 c0 c,v)
   | none=>none
  | _,_=>none
 | _=>none
noncomputable def Ji (F:DFr) (op:Op):Option ER:=
 match op with
 | .load _ a=>match evD F a with
  | .ptr r _=>some r
  | _=>none
 | .convert _ _ x=>match evD F x with
  | .slice _ r _ _=>some r
  | _=>none
 | _=>none
def K4 (H:DHp):ER:=.rw H.length
def cW (H:DHp) (z:Nat) (x:EV):Option (EB×EN×EL):=
 match x with
 | .nils=>some (.lit true,.lit 0,.of [])
 | .slice _ r off m=>match Ap H r with
  | some (c0,cs)=>some (B6 c0 (B6 (L4 (G9 off (L3 m z)) (P9 cs)) (Dk (Y2 cs off (L3 m z)))),m,Y2 cs off (L3 m z))
  | none=>none
 | .str s=>match Nat.beq z 1 with
  | true=>some (.lit true,Au s,Jr s)
  | false=>none
 | _=>none
def Gf (z:Option EV) (n:Nat):Bool:=match z with
 | some v=>match O2 v with
  | .of cs=>Nat.beq cs.length n
  | _=>false
 | none=>false
def Ki (P:Program) (H:DHp) (t:TypeId) (s x:EV):Option (EB×EV×DHop):=
 match P.underlying t with
 | some (.slice e)=>
  match P.info? e,Bz P e with
  | some i,some zv=>
   match U7 i.size&&(Nat.ble 1 i.bytes&&Gf (some zv) i.size) with
   | false=>none
   | true=>
   match cW H i.size x with
   | some (c,m,xs)=>
    match s with
    | .nils=>some (B6 c (L4 (L3 m i.bytes) (.lit 140737488355328)),.slice true (K4 H) (.lit 0) m,.new ⟨i.size,xs⟩)
    | .slice mb (.rw j) (.lit 0) (.lit 0)=>
     match H[j]? with
     | some (some b)=>match Nat.beq b.esz i.size with
      | true=>some (B6 c (L4 (L3 m i.bytes) (.lit 140737488355328)),.slice mb (K4 H) (.lit 0) m,.app j ⟨i.size,xs⟩)
      | false=>none
     | _=>none
    | .slice mb (.rw j) (.lit 0) (.mul n 1)=>
     match H[j]? with
     | some (some b)=>match Nat.beq b.esz i.size with
      | true=>some (B6 c (B6 (L4 (L3 (G9 n m) i.bytes) (.lit 140737488355328)) (L4 (L3 n i.size) (P9 b.cells))),.slice mb (K4 H) (.lit 0) (G9 n m),.app j ⟨i.size,Ni (Y2 b.cells (.lit 0) (L3 n i.size)) xs⟩)
      | false=>none
     | _=>none
    | .slice mb (.rw j) (.lit 0) n=>
     match H[j]? with
     | some (some b)=>match Nat.beq b.esz i.size with
      | true=>some (B6 c (B6 (L4 (L3 (G9 n m) i.bytes) (.lit 140737488355328)) (Ry (P9 b.cells) (L3 n i.size))),.slice mb (K4 H) (.lit 0) (G9 n m),.app j ⟨i.size,Ni b.cells xs⟩)
      | false=>none
     | _=>none
    | _=>none
   | none=>none
  | _,_=>none
 | _=>none
def Jq (l:EL) (o:EN) (v:EV) (z:Nat):EL:=
 match v with
 | .agg d=>match Yt d,l,o with
  | false,.of cs,.lit 0=>match Nat.beq cs.length z with
   | true=>d
   | false=>Gc l o v
  | _,_,_=>Gc l o v
 | v=>Gc l o v
def Zk (z:Nat) (as:List AV):Int:=match as with
 | [.int _ n]=>n*z
 | _=>0
def Dj (P:Program) (H:DHp) (t:TypeId) (s x:EV):Option (EB×EV×DHop):=
 match P.underlying t,s,x with
 | some (.slice e),.nils,.int .i64 n=>
  match P.info? e,Bz P e with
  | some i,some zv=>match U7 i.size&&(Nat.ble 1 i.bytes&&(Gf (some zv) i.size&&Nat.ble 1 i.size)) with
   | true=>some (B6 (C9 .leq (.lit 0) n) (C9 .leq (mkBigD n i.bytes) (.lit 140737488355328)),.slice true (K4 H) (.lit 0) (P8 n),.new ⟨i.size,Ng (P8 n) (O2 zv)⟩)
   | false=>none
  | _,_=>none
 | _,_,_=>none
where
 mkBigD (c:EI) (z:Nat):EI:=match c with
  | .lit n=>.lit (n*z)
  | c=>.uf (300000+z) (Zk z) [.int .i64 c]
def Ve (P:Program) (H:DHp) (t:TypeId) (x:EV):Option (EB×EV×DHop):=
 match P.underlying t,x with
 | some (.slice e),.slice _ (.rw j) off n=>
  match C2 P e,Bz P e,H[j]? with
  | some z,some zv,some (some b)=>match Np b||!(Gf (some zv) z&&Nat.ble 1 z) with
   | true=>none
   | false=>some (B6 (L4 (.lit 1) n) (B6 (Dk (O2 zv)) (L4 (G9 off (L3 n z)) (P9 b.cells))),.tup [],.set j ⟨b.esz,Gc b.cells off (.agg (Ng n (O2 zv)))⟩)
  | _,_,_=>none
 | _,_=>none
noncomputable def Et (P:Program) (F:DFr) (H:DHp) (op:Op):Option (EB×EV×DHop):=
 match op with
 | .store t a x=>
  match evD F a,C2 P t with
  | .ptr (.rw i) off,some z=>match H[i]? with
   | some (some b)=>match Np b with
    | true=>none
    | false=>some (B6 (Ch (evD F x)) (B6 (Ez (evD F x) z) (L4 (G9 off (.lit z)) (P9 b.cells))),.tup [],.set i ⟨b.esz,Jq b.cells off (evD F x) z⟩)
   | _=>none
  | _,_=>none
 | .alloc e=>match Bz P e with
  | some z=>some (.lit true,.ptr (K4 H) (.lit 0),.new ⟨1,O2 z⟩)
  | none=>none
 | .box _ x=>match No (evD F x) with
  | true=>some (.lit true,.ptr (K4 H) (.lit 0),.new ⟨1,O2 (evD F x)⟩)
  | false=>none
 | .buildSlice t n parts=>
  match P.underlying t with
  | some (.slice e)=>match C2 P e,Bz P e with
   | some z,some zv=>
    match O2 zv with
    | .of cs=>
     match U7 z&&(Nat.ble (n*z) 16777216&&Nat.beq cs.length z) with
     | true=>match Gn (fun i=>some (i*z,z)) (.of ((List.replicate n cs).flatten)) (parts.toList.map fun p=>(p.1,evD F p.2)) with
      | some (c,cs)=>some (c,.slice false (K4 H) (.lit 0) (.lit n),.new ⟨z,cs⟩)
      | none=>none
     | false=>none
    | _=>none
   | _,_=>none
  | _=>none
 | .makeSlice t l c=>
  match P.underlying t,evD F l,evD F c with
  | some (.slice e),.int _ l,.int _ c=>match P.info? e,Bz P e with
   | some i,some zv=>match U7 i.size&&(Gf (some zv) i.size&&Nat.ble 1 i.size) with
    | true=>some (B6 (C9 .leq (.lit 0) l) (B6 (C9 .leq l c) (B6 (C9 .leq (mkBig c i.bytes) (.lit 140737488355328)) (C9 .leq c (.lit 140737488355328)))),.slice false (K4 H) (.lit 0) (P8 l),.new ⟨i.size,Ng (P8 l) (O2 zv)⟩)
    | false=>none
   | _,_=>none
  | _,_,_=>none
 | .convert s d x=>
  match N5 P s&&L7 P d,evD F x with
  | true,.str s=>some (L4 (Au s) (.lit 140737488355328),.slice false (K4 H) (.lit 0) (Au s),.new ⟨1,Jr s⟩)
  | false,.slice mb (.rw i) off n=>match L7 P s&&Nat.beq s d with
   | true=>match H[i]? with
    | some (some b)=>match Np b with
     | true=>none
     | false=>some (L4 (.lit 1) n,.slice mb (.rw i) off n,.set i b)
    | _=>none
   | false=>none
  | _,_=>none
 | .call { callee:=.builtin .append,args,argTypes }=>
  match args.toList,argTypes.toList with
  | [s,x],[t,u]=>match P.underlying u with
   | some (.slice _)=>Ki P H t (evD F s) (evD F x)
   | some .string=>Ki P H t (evD F s) (evD F x)
   | some (.int _)=>Dj P H t (evD F s) (evD F x)
   | _=>none
  | _,_=>none
 | .call { callee:=.builtin .clear,args,argTypes }=>
  match args.toList,argTypes.toList with
  | [x],[t]=>Ve P H t (evD F x)
  | _,_=>none
 | _=>none
where
 mkBig (c:EI) (z:Nat):EI:=match c with
  | .lit n=>.lit (n*z)
  | c=>.uf (300000+z) (Zk z) [.int .i64 c]
noncomputable def Ol (P:Program) (F:DFr) (H:DHp) (op:Op):Option (EB×List DHop):=
 match op with
 | .store t a x=>
  match evD F a,C2 P t with
  | .ptr (.fm b c k) off,some z=>match Ka H b c with
   | some (z0,l,ls)=>some (B6 (L4 (G9 k (.lit 1)) (.lit c)) (B6 (.rows l ls) (B6 (L4 (G9 k (.lit 1)) (.len l)) (B6 (Ch (evD F x)) (B6 (Ez (evD F x) z) (L4 (G9 off (.lit z)) (P9 (.row l k))))))),Jx b c z0 (.put l k (Jq (.row l k) off (evD F x) z)))
   | none=>none
  | _,_=>none
 | _=>none
noncomputable def Kh (F:DFr) (op:Op):Option (FuncId×List EV):=
 match op with
 | .call { callee:=.value f,args,.. }=>match evD F f with
  | .func g cap=>some (g,args.toList.map (evD F)++cap)
  | _=>none
 | _=>none
noncomputable def Ok (F:DFr) (op:Op):Option (Nat×List EV):=
 match op with
 | .call { callee:=.value f,args,.. }=>match evD F f with
  | .yld i=>some (i,args.toList.map (evD F))
  | _=>none
 | _=>none
noncomputable def Ow (P:Program) (F:DFr) (H:DHp):ResultVar→Option (EB×EV)
 | .tmp t=>some (.lit true,Gl F t)
 | .cell a t=>match Gl F a with
  | .ptr r off=>Sa P H t r off
  | _=>none
noncomputable def Fc (P:Program) (F:DFr) (H:DHp):List ResultVar→Option (EB×List EV)
 | []=>some (.lit true,[])
 | x::xs=>match Ow P F H x with
  | some (c,v)=>match Fc P F H xs with
   | some (d,r)=>some (B6 c d,v::r)
   | none=>none
  | none=>none
noncomputable def dE (P:Program) (fn:Func) (F:DFr) (H:DHp):Option (EB×EV):=
 match Fc P F H fn.results.toList with
 | some (c,[v])=>some (c,v)
 | some (c,vs)=>some (c,.tup vs)
 | none=>none
inductive DTrK where
 | still
 | read (r:ER)
 | write
structure Oi where
 kd:DTrK
 len:Nat
 hs:List DHop
def Ev (i:Nat) (len:Nat):List DHop→Bool
 | []=>false
 | .set j _::hs=>j==i||Ev i len hs
 | .new _::hs=>len==i||Ev i (len+1) hs
 | .app j _::hs=>j==i||(len==i||Ev i (len+1) hs)
def Eu (r:ER) (len:Nat) (hs:List DHop):Bool:=
 match r with
 | .rw i=>Ev i len hs
 | .ro _=>false
 | .fm _ _ _=>true
def Qb (x y:Oi):Bool:=
 match x.kd,y.kd with
 | .write,.write=>false
 | .write,.read r=>!Eu r x.len x.hs
 | .read r,.write=>!Eu r y.len y.hs
 | _,_=>true
def Pw (all:List Oper) (trs:List Oi):Bool:=
 let ms:=O5 all []
 Fj 0 all&&(List.range all.length).all fun j=>(List.range j).all fun i=>
  (ms.getD j 0).testBit i ||
  (match all[i]?,all[j]?,trs[i]?,trs[j]? with
   | some x,some y,some a,some b=>Z2 all x y&&Qb a b
   | _,_,_,_=>false)
def R0:Bool→Nat→DHp→Option (List DHop)
 | false,_,[]=>some []
 | true,_,[]=>none
 | false,i,some b::H'=>match R0 false (i+1) H' with
  | some hs=>some (.new b::hs)
  | none=>none
 | true,i,some b::H'=>match R0 false (i+1) H' with
  | some hs=>some (.app (i - 1) b::hs)
  | none=>none
 | false,i,none::H'=>match R0 true (i+1) H' with
  | some hs=>some (.new ⟨0,.of []⟩::hs)
  | none=>none
 | true,i,none::H'=>match R0 true (i+1) H' with
  | some hs=>some (.app (i - 1) ⟨0,.of []⟩::hs)
  | none=>none
def Az:Nat→DHp→DHp→Option (List DHop)
 | i,[],H'=>R0 false i H'
 | i,_::H,some b::H'=>match Az (i+1) H H' with
  | some hs=>some (.set i b::hs)
  | none=>none
 | i,none::H,none::H'=>Az (i+1) H H'
 | _,_,_=>none
inductive DWk where
 | code (c:Code)
 | ops (all l:List Oper)
 | dr (all l:List Oper) (trs:List Oi)
structure DCfg where
 P:Program
 inl:FuncId→Bool
 sum:FuncId→List EV→DHp→Option Outs
 loop:Code→DFr→DHp→Option LOut
 M:Nat
 rng:Code→DFr→DHp→Option LOut:=fun _ _ _=>none
 ysum:Nat→List EV→DHp→Option Outs:=fun _ _ _=>none
 /-- which types' slices and pointers lie in which family (where it begins,how many rows it Qw);which structs are to be read field by field -/
 fam:TypeId→Option (Nat×Nat):=fun _=>none
abbrev DK:=Ex→DFr→DHp→Facts→T
abbrev DRec:=Nat→DWk→DFr→DHp→Facts→DK→T
def R9 (K:DCfg) (rec:Code→Bool) (o:Oper):Bool:=
 match kdOf K.P o.op with
 | .pure=>true
 | .read=>true
 | .write=>false
 | .call=>match o.op with
  | .call { callee:=.value (.func g),.. }=>K.inl g&&(match K.P.funcs[g]? with
   | some fn=>match fn.body with
    | some c=>rec c
    | none=>true
   | none=>true)
  | _=>false
def J2 (K:DCfg) (rec:Code→Bool):Code→Bool
 | .skip=>true
 | .region _ ops _=>ops.toList.all (R9 K rec)
 | .seq a b=>J2 K rec a&&J2 K rec b
 | .cond _ a b=>J2 K rec a&&J2 K rec b
 | .block _ c=>J2 K rec c
 | .loop _=>false
 | .exit _=>true
 | .scope c=>J2 K rec c
 | .label _=>true
 | .ret=>true
 | _=>false
def H7 (K:DCfg):Nat→Code→Bool
 | 0,_=>false
 | d+1,c=>J2 K (H7 K d) c
def Bm (fn:Func) (args:List EV):DFr:=args++List.replicate (fn.ntmps - args.length) (.tup [])
noncomputable def E9 (F:DFr) (d:Option Tmp) (v:EV):DFr:=
 match d with
 | some d=>Yd F d v
 | none=>F
noncomputable def Hq (P:Program) (fn:Func) (Q:EV→DHp→Facts→T) (e:Ex) (F:DFr) (H:DHp) (fs:Facts):T:=
 match e with
 | .exit _=>.fail
 | _=>Nc (dE P fn F H) fun v=>Q v H fs
def T0 (fs:Facts) (o:Outs) (k:Facts→EV→List DHop→T):T:=
 match o with
 | .one v hs=>k fs v hs
 | .chk b x=>U9 b (T0 fs x k)
 | .tst b x y=>P4 fs b (fun fs=>T0 fs x k) (fun fs=>T0 fs y k)
 | .namI e f=>.namI fs.n e fun x=>T0 (fresh fs) (f (.var fs.n x)) k
 | .namN e f=>.namN fs.n e fun x=>T0 (fresh fs) (f (.var fs.n x)) k
 | .namB e f=>.namB fs.n e fun x=>T0 (fresh fs) (f (.var fs.n x)) k
 | .namL e f=>.namL fs.n e fun x=>T0 (fresh fs) (f (.var fs.n x)) k
def N4 (fs:Facts) (o:LOut) (k:Facts→Ex→DFr→DHp→T):T:=
 match o with
 | .one e F H=>k fs e F H
 | .chk b x=>U9 b (N4 fs x k)
 | .tst b x y=>P4 fs b (fun fs=>N4 fs x k) (fun fs=>N4 fs y k)
 | .imp b x=>.imp b (N4 (Ax fs b true) x k)
 | .allI f=>.allI fs.n fun x=>N4 (fresh fs) (f (.var fs.n x)) k
 | .allN f=>.allN fs.n fun x=>N4 (fresh fs) (f (.var fs.n x)) k
 | .allB f=>.allB fs.n fun x=>N4 (fresh fs) (f (.var fs.n x)) k
 | .allL f=>.allL fs.n fun x=>N4 (fresh fs) (f (.var fs.n x)) k
 | .namI e f=>.namI fs.n e fun x=>N4 (fresh fs) (f (.var fs.n x)) k
 | .namN e f=>.namN fs.n e fun x=>N4 (fresh fs) (f (.var fs.n x)) k
 | .namB e f=>.namB fs.n e fun x=>N4 (fresh fs) (f (.var fs.n x)) k
 | .namL e f=>.namL fs.n e fun x=>N4 (fresh fs) (f (.var fs.n x)) k
def D3 (ro:Bool) (H:DHp):T→Option Outs
 | .ret v H'=>match ro with
  | true=>some (.one v [])
  | false=>match Az 0 H H' with
   | some hs=>some (.one v hs)
   | none=>none
 | .chk b t=>match D3 ro H t with
  | some o=>some (.chk b o)
  | none=>none
 | .tst b x y=>match D3 ro H x,D3 ro H y with
  | some o,some p=>some (.tst b o p)
  | _,_=>none
 | _=>none
noncomputable def Ot (K:DCfg) (rec:DRec) (m:Nat) (all l:List Oper) (dst:Option Tmp) (op:Op) (F:DFr) (H:DHp) (fs:Facts) (Q:DK):T:=
 match kdOf K.P op with
 | .pure=>Nc (Rw K.P F op) fun v=>rec m (.ops all l) (E9 F dst v) H fs Q
 | .read=>match Uy K.fam K.P F H op with
  | some o=>Po fs o fun fs v=>rec m (.ops all l) (E9 F dst v) H fs Q
  | none=>Nc (Rv K.P F H op) fun v=>rec m (.ops all l) (E9 F dst v) H fs Q
 | .write=>match Et K.P F H op with
  | some (c,v,h)=>U9 c (rec m (.ops all l) (E9 F dst v) (h.act H) fs Q)
  | none=>match Ol K.P F H op with
   | some (c,hs)=>U9 c (rec m (.ops all l) (E9 F dst (.tup [])) (Ba H hs) fs Q)
   | none=>.fail
 | .call=>match Kh F op with
  | some (f,args)=>match K.inl f with
   | true=>match K.P.funcs[f]? with
    | some fn=>match fn.body with
     | some c => match fn.name == "runtime.NumGoroutine" with
      | true=>.fail
      | false=>rec H.length (.code c) (Bm fn args) H fs (Hq K.P fn fun v H' fs=>rec m (.ops all l) (E9 F dst v) H' fs Q)
     | none=>.fail
    | none=>.fail
   | false=>match K.sum f args H with
    | some o=>T0 fs o fun fs v hs=>rec m (.ops all l) (E9 F dst v) (Ba H hs) fs Q
    | none=>.fail
  | none=>match Ok F op with
   | some (i,args)=>match K.ysum i args H with
    | some o=>T0 fs o fun fs v hs=>rec m (.ops all l) (E9 F dst v) (Ba H hs) fs Q
    | none=>.fail
   | none=>.fail
noncomputable def Fh (fs:Facts) (all:List Oper) (guard:Option (Nat×Bool)) (F:DFr) (go skip:DFr→Facts→T):T:=
 match guard with
 | none=>go F fs
 | some (j,want)=>
  match (all[j]?).bind (·.dst) with
  | some t=>
   match Gl F t with
   | .bool b=>P4 fs b
     (fun fs=>match want with | true=>go (E9 F (some t) (.bool (.lit true))) fs | false=>skip (E9 F (some t) (.bool (.lit true))) fs)
     (fun fs=>match want with | true=>skip (E9 F (some t) (.bool (.lit false))) fs | false=>go (E9 F (some t) (.bool (.lit false))) fs)
   | .tup []=>skip F fs
   | _=>.fail
  | none=>.fail
noncomputable def Cx (K:DCfg) (rec:DRec) (m:Nat) (all l:List Oper) (F:DFr) (H:DHp) (fs:Facts) (Q:DK):T:=
 match l with
 | []=>Q .normal F H fs
 | ⟨dst,op,_,_,_,guard⟩::l=>
  Fh fs all guard F (fun F fs=>Ot K rec m all l dst op F H fs Q) (fun F fs=>rec m (.ops all l) (E9 F dst (.tup [])) H fs Q)
noncomputable def Hj (K:DCfg) (rec:DRec) (m:Nat) (all l:List Oper) (trs:List Oi) (dst:Option Tmp) (op:Op) (F:DFr) (H:DHp) (fs:Facts) (Q:DK):T:=
  match kdOf K.P op with
  | .pure=>Nc (Rw K.P F op) fun v=>rec m (.dr all l (trs++[⟨.still,H.length,[]⟩])) (E9 F dst v) H fs Q
  | .read=>match Uy K.fam K.P F H op with
    | some o=>Po fs o fun fs v=>rec m (.dr all l (trs++[⟨(match Ji F op with | some r=>.read r | none=>.still),H.length,[]⟩])) (E9 F dst v) H fs Q
    | none => Nc  (Rv    K.P F H op) fun v => rec m (.dr all l (trs ++ [⟨(match Ji    F op with | some r => .read r | none => .still), H.length, []⟩])) (E9   F dst v) H fs Q
  | .write => match Et     K.P F H op with
    | some (c,v,h)=>U9 c (rec m (.dr all l (trs++[⟨.write,H.length,[h]⟩])) (E9 F dst v) (h.act H) fs Q)
    | none => .fail
  | .call=>match Kh F op with
    | some (f,args)=>match K.inl f with
      | true=>match K.P.funcs[f]? with
        | some fn=>match fn.body with
          | some c => match fn.name == "runtime.NumGoroutine" with
            | true=>.fail
            | false=>match D3 (H7 K 20 c) H (rec H.length (.code c) (Bm fn args) H fs (Hq K.P fn fun v H' _=>.ret v H')) with
              | some o=>T0 fs o fun fs v hs=>rec m (.dr all l (trs++[⟨.write,H.length,hs⟩])) (E9 F dst v) (Ba H hs) fs Q
              | none=>.fail
          | none=>.fail
        | none=>.fail
      | false=>match K.sum f args H with
        | some o=>T0 fs o fun fs v hs=>rec m (.dr all l (trs++[⟨.write,H.length,hs⟩])) (E9 F dst v) (Ba H hs) fs Q
        | none=>.fail
    | none=>match Ok F op with
      | some (i,args)=>match K.ysum i args H with
        | some o=>T0 fs o fun fs v hs=>rec m (.dr all l (trs++[⟨.write,H.length,hs⟩])) (E9 F dst v) (Ba H hs) fs Q
        | none=>.fail
      | none=>.fail
noncomputable def Ab (K:DCfg) (rec:DRec) (m:Nat) (all l:List Oper) (trs:List Oi) (F:DFr) (H:DHp) (fs:Facts) (Q:DK):T:=
 match l with
 | []=>match Pw all trs with
  | true=>Q .normal F H fs
  | false=>.fail
 | ⟨dst,op,_,_,_,guard⟩::l=>
  Fh fs all guard F (fun F fs=>Hj K rec m all l trs dst op F H fs Q) (fun F fs=>rec m (.dr all l (trs++[⟨.still,H.length,[]⟩])) (E9 F dst (.tup [])) H fs Q)
noncomputable def Hk (_K:DCfg) (rec:DRec) (m:Nat) (c:Operand) (x y:Code) (F:DFr) (H:DHp) (fs:Facts) (Q:DK):T:=
 match c with
 | .tmp t=>match Gl F t with
  | .bool b=>P4 fs b (fun fs=>rec m (.code x) (E9 F (some t) (.bool (.lit true))) H fs Q) (fun fs=>rec m (.code y) (E9 F (some t) (.bool (.lit false))) H fs Q)
  | _=>.fail
 | .const (.bool b)=>match b with
  | true=>rec m (.code x) F H fs Q
  | false=>rec m (.code y) F H fs Q
 | _=>.fail
def Xz (rec:DRec) (m:Nat) (b:Code) (Q:DK):DK:=fun e F H fs=>match e with
 | .normal=>rec m (.code b) F H fs Q
 | e=>Q e F H fs
def Od (id:Nat) (Q:DK):DK:=fun e F H fs=>match e with
 | .exit i=>match i==id with
  | true=>Q .normal F H fs
  | false=>Q (.exit i) F H fs
 | e=>Q e F H fs
noncomputable def S7 (K:DCfg) (rec:DRec) (m:Nat) (c:Code) (F:DFr) (H:DHp) (fs:Facts) (Q:DK):T:=
 match c with
 | .skip=>Q .normal F H fs
 | .region _ ops draw=>match draw with
  | true=>rec m (.dr ops.toList ops.toList []) F H fs Q
  | false=>rec m (.ops ops.toList ops.toList) F H fs Q
 | .seq a b=>rec m (.code a) F H fs (Xz rec m b Q)
 | .cond c x y=>Hk K rec m c x y F H fs Q
 | .block id c=>rec m (.code c) F H fs (Od id Q)
 | .loop c=>match Nat.ble m K.M with
  | true=>match K.loop c F H with
   | some o=>N4 fs o fun fs e F H=>Q e F H fs
   | none=>.fail
  | false=>.fail
 | .rangeFunc g ps as bd=>match Nat.ble m K.M with
  | true=>match K.rng (.rangeFunc g ps as bd) F H with
   | some o=>N4 fs o fun fs e F H=>Q e F H fs
   | none=>.fail
  | false=>.fail
 | .exit id=>Q (.exit id) F H fs
 | .scope c=>rec m (.code c) F H fs Q
 | .label _=>Q .normal F H fs
 | .ret=>Q .ret F H fs
 | _=>.fail
noncomputable def fR (K:DCfg) (rec:DRec) (m:Nat) (w:DWk) (F:DFr) (H:DHp) (fs:Facts) (Q:DK):T:=
 match w with
 | .ops all l=>Cx K rec m all l F H fs Q
 | .dr all l trs=>Ab K rec m all l trs F H fs Q
 | .code c=>S7 K rec m c F H fs Q
noncomputable def dx (K:DCfg):Nat→DRec
 | 0=>fun _ _ _ _ _ _=>.fail
 | n+1=>fR K (dx K n)
end Go.Am
namespace Go.Am
variable {G:Nat→List AV}
theorem I6 (l:List EV):vVs G l=l.map (vV G):=by
 induction l with
 | nil=>rfl
 | cons x l ih=>simp only [vVs,ih,List.map_cons]
theorem P3 (l:List EV):(vVs G l).length=l.length:=by rw [I6,List.length_map]
theorem On (l:List EV) (n:Nat):(vVs G l)[n]?=(l[n]?).map (vV G):=by rw [I6,List.getElem?_map]
theorem Fq (l m:List EV):vVs G (l++m)=vVs G l++vVs G m:=by simp only [I6,List.map_append]
theorem S1 (F:List EV) (t:Nat):(vVs G F).getD t .undef=vV G (F.getD t .undef):=by
 simp only [List.getD,On];cases F[t]?<;>simp [vV]
theorem Wi (F:List EV) (t:Nat) (v:EV):vVs G (F.set t v)=(vVs G F).set t (vV G v):=by simp only [I6,List.map_set]
theorem Kz (a b:EB):vB G (B6 a b)=(vB G a&&vB G b):=by
 unfold B6;split
 ·simp [vB]
 ·simp [vB]
 ·split
  ·simp [vB]
  ·simp [vB]
  ·simp [vB]
theorem S6 (a:EB):vB G (V7 a)=!(vB G a):=by
 unfold V7;split<;>simp [vB]
theorem So (a b:EB):vB G (Rz a b)=(vB G a==vB G b):=by
 unfold Rz;split<;>simp [vB,S6]
theorem M0 (o:BinOp) (a b:EI):vB G (C9 o a b)=Ly o (vI G a) (vI G b):=by
 unfold C9;split<;>simp [vB,vI]
theorem Fs (o:BinOp) (k:IntKind) (a b:EI):vI G (U2 o k a b)=Lz o k (vI G a) (vI G b):=by
 unfold U2;split<;>simp [vI]
theorem aB (k:IntKind) (a:EI):vI G (Tu k a)=k.wrap (vI G a):=by
 unfold Tu;split<;>simp [vI]
theorem cO (k:IntKind) (a:EI):vI G (Yk k a)=k.wrap (0 - vI G a):=by
 unfold Yk;split<;>simp [vI]
theorem cP (k:IntKind) (a:EI):vI G (Yl k a)=Ud k (vI G a):=by
 unfold Yl;split<;>simp [vI]
theorem V8 (n:EN):vI G (Ce n)=(vN G n:Int):=by
 unfold Ce;split<;>simp [vI,vN]
theorem S3 (n:EI):vN G (P8 n)=(vI G n).toNat:=by
 unfold P8;split<;>simp [vI,vN]
theorem E6 (a b:EN):vN G (G9 a b)=vN G a+vN G b:=by
 unfold G9;split<;>simp [vN];omega
theorem K6 (a:EN) (z:Nat):vN G (L3 a z)=vN G a*z:=by
 unfold L3;split
 ·simp
 ·split<;>simp [vN]
theorem Bc (a:EN) (z:Nat):vN G (L3 a z)=Ie (vN G a) z:=by
 rw [K6];unfold Ie;split<;>simp
theorem cN (a b:EN):vN G (Yj a b)=vN G a - vN G b:=by
 unfold Yj;split<;>simp [vN]
theorem R5 {x y:Nat}:Ua x y=true↔x≤y:=by unfold Ua;exact decide_eq_true_iff
theorem G3 (a b:EN):vB G (L4 a b)=Ua (vN G a) (vN G b):=by
 unfold L4;split
 ·simp only [vB,vN];rename_i x y;cases hb:x.ble y with
  | true=>exact (R5.2 (Nat.le_of_ble_eq_true hb)).symm
  | false=>
   cases hl:Ua x y with
   | false=>rfl
   | true=>rw [Nat.ble_eq_true_of_le (R5.1 hl)] at hb;simp at hb
 ·simp only [vB,vN];exact (R5.2 (Nat.zero_le _)).symm
 ·simp only [vB]
theorem Sn (a b:EN):vB G (Ry a b)=Nat.beq (vN G a) (vN G b):=by
 unfold Ry;split<;>simp [vB,vN]
theorem Sm (a b:ES):vB G (Nh a b)=(vS G a==vS G b):=by
 unfold Nh;split<;>simp [vB,vS]
theorem cM (a b:ES):vS G (Ym a b)=vS G a++vS G b:=by
 unfold Ym;split<;>simp [vS]
theorem S2 (s:ES):vN G (Au s)=(vS G s).length:=by
 unfold Au;split<;>simp [vS,vN]
theorem L9 (l:EL):vN G (P9 l)=(vL G l).length:=by
 unfold P9;split<;>simp [vN,vL,P3,Vg]
theorem Hl {cs:List AV} {o:Nat} {v:AV} (h:∀ l,v≠.agg l):F6 cs o v=cs.set o v:=by
 unfold F6;split
 ·rename_i l;exact absurd rfl (h l)
 ·rfl
theorem aA {v:EV} {l:List AV} (h:vV G v=.agg l):∃ d,v=.agg d∧vL G d=l:=by
 cases v<;>simp [vV] at h;exact ⟨_,rfl,h⟩
theorem Cv (l:EL) (o:EN) (v:EV):vL G (Gc l o v)=F6 (vL G l) (vN G o) (vV G v):=by
 unfold Gc;split
 ·split
  ·simp only [vL,vN,vV,F6,Qk,I6,List.map_append,List.map_take,List.map_drop,List.length_map]
  ·simp only [vL,vN,vV]
  ·rename_i cs n v h1 h2;rw [Hl]
   ·simp only [vL,Wi,vN]
   ·intro l he;obtain ⟨d,rfl,_⟩:=aA he;exact h2 d rfl
 ·simp only [vL]
theorem S4 (l:EL) (o n:EN):vL G (Y2 l o n)=((vL G l).drop (vN G o)).take (vN G n):=by
 unfold Y2;split<;>simp [vL,vN,cU,I6,List.map_take,List.map_drop]
theorem Qh (a b:EL):vL G (Ni a b)=vL G a++vL G b:=by
 unfold Ni;split<;>simp [vL,Fq,vVs]
theorem Mi (s:ES):vL G (Jr s)=(vS G s).map fun b=>.int .u8 b.toNat:=by
 unfold Jr;split
 ·simp only [vL,I6,List.map_map,vS];congr 1
 ·simp only [vL,Vg]
theorem Kx (n:EN) (l:EL):vL G (Ng n l)=(List.replicate (vN G n) (vL G l)).flatten:=by
 unfold Ng;split
 ·simp only [vL,I6,vN,List.map_flatten,List.map_replicate]
 ·simp only [vL,repL]
theorem kO {v:EV} (h:Ug v=false):∀ l,vV G v≠.agg l:=by
 intro l he;obtain ⟨d,rfl,_⟩:=aA he;simp [Ug] at h
theorem Ea {o:EN} {n:Nat} (h:Lm o=some n):o=.lit n:=by
 unfold Lm at h;split at h
 ·simp at h;rw [h]
 ·simp at h
theorem Gb:∀ (l:EL) (n:Nat) (c:EB) (v:EV),P6 l n=some (c,v)→vB G c=true→(vL G l)[n]?=some (vV G v)
 | .of cs,n,c,v,h,_=>by
  simp only [P6] at h;split at h
  ·rename_i w hn;simp only [Option.some.injEq,Prod.mk.injEq] at h;obtain ⟨_,rfl⟩:=h;simp only [vL,On,hn,Option.map_some]
  ·simp at h
 | .set l o w,n,c,v,h,hc=>by
  simp only [P6] at h;split at h
  ·rename_i m ho ha
   have:=Ea ho;subst this
   have hs:vL G (.set l (.lit m) w)=(vL G l).set m (vV G w):=by
    simp only [vL,vN];exact Hl (kO ha)
   rw [hs];split at h
   ·rename_i hm;have hm:=Nat.eq_of_beq_eq_true hm;subst hm;simp only [Option.some.injEq,Prod.mk.injEq] at h;obtain ⟨rfl,rfl⟩:=h;rw [G3,L9] at hc;have hc:m+1≤(vL G l).length:=R5.1 hc;rw [List.getElem?_set_self (by omega)]
   ·rename_i hm;have hne:m≠n:=fun he=>by rw [he] at hm;simp at hm
    rw [List.getElem?_set_ne hne];exact Gb l n c v h hc
  ·simp at h
 | .var ..,_,_,_,h,_=>by simp [P6] at h
 | .ro ..,_,_,_,h,_=>by simp [P6] at h
 | .app ..,_,_,_,h,_=>by simp [P6] at h
 | .sub ..,_,_,_,h,_=>by simp [P6] at h
 | .bytes ..,_,_,_,h,_=>by simp [P6] at h
 | .rep ..,_,_,_,h,_=>by simp [P6] at h
 | .uf ..,_,_,_,h,_=>by simp [P6] at h
theorem kK {k:IntKind} {l:EL} {o:EN} {c:EB} {e:EI} (h:rdI k l o=some (c,e)) (hc:vB G c=true):isI k (vL G l) (vN G o)=true∧A8 (vL G l) (vN G o)=vI G e:=by
 have gen:some (EB.isI k l o,EI.get l o)=some (c,e)→isI k (vL G l) (vN G o)=true∧A8 (vL G l) (vN G o)=vI G e:=fun h=>by
  simp only [Option.some.injEq,Prod.mk.injEq] at h;obtain ⟨rfl,rfl⟩:=h;exact ⟨by simpa only [vB] using hc,by simp only [vI]⟩
 unfold rdI at h;split at h
 ·rename_i n ho
  have:=Ea ho;subst this
  split at h
  ·rename_i c' k' e' hr;split at h
   ·rename_i hk;subst hk;simp only [Option.some.injEq,Prod.mk.injEq] at h;obtain ⟨rfl,rfl⟩:=h
    have:=Gb l n _ _ hr hc
    simp only [vV] at this;simp [isI,A8,vN,this]
   ·simp at h
  ·simp at h
  ·exact gen h
 ·exact gen h
theorem kM {l:EL} {o:EN} {c:EB} {e:EB} (h:rdB l o=some (c,e)) (hc:vB G c=true):isB (vL G l) (vN G o)=true∧Q3 (vL G l) (vN G o)=vB G e:=by
 have gen:some (EB.isB l o,EB.get l o)=some (c,e)→isB (vL G l) (vN G o)=true∧Q3 (vL G l) (vN G o)=vB G e:=fun h=>by
  simp only [Option.some.injEq,Prod.mk.injEq] at h;obtain ⟨rfl,rfl⟩:=h;exact ⟨by simpa only [vB] using hc,by simp only [vB]⟩
 unfold rdB at h;split at h
 ·rename_i n ho
  have:=Ea ho;subst this
  split at h
  ·rename_i c' e' hr;simp only [Option.some.injEq,Prod.mk.injEq] at h;obtain ⟨rfl,rfl⟩:=h
   have:=Gb l n _ _ hr hc
   simp only [vV] at this;simp [isB,Q3,vN,this]
  ·simp at h
  ·exact gen h
 ·exact gen h
theorem vV_dCell (v:Value):vV G (Sf v)=M4 v:=by
 unfold Sf M4
 split<;>simp [vV,vB,vI,vS]
theorem Wj (v:Value):vV G (Zd v)=A6 v:=by
 unfold Zd A6;split
 ·simp only [vV,vL,I6,List.map_map];congr 2;funext x;exact vV_dCell x
 ·rename_i h;cases v<;>first | exact vV_dCell _ | exact absurd rfl (h _)
theorem vV_evD (F:DFr) (x:Operand):vV G (evD F x)=ev (vVs G F) x:=by
 cases x with
 | tmp t=>simp only [evD,Aj,ev,S1]
 | const v=>simp only [evD,ev,Wj]
 | global g=>simp only [evD,ev,vV]
 | func f=>simp only [evD,ev,vV,vVs]
def Wo (G:Nat→List AV) (o:Option (EB×EV)) (p:Option (Bool×AV)):Prop:=∀ c v,o=some (c,v)→vB G c=true→p=some (true,vV G v)
theorem Wo.none {p:Option (Bool×AV)}:Wo G none p:=fun c v h=>by simp at h
theorem Wo.some {c:EB} {v:EV} {p:Option (Bool×AV)} (h:vB G c=true→p=some (true,vV G v)):Wo G (some (c,v)) p:=fun c' v' he hc=>by
 simp only [Option.some.injEq,Prod.mk.injEq] at he;obtain ⟨rfl,rfl⟩:=he;exact h hc
theorem bY {op:BinOp} {k:IntKind} {x y:EI}:Wo G (binIntD op k x y) (Iz op k (vI G x) (vI G y)):=by
 have nz:vB G (V7 (C9 .eql y (.lit 0)))=true→(!(vI G y==0))=true:=fun h=>by
  simpa only [S6,M0,Ly,vI] using h
 cases op<;>simp only [binIntD,Iz]<;>first
  | exact Wo.none
  | (refine Wo.some fun hc=>?_;rw [nz hc];simp only [vV,Fs,Lz];done)
  | (refine Wo.some fun hc=>?_;simp only [vV,Fs,Lz,S6,M0,Ly];done)
  | (refine Wo.some fun hc=>?_;simp only [vV,Fs,Lz,S6,M0,Ly];rfl)
theorem Kw {op:BinOp} {k:IntKind} {x y:EI}:Wo G (Iy op k x y) (Di op k (vI G x) (vI G y)):=by
 have nz:vB G (C9 .leq (.lit 0) y)=true→decide (0≤vI G y)=true:=fun h=>by
  rw [M0] at h;exact decide_eq_true (of_decide_eq_true h)
 cases op<;>simp only [Iy,Di]<;>first
  | exact Wo.none
  | (refine Wo.some fun hc=>?_;rw [nz hc];simp only [vV,Fs,Lz];done)
theorem bX {op:BinOp} {x y:ES}:Wo G (Qa op x y) (Ix op (vS G x) (vS G y)):=by
  cases op<;>simp only [Qa,Ix]<;>first
    | exact Wo.none
    | (refine Wo.some fun hc => ?_
       rw [G3,E6,S2,S2] at hc;simp only [vV,cM,Option.some.injEq,Prod.mk.injEq,and_true]
       exact hc)
    | (refine Wo.some fun hc=>?_;simp only [vV,Sm,S6];done)
theorem X2 {op:BinOp} {c:Bool} {b:EB}:Wo G (Ay op c b) (W1 op c (vB G b)):=by
 cases op<;>simp only [Ay,W1]<;>first
  | exact Wo.none
  | (refine Wo.some fun hc=>?_;simp only [vB] at hc;subst hc;simp only [vV,S6];done)
def We (G:Nat→List AV) (o:Option (EB×EB)) (p:Option (Bool×Bool)):Prop:=∀ c b,o=some (c,b)→vB G c=true→p=some (true,vB G b)
theorem W8 {P:Program} {t:TypeId} {l:EL} {o:EN}:Wo G (V5 P t l o) (L2 P t (vL G l) (vN G o)):=by
 have agg:∀ z,vB G (L4 (G9 o (.lit z)) (P9 l))=true→decide (vN G o+z≤(vL G l).length)=true:=fun z h=>by
  rw [G3,E6,L9] at h;exact h
 have any:∀ n,Lm o=some n→∀ c v,P6 l n=some (c,v)→vB G c=true→(match (vL G l)[vN G o]? with | some v=>some (true,v) | none=>none)=some (true,vV G v):=fun n ho c v h hc=>by
  have:=Ea ho;subst this
  have:=Gb l n c v h hc
  simp only [vN,this]
 intro c v h hc;unfold V5 at h;unfold L2;split at h
 ·rename_i k hu;simp only [hu];split at h
  ·rename_i c' e hr;simp only [Option.some.injEq,Prod.mk.injEq] at h;obtain ⟨rfl,rfl⟩:=h;obtain ⟨h1,h2⟩:=kK hr hc;simp only [h1,h2,vV]
  ·simp at h
 ·rename_i hu;simp only [hu];split at h
  ·rename_i c' e hr;simp only [Option.some.injEq,Prod.mk.injEq] at h;obtain ⟨rfl,rfl⟩:=h;obtain ⟨h1,h2⟩:=kM hr hc;simp only [h1,h2,vV]
  ·simp at h
 ·rename_i fs hu;simp only [hu];split at h
  ·rename_i z hz;simp only [Option.some.injEq,Prod.mk.injEq] at h;obtain ⟨rfl,rfl⟩:=h;simp only [hz,agg z hc,vV,S4,vN]
  ·simp at h
 ·rename_i n e hu;simp only [hu];split at h
  ·rename_i z hz;simp only [Option.some.injEq,Prod.mk.injEq] at h;obtain ⟨rfl,rfl⟩:=h;simp only [hz,agg z hc,vV,S4,vN]
  ·simp at h
 ·rename_i d h1 h2 h3 h4 hu;simp only [hu];split at h
  ·rename_i n ho
   have:=any n ho c v h hc
   cases d<;>first
    | exact this
    | exact absurd hu (h1 _)
    | exact absurd hu h2
    | exact absurd hu (h3 _)
    | exact absurd hu (h4 _ _)
  ·simp at h
 ·simp at h
end Go.Am
namespace Go.Am
variable {G:Nat→List AV}
theorem I0 {a b:Bool} (h:(a&&b)=true):a=true∧b=true:=by simpa using h
theorem A5 {a b:EB} (h:vB G (B6 a b)=true):vB G a=true∧vB G b=true:=by
 rw [Kz] at h;exact I0 h
theorem Pu {P:Program} {recD:TypeId→EV→EV→Option (EB×EB)} {rec:TypeId→AV→AV→Option (Bool×Bool)} (hr:∀ t x y,We G (recD t x y) (rec t (vV G x) (vV G y))) {xs ys:EL} :
    ∀ fs,We G (Kb P recD xs ys fs) (Gr P rec (vL G xs) (vL G ys) fs)
  | [] => fun c b h _ => by
    simp only [Kb,Option.some.injEq,Prod.mk.injEq] at h;obtain ⟨rfl,rfl⟩:=h;simp only [Gr,vB]
  | f::fs=>fun c b h hc=>by
    unfold Kb at h;unfold Gr;split at h
    · rename_i hn;rw [if_pos hn];split at h
      · rename_i c1 a c2 b' h1 h2;split at h
        · rename_i c3 r c4 s h3 h4;simp only [Option.some.injEq,Prod.mk.injEq] at h;obtain ⟨rfl,rfl⟩:=h;obtain ⟨g1,hc⟩:=A5 hc;obtain ⟨g2,hc⟩:=A5 hc;obtain ⟨g3,g4⟩:=A5 hc;have e1:=W8 _ _ h1 g1;have e2:=W8 _ _ h2 g2;have e3:=hr _ _ _ _ _ h3 g3;have e4:=Pu hr fs _ _ h4 g4;simp only [vN] at e1 e2;simp only [e1,e2,e3,e4,Kz,Bool.and_self]
        · simp at h
      · simp at h
    · rename_i hn;rw [if_neg hn];exact Pu hr fs _ _ h hc
theorem Xr {P:Program} {recD:TypeId→EV→EV→Option (EB×EB)} {rec:TypeId→AV→AV→Option (Bool×Bool)} (hr:∀ t x y,We G (recD t x y) (rec t (vV G x) (vV G y))) {e:TypeId} {z:Nat} {xs ys:EL} :
  ∀ is,We G (Ny P recD e z xs ys is) (It P rec e z (vL G xs) (vL G ys) is)
 | []=>fun c b h _=>by
  simp only [Ny,Option.some.injEq,Prod.mk.injEq] at h;obtain ⟨rfl,rfl⟩:=h;simp only [It,vB]
 | i::is=>fun c b h hc=>by
  unfold Ny at h;unfold It;split at h
  ·rename_i c1 a c2 b' h1 h2;split at h
   ·rename_i c3 r c4 s h3 h4;simp only [Option.some.injEq,Prod.mk.injEq] at h;obtain ⟨rfl,rfl⟩:=h;obtain ⟨g1,hc⟩:=A5 hc;obtain ⟨g2,hc⟩:=A5 hc;obtain ⟨g3,g4⟩:=A5 hc;have e1:=W8 _ _ h1 g1;have e2:=W8 _ _ h2 g2;have e3:=hr _ _ _ _ _ h3 g3;have e4:=Xr hr is _ _ h4 g4;simp only [vN] at e1 e2;simp only [e1,e2,e3,e4,Kz,Bool.and_self]
   ·simp at h
  ·simp at h
theorem Uz {P:Program}:∀ n t x y,We G (Ps P n t x y) (Hg P n t (vV G x) (vV G y))
 | 0,t,x,y=>fun c b h=>by simp [Ps] at h
 | n+1,t,x,y=>fun c b h hc=>by
  unfold Ps at h;unfold Hg;split at h
  ·rename_i k hu;simp only [hu];split at h
   ·split at h
    ·rename_i hk;subst hk;simp only [Option.some.injEq,Prod.mk.injEq] at h;obtain ⟨rfl,rfl⟩:=h;simp only [vV,M0,Ly,decide_true]
    ·simp at h
   ·simp at h
  ·rename_i hu;simp only [hu];split at h
   ·simp only [Option.some.injEq,Prod.mk.injEq] at h;obtain ⟨rfl,rfl⟩:=h;simp only [vV,So]
   ·simp at h
  ·rename_i hu;simp only [hu];split at h
   ·simp only [Option.some.injEq,Prod.mk.injEq] at h;obtain ⟨rfl,rfl⟩:=h;simp only [vV,Sm]
   ·simp at h
  ·rename_i fs hu;simp only [hu];split at h
   ·split at h
    ·simp at h
    ·rename_i hs;simp only [vV,hs];exact Pu (fun t x y=>Uz n t x y) _ _ _ h hc
   ·simp at h
  ·rename_i m e hu;simp only [hu];split at h
   ·split at h
    ·rename_i z hz;simp only [vV,hz];exact Xr (fun t x y=>Uz n t x y) _ _ _ h hc
    ·simp at h
   ·simp at h
  ·simp at h
theorem bR {P:Program} {t:TypeId} {xs ys:EL}:We G (dY P t xs ys) (Hg P 10 t (.agg (vL G xs)) (.agg (vL G ys))):=by
 intro c b h hc;unfold dY at h;split at h
 ·have:=Uz 10 t (.agg xs) (.agg ys) c b h hc
  simpa only [vV] using this
 ·simp only [Option.some.injEq,Prod.mk.injEq] at h;obtain ⟨rfl,rfl⟩:=h;simp only [vB,vVs,vV,eqA1] at hc;simp only [vB,vVs,vV,eqA2];split at hc
  ·rename_i c' b' he;simp only [he,hc]
  ·simp at hc
theorem lX {P:Program} {op:BinOp} {t:TypeId} {x y:EV}:Wo G (eM P op t x y) (K5 P op t (vV G x) (vV G y)):=by
 intro c v h hc;unfold eM at h;split at h
 ·rename_i k a k' b;split at h
  ·simp only [vV,K5];exact Kw _ _ h hc
  ·simp only [vV,K5];exact Kw _ _ h hc
  ·rename_i h1 h2;split at h
   ·rename_i hk;subst hk
    have:=bY _ _ h hc
    simp only [vV,K5]
    cases op<;>first
     | exact absurd rfl h1
     | exact absurd rfl h2
     | (rw [if_pos trivial];exact this)
     | (rw [if_pos rfl];exact this)
   ·simp at h
 ·simp only [vV,K5];exact bX _ _ h hc
 ·have:=X2 _ _ h hc
  simp only [vV,K5];rw [So] at this;exact this
 ·simp only [vV,K5];exact X2 _ _ h hc
 ·simp only [vV,K5];exact X2 _ _ h hc
 ·simp only [vV,K5];exact X2 _ _ h hc
 ·simp only [vV,K5];exact X2 _ _ h hc
 ·simp only [vV,K5];exact X2 _ _ h hc
 ·simp only [vV,K5];exact X2 _ _ h hc
 ·simp only [vV,K5];exact X2 _ _ h hc
 ·rename_i xs ys;simp only [vV,K5];split at h
  ·simp at h
  ·rename_i hg;simp only [hg];split at h
   ·rename_i c' b he;split at h
    ·simp only [Option.some.injEq,Prod.mk.injEq] at h;obtain ⟨rfl,rfl⟩:=h;simp only [bR _ _ he hc,W1,vV]
    ·simp only [Option.some.injEq,Prod.mk.injEq] at h;obtain ⟨rfl,rfl⟩:=h;simp only [bR _ _ he hc,W1,vV,S6]
    ·simp at h
   ·simp at h
 ·simp at h
theorem un_wo {op:UnOp} {x:EV}:Wo G (unD op x) (Sp op (vV G x)):=by
 intro c v h hc;unfold unD at h
 split at h<;>first
  | (simp only [Option.some.injEq,Prod.mk.injEq] at h;obtain ⟨rfl,rfl⟩:=h;simp only [vV,Sp,cO,cP,S6];done)
  | (simp at h;done)
theorem gM {P:Program} {s d:TypeId} {x:EV}:Wo G (Ze P s d x) (Fk P s d (vV G x)):=by
 intro c v h hc;unfold Ze at h;split at h
 ·rename_i h1 h2;simp only [Option.some.injEq,Prod.mk.injEq] at h;obtain ⟨rfl,rfl⟩:=h;simp only [vV,Fk,h1,h2,aB]
 ·rename_i h1 h2;simp only [Option.some.injEq,Prod.mk.injEq] at h;obtain ⟨rfl,rfl⟩:=h;simp only [vV,Fk,h1,h2]
 ·simp at h
theorem dW {P:Program} {s:TypeId} {x:EV} {f:Nat}:Wo G (Uv P s x f) (Fi P s (vV G x) f):=by
 intro c v h hc;unfold Uv at h;split at h
 ·rename_i fs r off hu;simp only [vV,Fi,hu];split at h
  ·rename_i fd hf;simp only [hf];split at h
   ·simp at h
   ·rename_i z h0 hz;simp only [Option.some.injEq,Prod.mk.injEq] at h;obtain ⟨rfl,rfl⟩:=h;simp only [hz];cases z with
    | zero=>exact absurd rfl h0
    | succ z=>simp only [vV,E6,vN]
   ·simp at h
  ·simp at h
 ·simp at h
theorem Nn {P:Bool} {i l:EI} {z:Int} (hz:vI G l=z) (h:vB G (B6 (C9 .leq (.lit 0) i) (C9 .lss i l))=true):(decide (0≤vI G i)&&decide (vI G i<z))=true:=by
 obtain ⟨h1,h2⟩:=A5 h;rw [M0] at h1 h2;rw [hz] at h2;simp only [vI] at h1;rw [Bool.and_eq_true];exact ⟨decide_eq_true (of_decide_eq_true h1),decide_eq_true (of_decide_eq_true h2)⟩
theorem dU {P:Program} {t:TypeId} {x i:EV}:Wo G (Uh P t x i) (Cq P t (vV G x) (vV G i)):=by
 intro c v h hc;unfold Uh at h;split at h
 ·split at h
  ·rename_i len e r off hu;simp only [vV,Cq,hu];split at h
   ·rename_i z hz;simp only [Option.some.injEq,Prod.mk.injEq] at h;obtain ⟨rfl,rfl⟩:=h;simp only [hz,Nn (P:=true) (z:=len) (by simp only [vI]) hc,vV,E6,Bc,S3]
   ·simp at h
  ·rename_i e mb r off len hu;simp only [vV,Cq,hu];split at h
   ·rename_i z hz;simp only [Option.some.injEq,Prod.mk.injEq] at h;obtain ⟨rfl,rfl⟩:=h;simp only [hz,Nn (P:=true) (z:=(vN G len:Int)) (V8 _) hc,vV,E6,Bc,S3]
   ·simp at h
  ·simp at h
 ·simp at h
theorem Aq {x:Option EV} {d:EI} {e:EI} (h:Bo x d=some e):N0 (x.map (vV G)) (vI G d)=some (vI G e):=by
 unfold Bo at h;split at h
 ·simp at h;subst h;rfl
 ·simp at h;subst h;simp only [Option.map_some,vV,N0]
 ·simp at h
theorem Ln {a b c:EI} {z:Int} (hz:vI G c=z) (h:vB G (B6 (C9 .leq (.lit 0) a) (B6 (C9 .leq a b) (C9 .leq b c)))=true):(decide (0≤vI G a)&&(decide (vI G a≤vI G b)&&decide (vI G b≤z)))=true:=by
 obtain ⟨h1,h⟩:=A5 h;obtain ⟨h2,h3⟩:=A5 h;rw [M0] at h1 h2 h3;rw [hz] at h3;simp only [vI] at h1;rw [Bool.and_eq_true,Bool.and_eq_true];exact ⟨decide_eq_true (of_decide_eq_true h1),decide_eq_true (of_decide_eq_true h2),decide_eq_true (of_decide_eq_true h3)⟩
theorem cX {P:Program} {t:TypeId} {x:EV} {lo hi:Option EV}:Wo G (Sy P t x lo hi) (Ac P t (vV G x) (lo.map (vV G)) (hi.map (vV G))):=by
 intro c v h hc;unfold Sy at h;split at h
 ·rename_i e mb r off len hu;simp only [vV,Ac,hu];split at h
  ·rename_i z l hh hz hl hh';simp only [Option.some.injEq,Prod.mk.injEq] at h;obtain ⟨rfl,rfl⟩:=h;have e1:=Aq (G:=G) hl;have e2:=Aq (G:=G) hh';rw [V8] at e2;simp only [vI] at e1;simp only [hz,e1,e2,Ln (z:=(vN G len:Int)) (V8 _) hc,vV,E6,Bc,S3,cN]
  ·simp at h
 ·rename_i e hu;simp only [vV,Ac,hu];split at h
  ·rename_i z l hh hz hl hh';simp only [Option.some.injEq,Prod.mk.injEq] at h;obtain ⟨rfl,rfl⟩:=h;have e1:=Aq (G:=G) hl;have e2:=Aq (G:=G) hh';simp only [vI] at e1 e2;simp only [hz,e1,e2,Ln (z:=0) (by simp only [vI]) hc,vV]
  ·simp at h
 ·rename_i s hu;simp only [vV,Ac,hu];split at h
  ·rename_i l hh hl hh';simp only [Option.some.injEq,Prod.mk.injEq] at h;obtain ⟨rfl,rfl⟩:=h;have e1:=Aq (G:=G) hl;have e2:=Aq (G:=G) hh';rw [V8,S2] at e2;simp only [vI] at e1;simp only [e1,e2,Ln (z:=((vS G s).length:Int)) (by rw [V8,S2]) hc,vV,vS,S3]
  ·simp at h
 ·simp at h
theorem N1 (v:EV):vL G (O2 v)=A3 (vV G v):=by
 unfold O2 A3;cases v<;>simp [vL,vVs,vV]
theorem Uc {v:EV} (h:No v=true):Y5 (vV G v)=true:=by
 cases v<;>simp [No] at h<;>simp [vV,Y5]
theorem isCell_ok (v:EV):isCell (vV G v)=Jt v:=by
 cases v<;>simp [vV,isCell,Jt]
theorem Gw (l:EL):vB G (Dk l)=(vL G l).all isCell:=by
 unfold Dk;split
 ·simp only [vB,vL,I6,List.all_map];congr 1;funext x;simp [isCell_ok]
 ·simp only [vB,Vf]
 ·simp only [vB,Vf]
theorem In (v:EV):vB G (Ch v)=true→(A3 (vV G v)).all isCell=true:=by
 intro h;unfold Ch at h;split at h
 ·rw [Gw] at h;simpa only [vV,A3] using h
 ·rename_i hn;simp only [vB] at h
  have:A3 (vV G v)=[vV G v]:=by
   cases v<;>simp [vV,A3];exact absurd rfl (hn _)
  rw [this];simp [isCell_ok,h]
theorem Bd {v:EV} {z:Nat} (h:vB G (Ez v z)=true):H4 (vV G v)=z:=by
 unfold Ez at h;split at h
 ·rw [Sn,L9] at h;simp only [vN] at h;simp only [vV,H4];exact Nat.eq_of_beq_eq_true h
 ·rename_i hn;simp only [vB] at h
  have:=Nat.eq_of_beq_eq_true h
  subst this;cases v<;>simp [vV,H4];exact absurd rfl (hn _)
theorem Jw {place:Nat→Option (Nat×Nat)}:∀ (parts:List (Nat×EV)) (cells:EL) (c:EB) (r:EL),Gn place cells parts=some (c,r)→vB G c=true→
  Q9 place (vL G cells) (parts.map fun p=>(p.1,vV G p.2))=some (true,vL G r)
 | [],cells,c,r,h,_=>by
  simp only [Gn,Option.some.injEq,Prod.mk.injEq] at h;obtain ⟨rfl,rfl⟩:=h;simp only [List.map_nil,Q9]
 | (i,v)::rest,cells,c,r,h,hc=>by
  unfold Gn at h;simp only [List.map_cons,Q9];split at h
  ·simp at h
  ·rename_i off size hp;simp only [hp];split at h
   ·simp at h
   ·rename_i c' r' hf;split at h
    ·rename_i hk;simp only [Option.some.injEq,Prod.mk.injEq] at h;obtain ⟨rfl,rfl⟩:=h;obtain ⟨g1,hc⟩:=A5 hc;obtain ⟨g2,g3⟩:=A5 hc
     have:=Jw rest _ _ _ hf g3
     rw [Cv] at this;simp only [vN] at this;rw [G3,L9] at g2;simp only [vN] at g2;have e1:=Bd g1;have e2:decide (off+size≤(vL G cells).length)=true:=g2;simp only [this,Uc hk,e1,e2,beq_self_eq_true,Bool.and_self]
    ·simp at h
theorem W3 {P:Program} {t:TypeId} {z:EV} (h:Bz P t=some z):I2 P t=some (vV G z):=by
 unfold Bz at h;unfold I2;split at h
 ·rename_i i hi;simp only [hi];split at h
  ·rename_i z' hz;simp at h;subst h;simp only [hz,Wj]
  ·simp at h
 ·simp at h
theorem eK {P:Program} {t:TypeId} {parts:List (Nat×EV)}:Wo G (Vh P t parts) (Cr P t (parts.map fun p=>(p.1,vV G p.2))):=by
 intro c v h hc;unfold Vh at h;split at h
 ·rename_i fs z hu hz;have hz:=W3 (G:=G) hz;simp only [vV] at hz;simp only [Cr,hu,hz];split at h
  ·rename_i ps hps;simp only [hps];split at h
   ·rename_i c' cs hf;simp only [Option.some.injEq,Prod.mk.injEq] at h;obtain ⟨rfl,rfl⟩:=h;simp only [Jw _ _ _ _ hf hc,vV]
   ·simp at h
  ·simp at h
 ·rename_i n e z hu hz;have hz:=W3 (G:=G) hz;simp only [vV] at hz;simp only [Cr,hu,hz];split at h
  ·rename_i n hn;simp only [hn];split at h
   ·rename_i c' cs hf;simp only [Option.some.injEq,Prod.mk.injEq] at h;obtain ⟨rfl,rfl⟩:=h;simp only [Jw _ _ _ _ hf hc,vV]
   ·simp at h
  ·simp at h
 ·simp at h
theorem kX {P:Program} {t:TypeId} {x:EV}:Wo G (dP P t x) (Eb P t (vV G x)):=by
 intro c v h hc;unfold dP at h;split at h
 ·rename_i s hu;simp only [Option.some.injEq,Prod.mk.injEq] at h;obtain ⟨rfl,rfl⟩:=h;simp only [vV,Eb,hu,V8,S2]
 ·rename_i n e hu;simp only [Option.some.injEq,Prod.mk.injEq] at h;obtain ⟨rfl,rfl⟩:=h;simp only [Eb,hu,vV,vI]
 ·rename_i e mb r o n hu;simp only [Option.some.injEq,Prod.mk.injEq] at h;obtain ⟨rfl,rfl⟩:=h;simp only [vV,Eb,hu,V8]
 ·rename_i e hu;simp only [Option.some.injEq,Prod.mk.injEq] at h;obtain ⟨rfl,rfl⟩:=h;simp only [vV,Eb,hu,vI]
 ·simp at h
theorem lV {P:Program} {t:TypeId} {x:EV}:Wo G (eI P t x) (Oc P t (vV G x)):=by
 intro c v h hc;unfold eI at h;split at h
 ·rename_i e hu;simp only [Option.some.injEq,Prod.mk.injEq] at h;obtain ⟨rfl,rfl⟩:=h;simp only [vV,Oc,hu,vI]
 ·simp at h
theorem kT {x y:EV}:Wo G (dO x y) (Nk (vV G x) (vV G y)):=by
 intro c v h hc;unfold dO at h;split at h
 ·split at h
  ·rename_i hk;subst hk;simp only [Option.some.injEq,Prod.mk.injEq] at h;obtain ⟨rfl,rfl⟩:=h;simp only [vV,Nk,if_pos,vI]
  ·simp at h
 ·simp at h
theorem kR {x y:EV}:Wo G (dN x y) (Nj (vV G x) (vV G y)):=by
 intro c v h hc;unfold dN at h;split at h
 ·split at h
  ·rename_i hk;subst hk;simp only [Option.some.injEq,Prod.mk.injEq] at h;obtain ⟨rfl,rfl⟩:=h;simp only [vV,Nj,if_pos,vI]
  ·simp at h
 ·simp at h
theorem fY {c a b:EV}:Wo G (Yi c a b) (Hu (vV G c) (vV G a) (vV G b)):=by
 intro c' v h hc;unfold Yi at h
 split at h<;>first
  | (simp only [Option.some.injEq,Prod.mk.injEq] at h;obtain ⟨rfl,rfl⟩:=h;simp only [vV,vB,Hu];done)
  | (simp at h;done)
theorem Vu {x:EV}:Wo G (Ic x) (Cd (vV G x)):=by
 intro c' v h hc;unfold Ic at h
 split at h<;>first
  | (simp only [Option.some.injEq,Prod.mk.injEq] at h;obtain ⟨rfl,rfl⟩:=h;simp only [vV,Cd];done)
  | (simp at h;done)
theorem aW {v:EV} {w:AV} (h:vV G v=w):Wo G (some (.lit true,v)) (some (true,w)):=Wo.some fun _=>by rw [h]
theorem Tv {F:DFr} (l:List Operand):(l.map (ev (vVs G F)))=vVs G (l.map (evD F)):=by
 rw [I6 (List.map (evD F) l),List.map_map];congr 1;funext x;simp [vV_evD]
theorem omap_ev {F:DFr} (x:Option Operand):x.map (ev (vVs G F))=(x.map (evD F)).map (vV G):=by
 cases x<;>simp [vV_evD]
theorem Wz {P:Program} {F:DFr} {op:Op}:Wo G (Rw P F op) (C1 P (vVs G F) op):=by
 intro c v h hc;unfold Rw at h;split at h
 ·exact aW (vV_evD F _) _ _ h hc
 ·exact aW (vV_evD F _) _ _ h hc
 ·simp only [C1,←vV_evD];exact fY _ _ h hc
 ·simp only [C1,←vV_evD];exact Vu _ _ h hc
 ·simp only [C1,←vV_evD];exact lX _ _ h hc
 ·simp only [C1,←vV_evD];exact un_wo _ _ h hc
 ·simp only [C1,←vV_evD];exact gM _ _ h hc
 ·simp only [C1,←vV_evD];exact dW _ _ h hc
 ·simp only [C1,←vV_evD];exact dU _ _ h hc
 ·simp only [C1,←vV_evD,omap_ev];exact cX _ _ h hc
 ·rename_i t parts;simp only [C1]
  have:=eK _ _ h hc
  rw [List.map_map] at this;rw [←this];congr 1;refine List.map_congr_left fun p _=>?_;simp [vV_evD]
 ·simp only [C1,←vV_evD];split at h
  ·rename_i vs he;split at h
   ·rename_i v' hv;simp only [Option.some.injEq,Prod.mk.injEq] at h;obtain ⟨rfl,rfl⟩:=h;simp only [he,vV,On,hv,Option.map_some]
   ·simp at h
  ·simp at h
 ·rename_i f first cap;simp only [C1];split at h
  ·rename_i h0;simp only [Option.some.injEq,Prod.mk.injEq] at h;obtain ⟨rfl,rfl⟩:=h;rw [if_pos h0,Tv];simp only [vV]
  ·simp at h
 ·simp only [C1];split at h
  ·rename_i x t h1 h2;simp only [h1,h2,←vV_evD];exact kX _ _ h hc
  ·simp at h
 ·simp only [C1];split at h
  ·rename_i x t h1 h2;simp only [h1,h2,←vV_evD];exact lV _ _ h hc
  ·simp at h
 ·simp only [C1];split at h
  ·rename_i x y h1;simp only [h1,←vV_evD];exact kT _ _ h hc
  ·simp at h
 ·simp only [C1];split at h
  ·rename_i x y h1;simp only [h1,←vV_evD];exact kR _ _ h hc
  ·simp at h
 ·simp at h
end Go.Am
namespace Go.Am
variable {G:Nat→List AV}
noncomputable def J6 (G:Nat→List AV) (b:Mf):Blk:=⟨b.esz,vL G b.cells⟩
noncomputable def B0 (G:Nat→List AV) (H:DHp):Hp:=H.map (Option.map (J6 G))
noncomputable def F7 (G:Nat→List AV):DHop→Hop
 | .set i b=>.set i (J6 G b)
 | .new b=>.new (J6 G b)
 | .app j b=>.app j (J6 G b)
theorem C7 (H:DHp):(B0 G H).length=H.length:=by simp [B0]
theorem fM (H:DHp) (i:Nat):(B0 G H)[i]?=(H[i]?).map (Option.map (J6 G)):=by simp [B0]
theorem S5 {H:DHp} {i:Nat} {b:Mf} (h:H[i]?=some (some b)):(B0 G H)[i]?=some (some (J6 G b)):=by rw [fM,h];rfl
theorem Ky (H:DHp) (h:DHop):B0 G (h.act H)=(F7 G h).act (B0 G H):=by
 cases h<;>simp [DHop.act,Hop.act,F7,B0,List.map_set]
theorem W4:∀ (hs:List DHop) (H:DHp),B0 G (Ba H hs)=acts (B0 G H) (hs.map (F7 G))
 | [],H=>rfl
 | h::hs,H=>by simp only [Ba,List.map_cons,acts,W4 hs,Ky]
open Classical in
theorem aL {l ls:List AV}:Mp l ls=true↔∀ v∈ls,v=.agg l:=by unfold Mp;exact decide_eq_true_iff
theorem Nv (z:Nat):∀ (c j:Nat) (H:DHp) (ls:List EV),R7 z j H c=some ls→ls.length=c∧∀ i,i<c→∃ l,H[i]?=some (some ⟨z,.row l (.lit (j+i))⟩)∧ls[i]?=some (.agg l)
 | 0,j,H,ls,h=>by
  have:R7 z j H 0=some []:=by unfold R7;rfl
  rw [this] at h;simp only [Option.some.injEq] at h;subst h;exact ⟨rfl,fun i hi=>by omega⟩
 | c+1,j,[],ls,h=>by simp [R7] at h
 | c+1,j,none::H,ls,h=>by simp [R7] at h
 | c+1,j,some ⟨z',l0⟩::H,ls,h=>by
  cases l0 with
  | row l k=>cases k with
   | lit i0=>
    simp only [R7] at h;split at h
    ·rename_i hb;split at h
     ·rename_i ls' h1;simp only [Option.some.injEq] at h;subst h;rw [Bool.and_eq_true] at hb;have e1:=Nat.eq_of_beq_eq_true hb.1;have e2:=Nat.eq_of_beq_eq_true hb.2;subst e1;subst e2;obtain ⟨g1,g2⟩:=Nv z c (i0+1) H ls' h1;refine ⟨by simp [g1],fun i hi=>?_⟩;cases i with
      | zero=>exact ⟨l,by simp,by simp⟩
      | succ i=>
       obtain ⟨l2,q1,q2⟩:=g2 i (by omega);exact ⟨l2,by rw [show i0+(i+1)=i0+1+i by omega];simpa using q1,by simpa using q2⟩
     ·simp at h
    ·simp at h
   | _=>simp [R7] at h
  | _=>simp [R7] at h
theorem Lw {H:DHp} {b c z:Nat} {l:EL} {ls:List EV} (h:Ka H b c=some (z,l,ls)):Nat.beq z 4294967291=false∧ls.length=c∧∀ i,i<c→∃ l',H[b+i]?=some (some ⟨z,.row l' (.lit i)⟩)∧ls[i]?=some (.agg l'):=by
 unfold Ka at h;split at h
 ·split at h
  ·simp at h
  ·rename_i hz;split at h
   ·rename_i ls' h1;simp only [Option.some.injEq,Prod.mk.injEq] at h;obtain ⟨rfl,rfl,rfl⟩:=h;obtain ⟨g1,g2⟩:=Nv _ _ _ _ _ h1;refine ⟨hz,g1,fun i hi=>?_⟩;obtain ⟨l',q1,q2⟩:=g2 i hi;rw [List.getElem?_drop] at q1;exact ⟨l',by simpa using q1,q2⟩
   ·simp at h
 ·simp at h
theorem vVs_get? {ls:List EV} {i:Nat} {x:EV} (h:ls[i]?=some x):(vVs G ls)[i]?=some (vV G x):=by rw [I6,List.getElem?_map,h];rfl
theorem Nu {H:DHp} {b c z:Nat} {l:EL} {ls:List EV} (h:Ka H b c=some (z,l,ls)) (hr:Mp (vL G l) (vVs G ls)=true) {i:Nat} (hi:i<c):(B0 G H)[b+i]?=some (some ⟨z,Da (vL G l) i⟩):=by
 obtain ⟨_,g1,g2⟩:=Lw h;obtain ⟨l',q1,q2⟩:=g2 i hi;have e:=aL.1 hr _ (List.mem_of_getElem? (vVs_get? (G:=G) q2));simp only [vV,AV.agg.injEq] at e;rw [S5 q1];simp only [J6,vL,vN,e]
theorem Ck {C:Ctx} (hG:C.G=G) {H:DHp} {r:ER} {c0:EB} {l:EL} (h:Ap H r=some (c0,l)) (hc:vB G c0=true):D0 C (B0 G H) (vR G r)=some (vL G l):=by
 unfold Ap at h;split at h
 ·split at h
  ·rename_i b hb;split at h
   ·simp at h
   rename_i hr;simp only [Option.some.injEq,Prod.mk.injEq] at h;obtain ⟨rfl,rfl⟩:=h;have hr:isRec (J6 G b)=false:=hr;simp only [vR,D0,S5 hb,hr];simp only [J6]
  ·simp at h
 ·simp only [Option.some.injEq,Prod.mk.injEq] at h;obtain ⟨rfl,rfl⟩:=h;simp only [vR,D0,vL,hG]
 ·rename_i b c k;split at h
  ·rename_i z l' ls hf;simp only [Option.some.injEq,Prod.mk.injEq] at h;obtain ⟨rfl,rfl⟩:=h;obtain ⟨g1,g2⟩:=A5 hc;rw [G3,E6] at g1;simp only [vN] at g1;have g1:=R5.1 g1;simp only [vB] at g2;have hr:isRec ⟨z,Da (vL G l') (vN G k)⟩=false:=(Lw hf).1;simp only [vR,D0,Nu hf g2 (show vN G k<c by omega),hr,vL]
  ·simp at h
theorem eC (l:Lf) (cs:EL) (off:EN):vV G (Yn l cs off)=Ec l (vL G cs) (vN G off):=by
 cases l<;>simp only [Yn,Ec,vV,vI,vB,vS,vR,vN]
theorem Iu (cs:EL):∀ (ls:List Lf) (off:EN),vVs G (Fe cs off ls)=P0 (vL G cs) (vN G off) ls
 | [],off=>by simp only [Fe,P0,vVs]
 | l::ls,off=>by
  simp only [Fe,P0,vVs,eC,Iu cs ls,E6,vN]
theorem dI {P:Program} {t:TypeId} {cs:EL} {off:EN}:Wo G (Tj P t cs off) (Rx P t (vL G cs) (vN G off)):=by
 intro c v h hc;unfold Tj at h;unfold Rx;split at h
 ·rename_i k hu;simp only [hu];simp only [Option.some.injEq,Prod.mk.injEq] at h;obtain ⟨rfl,rfl⟩:=h;simp only [vB] at hc;simp only [hc,vV,vI]
 ·rename_i hu;simp only [hu];simp only [Option.some.injEq,Prod.mk.injEq] at h;obtain ⟨rfl,rfl⟩:=h;simp only [vB] at hc;simp only [hc,vV,vB]
 ·rename_i hu;simp only [hu];simp only [Option.some.injEq,Prod.mk.injEq] at h;obtain ⟨rfl,rfl⟩:=h;simp only [vB] at hc;simp only [hc,vV,vS]
 ·rename_i e hu;simp only [hu];simp only [Option.some.injEq,Prod.mk.injEq] at h;obtain ⟨rfl,rfl⟩:=h;simp only [vB] at hc;simp only [hc,vV,vR,vN]
 ·rename_i fs hu;simp only [hu];split at h
  ·rename_i z ls hz hl;simp only [hz,hl];split at h
   ·rename_i hb;simp only [Option.some.injEq,Prod.mk.injEq] at h;obtain ⟨rfl,rfl⟩:=h;simp only [vB] at hc;simp only [hb,hc,vV,vL,Iu,Bool.and_self]
   ·simp at h
  ·simp at h
 ·rename_i n e hu;simp only [hu];split at h
  ·rename_i z ls hz hl;simp only [hz,hl];split at h
   ·rename_i hb;simp only [Option.some.injEq,Prod.mk.injEq] at h;obtain ⟨rfl,rfl⟩:=h;simp only [vB] at hc;simp only [hb,hc,vV,vL,Iu,Bool.and_self]
   ·simp at h
  ·simp at h
 ·simp at h
theorem Xg {C:Ctx} (hG:C.G=G) {H:DHp} {t:TypeId} {r:ER} {off:EN}:Wo G (Sa C.P H t r off) (Cg C (B0 G H) t (vR G r) (vN G off)):=by
 intro c v h hc;unfold Sa at h;unfold Cg;split at h
 ·rename_i c0 cs hcs;split at h
  ·rename_i c1 v1 hp;simp only [Option.some.injEq,Prod.mk.injEq] at h;obtain ⟨rfl,rfl⟩:=h;obtain ⟨g1,g2⟩:=A5 hc;rw [Ck hG hcs g1];unfold aS at hp;split at hp
   ·simp only [vR,Dx];exact W8 _ _ hp g2
   ·simp only [vR,Dx];exact dI _ _ hp g2
   ·simp only [vR,Dx];exact W8 _ _ hp g2
  ·simp at h
 ·simp at h
theorem bG {b c o:Nat} {cs:List AV} (h:dT b c cs o=true):cs[o]?=some (.slice true (.rw (b+Nt b cs o)) (Us cs o) (fnA cs o))∧Nt b cs o<c:=by
 unfold dT at h;split at h
 ·rename_i i f n he;rw [Bool.and_eq_true] at h;have h1:=Nat.le_of_ble_eq_true h.1;have h2:i<b+c:=Nat.blt_eq ▸ h.2;have e1:Nt b cs o=i - b:=by unfold Nt;rw [he]
  have e2:Us cs o=f:=by unfold Us;rw [he]
  have e3:fnA cs o=n:=by unfold fnA;rw [he]
  rw [e1,e2,e3,he,show b+(i - b)=i by omega];exact ⟨rfl,by omega⟩
 ·simp at h
theorem bF {b c o:Nat} {cs:List AV} (h:dS b c cs o=true):cs[o]?=some (.ptr (.rw (b+Nt b cs o)) (Us cs o))∧Nt b cs o<c:=by
 unfold dS at h;split at h
 ·rename_i i f he;rw [Bool.and_eq_true] at h;have h1:=Nat.le_of_ble_eq_true h.1;have h2:i<b+c:=Nat.blt_eq ▸ h.2;have e1:Nt b cs o=i - b:=by unfold Nt;rw [he]
  have e2:Us cs o=f:=by unfold Us;rw [he]
  rw [e1,e2,he,show b+(i - b)=i by omega];exact ⟨rfl,by omega⟩
 ·simp at h
theorem bE {cs:List AV} {o:Nat} (h:Ys cs o=true):cs[o]?=some (.slice true (.ro (Bg cs o)) (Bf cs o) (N2 cs o)):=by
 unfold Ys at h;split at h
 ·rename_i k f n he;unfold Bg Bf N2;rw [he]
 ·simp at h
theorem Vy {o:Nat} {cs:List AV} (h:Ue cs o=true):cs[o]?=some .nilp:=by
 unfold Ue at h;split at h
 ·assumption
 ·simp at h
theorem Ux {l:EL} {o:EN} {f:FL} (h:vB G (Jy l o f)=true):(vL G l)[vN G o]?=some (vV G (Jz l o f)):=by
 cases f with
 | int k=>
  simp only [Jy,vB] at h;simp only [Jz,vV,vI];exact Gh h
 | bool=>
  simp only [Jy,vB] at h;simp only [Jz,vV,vB];unfold isB at h;unfold Q3;split at h
  ·rename_i b he;rw [he]
  ·simp at h
 | sl b c=>
  cases c with
  | zero=>
   have h:Ys (vL G l) ((vN G o:Nat):Int).toNat=true:=h;rw [Int.toNat_natCast] at h;exact bE h
  | succ c=>
   simp only [Jy,vB] at h;simp only [Jz,vV,vR,vN];exact (bG h).1
theorem Xq:∀ (fs:List FL) {l:EL} {o:EN},vB G (Sc l o fs)=true→vVs G (Nw l o fs)=((vL G l).drop (vN G o)).take fs.length∧vN G o+fs.length≤max (vN G o) (vL G l).length
 | [],l,o,_=>by simp [Nw,vVs];omega
 | f::fs,l,o,h=>by
  simp only [Sc] at h;obtain ⟨h1,h2⟩:=A5 h;have e1:=Ux h1;obtain ⟨e2,e3⟩:=Xq fs h2;rw [E6] at e2 e3;simp only [vN] at e2 e3;have hlt:vN G o<(vL G l).length:=(List.getElem?_eq_some_iff.1 e1).1;refine ⟨?_,by simp only [List.length_cons];omega⟩;simp only [Nw,vVs,e2];rw [List.drop_eq_getElem_cons hlt,List.length_cons,List.take_succ_cons];rw [List.getElem?_eq_getElem hlt] at e1;simp only [Option.some.injEq] at e1;rw [e1]
def WoF (G:Nat→List AV) (x:FamR) (p:Option (Bool×AV)):Prop:=
 match x with
 | .val c v=>vB G c=true→p=some (true,vV G v)
 | .ptr n c v=>(vB G n=true→p=some (true,.nilp))∧(vB G c=true→p=some (true,vV G v))
theorem Pp {fam:TypeId→Option (Nat×Nat)} {P:Program} {t:TypeId} {cs:EL} {off:EN} {x:FamR} (h:Uw fam P t cs off=some x):WoF G x (L2 P t (vL G cs) (vN G off)):=by
 unfold Uw at h;split at h
 ·simp at h
 ·rename_i b c hf;split at h
  ·rename_i fs hu;split at h
   ·simp at h
   ·split at h
    ·rename_i z ls hz hl;split at h
     ·rename_i hb;rw [Bool.and_eq_true] at hb;have hz1:=Nat.le_of_ble_eq_true hb.2;have hb:=Nat.eq_of_beq_eq_true hb.1;simp only [Option.some.injEq] at h;subst h;intro hc;obtain ⟨e1,e2⟩:=Xq ls hc;have hle:vN G off+z≤(vL G cs).length:=by omega
      unfold L2;simp only [hu,hz,vV,vL,e1,hb];rw [decide_eq_true hle]
     ·simp at h
    ·simp at h
  ·rename_i e hu;split at h
   ·simp at h
   ·simp only [Option.some.injEq] at h;subst h;intro hc
    have:=Ux hc
    unfold L2;simp only [hu,this]
  ·rename_i e hu;split at h
   ·simp at h
   ·simp only [Option.some.injEq] at h;subst h;refine ⟨fun hc=>?_,fun hc=>?_⟩
    ·simp only [vB] at hc;unfold L2;simp only [hu,Vy hc]
    ·simp only [vB] at hc;unfold L2;simp only [hu,(bF hc).1,vV,vR,vN]
  ·simp at h
theorem Wv {C:Ctx} (hG:C.G=G) {F:DFr} {H:DHp} {op:Op}:Wo G (Rv C.P F H op) (E3 C (vVs G F) (B0 G H) op):=by
 intro c v h hc;unfold Rv at h;split at h
 ·simp only [E3,←vV_evD];split at h
  ·rename_i r off he;simp only [he,vV];exact Xg hG _ _ h hc
  ·simp at h
 ·simp only [E3,←vV_evD];split at h
  ·rename_i fs cs hu he;simp only [hu,he,vV];split at h
   ·rename_i fd hf;simp only [hf]
    have:=W8 _ _ h hc
    simpa only [vN] using this
   ·simp at h
  ·simp at h
 ·simp only [E3,←vV_evD];split at h
  ·rename_i len e cs k i hu he hi;simp only [hu,he,hi,vV];split at h
   ·rename_i z hz;simp only [hz];split at h
    ·rename_i c' v' hp;simp only [Option.some.injEq,Prod.mk.injEq] at h;obtain ⟨rfl,rfl⟩:=h;obtain ⟨g1,hc⟩:=A5 hc;obtain ⟨g2,g3⟩:=A5 hc
     have:=W8 _ _ hp g3
     rw [Bc,S3] at this;rw [M0] at g1 g2;have g1:decide (0≤vI G i)=true:=decide_eq_true (by have:=of_decide_eq_true g1;simpa only [vI] using this);have g2:decide (vI G i<len)=true:=decide_eq_true (by have:=of_decide_eq_true g2;simpa only [vI] using this);simp only [this,g1,g2,Bool.and_self]
    ·simp at h
   ·simp at h
  ·simp at h
 ·simp only [E3,←vV_evD];split at h
  ·rename_i h1 he;simp only [Option.some.injEq,Prod.mk.injEq] at h;obtain ⟨rfl,rfl⟩:=h;simp only [h1,he,vV,vS]
  ·rename_i mb r off n h1 he;simp only [h1,he,vV];split at h
   ·rename_i c0 cs hcs;simp only [aE,Option.some.injEq,Prod.mk.injEq] at h;obtain ⟨rfl,rfl⟩:=h;obtain ⟨g0,hc⟩:=A5 hc;rw [Ck hG hcs g0];obtain ⟨g1,g2⟩:=A5 hc;rw [G3,E6,L9] at g1;simp only [vB,S4,u8s] at g2;have g1:decide (vN G off+vN G n≤(vL G cs).length)=true:=g1;simp only [Ya,g1,g2,Bool.and_self,vV,vS,S4,strL]
   ·simp at h
  ·simp at h
 ·simp at h
theorem Ke {C:Ctx} (hG:C.G=G) {H:DHp} {z:Nat} {x:EV} {c:EB} {m:EN} {xs:EL} (h:cW H z x=some (c,m,xs)) (hc:vB G c=true) :
  Ei C (B0 G H) z (vV G x)=some (true,vN G m,vL G xs):=by
 unfold cW at h;split at h
 ·simp only [Option.some.injEq,Prod.mk.injEq] at h;obtain ⟨rfl,rfl,rfl⟩:=h;simp only [vV,Ei,vN,vL,vVs]
 ·rename_i mb r off m';split at h
  ·rename_i c0 cs hcs;simp only [Option.some.injEq,Prod.mk.injEq] at h;obtain ⟨rfl,rfl,rfl⟩:=h;obtain ⟨g0,hc⟩:=A5 hc;obtain ⟨g1,g2⟩:=A5 hc;rw [G3,E6,K6,L9] at g1;rw [Gw,S4,K6] at g2;simp only [vV,Ei,Ck hG hcs g0];have g1:decide (vN G off+vN G m'*z≤(vL G cs).length)=true:=g1;simp only [g1,g2,Bool.and_self,S4,K6]
  ·simp at h
 ·rename_i s;split at h
  ·rename_i hz;have hz:=Nat.eq_of_beq_eq_true hz;subst hz;simp only [Option.some.injEq,Prod.mk.injEq] at h;obtain ⟨rfl,rfl,rfl⟩:=h;simp only [vV,Ei,S2,Mi,decide_true]
  ·simp at h
 ·simp at h
theorem Ge {v:EV} {n:Nat} (h:Gf (some v) n=true):(A3 (vV G v)).length=n:=by
 unfold Gf at h;simp only at h;rw [←N1];split at h
 ·rename_i cs he;rw [he];simp only [vL,P3];exact Nat.eq_of_beq_eq_true h
 ·simp at h
def Ww (G:Nat→List AV) (o:Option (EB×EV×DHop)) (p:Option (Bool×AV×Hop)):Prop:=∀ c v h,o=some (c,v,h)→vB G c=true→p=some (true,vV G v,F7 G h)
theorem Re {C:Ctx} (hG:C.G=G) {H:DHp} {t:TypeId} {s x:EV}:Ww G (Ki C.P H t s x) (Ar C (B0 G H) t (vV G s) (vV G x)):=by
 intro c v hp h hc;unfold Ki at h;unfold Ar;split at h
 rotate_left
 ·simp at h
 rename_i e hu;simp only [hu];split at h
 rotate_left
 ·simp at h
 rename_i i zv hi hz;have hz:=W3 (G:=G) hz;simp only [hi,hz];split at h
 ·simp at h
 rename_i hb;obtain ⟨hok,hb⟩:=I0 hb;obtain ⟨hb1,hb2⟩:=I0 hb;have hlen:((A3 (vV G zv)).length==i.size)=true:=by rw [Ge hb2];simp
 have hby:decide (1≤i.bytes)=true:=decide_eq_true (Nat.le_of_ble_eq_true hb1);split at h
 rotate_left
 ·simp at h
 rename_i c' m xs hs;split at h
 ·simp only [Option.some.injEq,Prod.mk.injEq] at h;obtain ⟨rfl,rfl,rfl⟩:=h;obtain ⟨g1,g2⟩:=A5 hc;have e1:=Ke hG hs g1;rw [G3,K6] at g2;simp only [vN] at g2;have g2:decide (vN G m*i.bytes≤140737488355328)=true:=g2;simp only [e1,vV,g2,hby,hlen,hok,Bool.and_self,K4,vR,vN,here,C7,F7,J6]
 ·rename_i mb j;split at h
  ·rename_i b hj;split at h
   ·rename_i hez;have hez:=Nat.eq_of_beq_eq_true hez;simp only [Option.some.injEq,Prod.mk.injEq] at h;obtain ⟨rfl,rfl,rfl⟩:=h;obtain ⟨g1,g2⟩:=A5 hc;have e1:=Ke hG hs g1;rw [G3,K6] at g2;simp only [vN] at g2;have g2:decide (vN G m*i.bytes≤140737488355328)=true:=g2;have hr:∀ l,isRec ⟨i.size,l⟩=false:=fun l=>T1 hok;have g4:decide (0*i.size≤(vL G b.cells).length)=true:=decide_eq_true (by omega)
    simp only [hr,Bool.not_false,e1,vV,vR,vN,S5 hj,J6,g2,hby,hlen,hez,beq_self_eq_true,Bool.and_self,K4,here,C7,F7,Nat.zero_add,Nat.zero_mul,List.take_zero,List.nil_append,Nat.zero_le,decide_true]
   ·simp at h
  ·simp at h
 ·rename_i mb j n;split at h
  ·rename_i b hj;split at h
   ·rename_i hez;have hez:=Nat.eq_of_beq_eq_true hez;simp only [Option.some.injEq,Prod.mk.injEq] at h;obtain ⟨rfl,rfl,rfl⟩:=h;obtain ⟨g1,hc⟩:=A5 hc;obtain ⟨g2,g3⟩:=A5 hc;have e1:=Ke hG hs g1;rw [G3,K6,E6] at g2;simp only [vN] at g2;rw [G3,L9,K6] at g3;have g2:decide ((vN G n+vN G m)*i.bytes≤140737488355328)=true:=g2;have hr:∀ l,isRec ⟨i.size,l⟩=false:=fun l=>T1 hok;have g4:decide (vN G n*i.size≤(vL G b.cells).length)=true:=g3
    simp only [hr,Bool.not_false,e1,vV,vR,vN,Nat.mul_one,S5 hj,J6,g2,hby,hlen,hez,g4,beq_self_eq_true,Bool.and_self,K4,here,C7,F7,Qh,S4,E6,K6,cU,List.drop_zero]
   ·simp at h
  ·simp at h
 ·rename_i mb j n _ _;split at h
  ·rename_i b hj;split at h
   ·rename_i hez;have hez:=Nat.eq_of_beq_eq_true hez;simp only [Option.some.injEq,Prod.mk.injEq] at h;obtain ⟨rfl,rfl,rfl⟩:=h;obtain ⟨g1,hc⟩:=A5 hc;obtain ⟨g2,g3⟩:=A5 hc;have e1:=Ke hG hs g1;rw [G3,K6,E6] at g2;simp only [vN] at g2;rw [Sn,L9,K6] at g3;have g3:=Nat.eq_of_beq_eq_true g3;have g2:decide ((vN G n+vN G m)*i.bytes≤140737488355328)=true:=g2;have hr:∀ l,isRec ⟨i.size,l⟩=false:=fun l=>T1 hok;have g4:decide (vN G n*i.size≤(vL G b.cells).length)=true:=decide_eq_true (by omega)
    have g5:(vL G b.cells).take (vN G n*i.size)=vL G b.cells:=List.take_of_length_le (by omega);simp only [hr,Bool.not_false,e1,vV,vR,vN,S5 hj,J6,g2,hby,hlen,hez,g4,g5,beq_self_eq_true,Bool.and_self,K4,here,C7,F7,Qh,E6]
   ·simp at h
  ·simp at h
 ·simp at h
theorem Mh {l:EL} {o:EN} {v:EV} {z:Nat} (hz:H4 (vV G v)=z):vL G (Jq l o v z)=F6 (vL G l) (vN G o) (vV G v):=by
 unfold Jq;split
 ·rename_i d;split
  ·rename_i cs _;split
   ·rename_i hb;have hb:=Nat.eq_of_beq_eq_true hb;simp only [vV,H4] at hz;simp only [vV,F6,Qk,vL,vN,List.take_zero,List.nil_append,Nat.zero_add];rw [List.drop_of_length_le (by rw [P3];omega),List.append_nil]
   ·exact Cv _ _ _
  ·exact Cv _ _ _
 ·exact Cv _ _ _
theorem Zm {C:Ctx} {H:DHp} {t:TypeId} {s x:EV}:Ww G (Dj C.P H t s x) (Fm C (B0 G H) t (vV G s) (vV G x)):=by
 intro c v hp h hc;unfold Dj at h;unfold Fm;split at h
 rotate_left
 ·simp at h
 rename_i e n hu;simp only [hu,vV];split at h
 rotate_left
 ·simp at h
 rename_i i zv hi hz;simp only [hi,W3 (G:=G) hz];split at h
 rotate_left
 ·simp at h
 rename_i hb;obtain ⟨hok,hb⟩:=I0 hb;obtain ⟨hb0,hb⟩:=I0 hb;obtain ⟨hb1,hb2⟩:=I0 hb;simp only [Option.some.injEq,Prod.mk.injEq] at h;obtain ⟨rfl,rfl,rfl⟩:=h;obtain ⟨g1,g3⟩:=A5 hc;rw [M0] at g1 g3
 have ebig:vI G (Dj.mkBigD n i.bytes)=vI G n*i.bytes:=by
  unfold Dj.mkBigD
  split<;>simp [vI,vVs,vV,Zk]
 rw [ebig] at g3;simp only [vI] at g1 g3;have g1:decide (0≤vI G n)=true:=decide_eq_true (of_decide_eq_true g1);have g3:decide (vI G n*i.bytes≤140737488355328)=true:=decide_eq_true (of_decide_eq_true g3);have g0:decide (1≤i.bytes)=true:=decide_eq_true (Nat.le_of_ble_eq_true hb0);have g5:decide ((A3 (vV G zv)).length=i.size)=true:=decide_eq_true (Ge hb1);have g6:decide (1≤i.size)=true:=decide_eq_true (Nat.le_of_ble_eq_true hb2);simp only [hok,g0,g1,g3,g5,g6,Bool.and_self,vV,K4,vR,vN,here,C7,F7,J6,Kx,N1,S3]
theorem eD {C:Ctx} {H:DHp} {t:TypeId} {x:EV}:Ww G (Ve C.P H t x) (Iv C (B0 G H) t (vV G x)):=by
 intro c v hp h hc;unfold Ve at h;unfold Iv;split at h
 rotate_left
 ·simp at h
 rename_i e mb j off n hu;simp only [hu,vV,vR];split at h
 rotate_left
 ·simp at h
 rename_i z zv b hz hzv hj;split at h
 ·simp at h
 rename_i hr;rw [Bool.or_eq_false_iff] at hr;obtain ⟨hr,hb⟩:=hr;have hr:isRec (J6 G b)=false:=hr;have hb:(Gf (some zv) z&&Nat.ble 1 z)=true:=by simpa using hb
 obtain ⟨hb1,hb2⟩:=I0 hb;simp only [hz,W3 (G:=G) hzv,S5 hj,hr,Bool.not_false,Bool.true_and];simp only [Option.some.injEq,Prod.mk.injEq] at h;obtain ⟨rfl,rfl,rfl⟩:=h;obtain ⟨g1,hc⟩:=A5 hc;obtain ⟨g2,g3⟩:=A5 hc;rw [G3] at g1 g3;rw [Gw,N1] at g2;rw [E6,K6,L9] at g3;simp only [vN] at g1;have g1:decide (1≤vN G n)=true:=g1;have g3:decide (vN G off+vN G n*z≤(vL G b.cells).length)=true:=g3;have g5:decide ((A3 (vV G zv)).length=z)=true:=decide_eq_true (Ge hb1)
 have g6:decide (1≤z)=true:=decide_eq_true (Nat.le_of_ble_eq_true hb2);simp only [g1,g2,g5,g6,J6,vV,vVs,F7,Cv,F6,Kx,N1];have g7:=of_decide_eq_true g3;simp only [g7,decide_true,Bool.and_self]
theorem Si {C:Ctx} (hG:C.G=G) {F:DFr} {H:DHp} {op:Op}:Ww G (Et C.P F H op) (D2 C (vVs G F) (B0 G H) op):=by
 intro c v hp h hc;unfold Et at h;split at h
 ·-- store
  simp only [D2,←vV_evD];split at h
  ·rename_i i off z he hz;simp only [he,hz,vV,vR];split at h
   ·rename_i b hb;split at h
    ·simp at h
    rename_i hr;have hr:∀ l,isRec ⟨b.esz,l⟩=false:=fun _=>hr;simp only [Option.some.injEq,Prod.mk.injEq] at h;obtain ⟨rfl,rfl,rfl⟩:=h;obtain ⟨g1,hc⟩:=A5 hc;obtain ⟨g2,g3⟩:=A5 hc;rw [G3,E6,L9] at g3;simp only [vN] at g3;have g3:decide (vN G off+z≤(vL G b.cells).length)=true:=g3;simp only [hr,Bool.not_false,S5 hb,J6,In _ g1,Bd g2,g3,beq_self_eq_true,Bool.and_self,vV,vVs,F7,Mh (Bd g2)]
   ·simp at h
  ·simp at h
 ·-- alloc
  simp only [D2];split at h
  ·rename_i z hz;simp only [W3 (G:=G) hz];simp only [Option.some.injEq,Prod.mk.injEq] at h;obtain ⟨rfl,rfl,rfl⟩:=h;simp only [vV,K4,vR,vN,here,C7,F7,J6,N1]
  ·simp at h
 ·-- box
  simp only [D2,←vV_evD];split at h
  ·rename_i hk;simp only [Option.some.injEq,Prod.mk.injEq] at h;obtain ⟨rfl,rfl,rfl⟩:=h;simp only [Uc hk,vV,K4,vR,vN,here,C7,F7,J6,N1]
  ·simp at h
 ·-- buildSlice
  rename_i t n parts;simp only [D2];split at h
  rotate_left
  ·simp at h
  rename_i e hu;simp only [hu];split at h
  rotate_left
  ·simp at h
  rename_i z zv hz hzv;simp only [hz,W3 (G:=G) hzv];split at h
  rotate_left
  ·simp at h
  rename_i cs hcs;split at h
  rotate_left
  ·simp at h
  rename_i hb;obtain ⟨hok,hb⟩:=I0 hb;obtain ⟨hb1,hb2⟩:=I0 hb;have e0:A3 (vV G zv)=vVs G cs:=by rw [←N1,hcs];simp only [vL]
  have e1:(vVs G cs).length=z:=by rw [P3];exact Nat.eq_of_beq_eq_true hb2
  split at h
  ·rename_i c' cs' hf;simp only [Option.some.injEq,Prod.mk.injEq] at h;obtain ⟨rfl,rfl,rfl⟩:=h
   have:=Jw _ _ _ _ hf hc
   have e2:vL G (.of (List.replicate n cs).flatten)=(List.replicate n (A3 (vV G zv))).flatten:=by
    simp only [vL,e0,I6,List.map_flatten,List.map_replicate]
   rw [e2,List.map_map] at this
   have e3:(List.map ((fun p:Nat×EV=>(p.1,vV G p.2)) ∘ fun p:Nat×Operand=>(p.1,evD F p.2)) parts.toList)=List.map (fun p=>(p.1,ev (vVs G F) p.2)) parts.toList:=by
    refine List.map_congr_left fun p _=>?_;simp [vV_evD]
   rw [e3] at this;have hb1:decide (n*z≤16777216)=true:=decide_eq_true (Nat.le_of_ble_eq_true hb1);rw [e0] at this;simp only [hok,e0,this,e1,hb1,decide_true,Bool.and_self,vV,K4,vR,vN,here,C7,F7,J6]
  ·simp at h
 ·-- makeSlice
  simp only [D2,←vV_evD];split at h
  rotate_left
  ·simp at h
  rename_i e k l k' c' hu hl hc';simp only [hu,hl,hc',vV];split at h
  rotate_left
  ·simp at h
  rename_i i zv hi hz;simp only [hi,W3 (G:=G) hz];split at h
  rotate_left
  ·simp at h
  rename_i hb;obtain ⟨hok,hb⟩:=I0 hb;obtain ⟨hb1,hb2⟩:=I0 hb;simp only [Option.some.injEq,Prod.mk.injEq] at h;obtain ⟨rfl,rfl,rfl⟩:=h;obtain ⟨g1,hc⟩:=A5 hc;obtain ⟨g2,hc⟩:=A5 hc;obtain ⟨g3,g4⟩:=A5 hc;rw [M0] at g1 g2 g3 g4
  have ebig:vI G (Et.mkBig c' i.bytes)=vI G c'*i.bytes:=by
   unfold Et.mkBig
   split<;>simp [vI,vVs,vV,Zk]
  rw [ebig] at g3;simp only [vI] at g1 g3 g4;have g1:decide (0≤vI G l)=true:=decide_eq_true (of_decide_eq_true g1);have g2:decide (vI G l≤vI G c')=true:=decide_eq_true (of_decide_eq_true g2);have g3:decide (vI G c'*i.bytes≤140737488355328)=true:=decide_eq_true (of_decide_eq_true g3);have g4:decide (vI G c'≤140737488355328)=true:=decide_eq_true (of_decide_eq_true g4);have g5:decide ((A3 (vV G zv)).length=i.size)=true:=decide_eq_true (Ge hb1);have g6:decide (1≤i.size)=true:=decide_eq_true (Nat.le_of_ble_eq_true hb2)
  simp only [hok,g1,g2,g3,g4,g5,g6,Bool.and_self,vV,K4,vR,vN,here,C7,F7,J6,Kx,N1,S3]
 ·-- convert
  simp only [D2,←vV_evD];split at h
  ·rename_i s h1 he;simp only [h1,he,vV];simp only [Option.some.injEq,Prod.mk.injEq] at h;obtain ⟨rfl,rfl,rfl⟩:=h;rw [G3,S2] at hc;simp only [vN] at hc;have hc:decide ((vS G s).length≤140737488355328)=true:=hc;simp only [hc,vV,K4,vR,vN,here,C7,F7,J6,S2,Mi]
  ·rename_i mb i off n h1 he;simp only [h1,he,vV,vR];split at h
   ·rename_i h2;simp only [h2];split at h
    ·rename_i b hb;split at h
     ·simp at h
     rename_i hr;have hr:isRec (J6 G b)=false:=hr;simp only [S5 hb,hr,Bool.not_false,Bool.true_and];simp only [Option.some.injEq,Prod.mk.injEq] at h;obtain ⟨rfl,rfl,rfl⟩:=h;rw [G3] at hc;simp only [vN] at hc;have hc:Nat.ble 1 (vN G n)=true:=Nat.ble_eq_true_of_le (R5.1 hc);simp only [hc,vV,vR,F7]
    ·simp at h
   ·simp at h
  ·simp at h
 ·-- append
  simp only [D2];split at h
  rotate_left
  ·simp at h
  rename_i s x t u h1 h2;simp only [h1,h2,←vV_evD];split at h
  ·rename_i e hu;simp only [hu];exact Re hG _ _ _ h hc
  ·rename_i hu;simp only [hu];exact Re hG _ _ _ h hc
  ·rename_i k hu;simp only [hu];exact Zm _ _ _ h hc
  ·simp at h
 ·-- clear
  simp only [D2];split at h
  rotate_left
  ·simp at h
  rename_i x t h1 h2;simp only [h1,h2,←vV_evD];exact eD _ _ _ h hc
 ·simp at h
theorem bP {C:Ctx} (hG:C.G=G) {fam:TypeId→Option (Nat×Nat)} {F:DFr} {H:DHp} {op:Op} {c0:EB} {x:FamR} (h:Uy fam C.P F H op=some (c0,x)) (h0:vB G c0=true):WoF G x (E3 C (vVs G F) (B0 G H) op):=by
 unfold Uy at h;split at h
 ·rename_i t a;simp only [E3,←vV_evD];split at h
  ·rename_i r off he;simp only [he,vV];split at h
   ·simp at h
   ·rename_i hr;split at h
    ·rename_i c1 cs hcs;split at h
     ·rename_i y hp;simp only [Option.some.injEq,Prod.mk.injEq] at h;obtain ⟨rfl,rfl⟩:=h
      have hl:Cg C (B0 G H) t (vR G r) (vN G off)=L2 C.P t (vL G cs) (vN G off):=by
       unfold Cg;rw [Ck hG hcs h0];cases r with
       | rw i=>simp only [vR,Dx]
       | ro n=>exact absurd rfl (hr n)
       | fm b c k=>simp only [vR,Dx]
      rw [hl];exact Pp hp
     ·simp at h
    ·simp at h
  ·simp at h
 ·simp only [E3,←vV_evD];split at h
  ·rename_i fs cs hu he;simp only [hu,he,vV];split at h
   ·rename_i fd hf;simp only [hf];split at h
    ·rename_i y hp;simp only [Option.some.injEq,Prod.mk.injEq] at h;obtain ⟨rfl,rfl⟩:=h
     have:=Pp (G:=G) hp
     simpa only [vN] using this
    ·simp at h
   ·simp at h
  ·simp at h
 ·simp only [E3,←vV_evD];split at h
  ·rename_i len e cs k i hu he hi;simp only [hu,he,hi,vV];split at h
   ·rename_i z hz;simp only [hz];split at h
    ·rename_i y hp;simp only [Option.some.injEq,Prod.mk.injEq] at h;obtain ⟨rfl,rfl⟩:=h;obtain ⟨g1,g2⟩:=A5 h0
     have:=Pp (G:=G) hp
     rw [Bc,S3] at this;rw [M0] at g1 g2;have g1:decide (0≤vI G i)=true:=decide_eq_true (by have:=of_decide_eq_true g1;simpa only [vI] using this);have g2:decide (vI G i<len)=true:=decide_eq_true (by have:=of_decide_eq_true g2;simpa only [vI] using this);cases y with
     | val c v=>exact fun hc=>by simp only [this hc,g1,g2,Bool.and_self]
     | ptr n c v=>exact ⟨fun hc=>by simp only [this.1 hc,g1,g2,Bool.and_self],fun hc=>by simp only [this.2 hc,g1,g2,Bool.and_self]⟩
    ·simp at h
   ·simp at h
  ·simp at h
 ·simp at h
theorem Rf (b:Nat) (f:Nat→Blk):∀ (c:Nat) (H:Hp),(acts H ((List.range c).map fun j=>Hop.set (b+j) (f j))).length=H.length∧∀ i,(acts H ((List.range c).map fun j=>Hop.set (b+j) (f j)))[i]?=if b≤i∧i<b+c∧i<H.length then some (some (f (i - b))) else H[i]?
 | 0,H=>⟨by simp [acts],fun i=>by rw [if_neg (by omega)];simp [acts]⟩
 | c+1,H=>by
  have app:∀ (hs ks:List Hop) (H:Hp),acts H (hs++ks)=acts (acts H hs) ks:=by
   intro hs
   induction hs with
   | nil=>intro ks H;rfl
   | cons h hs ih=>intro ks H;exact ih ks _
  obtain ⟨h1,h2⟩:=Rf b f c H;rw [List.range_succ,List.map_append,app];simp only [List.map_cons,List.map_nil,acts,Hop.act];refine ⟨by rw [List.length_set,h1],fun i=>?_⟩;rw [List.getElem?_set,h1];by_cases e:b+c=i
  ·subst e;rw [if_pos rfl];by_cases hl:b+c<H.length
   ·rw [if_pos hl,if_pos (by omega),show b+c - b=c by omega]
   ·rw [if_neg hl,if_neg (by omega),List.getElem?_eq_none (by omega)]
  ·rw [if_neg e,h2];by_cases hi:b≤i∧i<b+c∧i<H.length
   ·rw [if_pos hi,if_pos (by omega)]
   ·rw [if_neg hi,if_neg (by omega)]
theorem Za {H:DHp} {b c z:Nat} {l l2:EL} {ls:List EV} {k:Nat} {N:List AV} (hf:Ka H b c=some (z,l,ls)) (hr:Mp (vL G l) (vVs G ls)=true) (hk:k<c) (hkl:k<(vL G l).length) (h2:vL G l2=Pa (vL G l) k N) :
  acts (B0 G H) ((Jx b c z l2).map (F7 G))=(B0 G H).set (b+k) (some ⟨z,N⟩):=by
 have e0:(Jx b c z l2).map (F7 G)=(List.range c).map fun j=>Hop.set (b+j) ⟨z,Da (Pa (vL G l) k N) j⟩:=by
  unfold Jx;rw [List.map_map];refine List.map_congr_left fun j _=>?_;simp only [Function.comp,F7,J6,vL,vN,h2]
 rw [e0];obtain ⟨h1,h3⟩:=Rf b (fun j=>⟨z,Da (Pa (vL G l) k N) j⟩) c (B0 G H);refine List.ext_getElem? fun i=>?_;rw [h3,List.getElem?_set]
 have hput:∀ j,Da (Pa (vL G l) k N) j=if k=j then N else Da (vL G l) j:=fun j=>by
  unfold Da Pa;rw [List.getElem?_set];by_cases e:k=j
  ·subst e;rw [if_pos rfl,if_pos rfl,if_pos hkl]
  ·rw [if_neg e,if_neg e]
 by_cases hi:b≤i∧i<b+c∧i<(B0 G H).length
 ·rw [if_pos hi,hput];by_cases e:b+k=i
  ·subst e;rw [if_pos rfl,if_pos (by omega),if_pos hi.2.2]
  ·rw [if_neg e,if_neg (by omega)]
   have:=Nu hf hr (i:=i - b) (by omega)
   rw [show b+(i - b)=i by omega] at this;rw [this]
 ·rw [if_neg hi];by_cases e:b+k=i
  ·subst e
   have:=Nu hf hr hk
   have:=(List.getElem?_eq_some_iff.1 this).1
   omega
  ·rw [if_neg e]
theorem Zu {C:Ctx} (hG:C.G=G) {F:DFr} {H:DHp} {op:Op} {c:EB} {hs:List DHop} (h:Ol C.P F H op=some (c,hs)) (hc:vB G c=true) :
  ∃ hp,D2 C (vVs G F) (B0 G H) op=some (true,.tup [],hp)∧hp.act (B0 G H)=acts (B0 G H) (hs.map (F7 G)):=by
 unfold Ol at h;split at h
 ·rename_i t a x;simp only [D2,←vV_evD];split at h
  ·rename_i b cc k off z he hz;simp only [he,hz,vV,vR];split at h
   ·rename_i z0 l ls hf;simp only [Option.some.injEq,Prod.mk.injEq] at h;obtain ⟨rfl,rfl⟩:=h;obtain ⟨g1,hc⟩:=A5 hc;obtain ⟨g2,hc⟩:=A5 hc;obtain ⟨g3,hc⟩:=A5 hc;obtain ⟨g4,hc⟩:=A5 hc;obtain ⟨g5,g6⟩:=A5 hc;rw [G3,E6] at g1 g3;simp only [vN] at g1 g3;have g1:=R5.1 g1;have g3:=R5.1 g3;simp only [vB] at g2;rw [G3,E6,L9] at g6;simp only [vN,vL] at g6;have g6:decide (vN G off+z≤(Da (vL G l) (vN G k)).length)=true:=g6;have hr:∀ l',isRec ⟨z0,l'⟩=false:=fun _=>(Lw hf).1
    refine ⟨.set (b+vN G k) ⟨z0,F6 (Da (vL G l) (vN G k)) (vN G off) (vV G (evD F x))⟩,?_,?_⟩
    ·simp only [Nu hf g2 (show vN G k<cc by omega),hr,Bool.not_false,In _ g4,Bd g5,g6,beq_self_eq_true,Bool.and_self]
    ·rw [Za (k:=vN G k) (N:=F6 (Da (vL G l) (vN G k)) (vN G off) (vV G (evD F x))) hf g2 (by omega) (by omega) (by simp only [vL,Mh (Bd g5)])];rfl
   ·simp at h
  ·simp at h
 ·simp at h
theorem Xt {F:DFr} {op:Op} {f:FuncId} {args:List EV} (h:Kh F op=some (f,args)):callOp (vVs G F) op=some (f,vVs G args):=by
 unfold Kh at h;split at h
 ·simp only [callOp,←vV_evD];split at h
  ·rename_i g cap he;simp only [Option.some.injEq,Prod.mk.injEq] at h;obtain ⟨rfl,rfl⟩:=h;simp only [he,vV,Fq,Tv]
  ·simp at h
 ·simp at h
theorem Zs {F:DFr} {op:Op} {i:Nat} {args:List EV} (h:Ok F op=some (i,args)):yldOp (vVs G F) op=some (i,vVs G args):=by
 unfold Ok at h;split at h
 ·simp only [yldOp,←vV_evD];split at h
  ·rename_i g he;simp only [Option.some.injEq,Prod.mk.injEq] at h;obtain ⟨rfl,rfl⟩:=h;simp only [he,vV,Tv]
  ·simp at h
 ·simp at h
theorem aO {C:Ctx} (hG:C.G=G) {F:DFr} {H:DHp} (x:ResultVar):Wo G (Ow C.P F H x) (Hr C (vVs G F) (B0 G H) x):=by
 intro c v h hc;unfold Ow at h;unfold Hr;split at h
 ·simp only [Option.some.injEq,Prod.mk.injEq] at h;obtain ⟨rfl,rfl⟩:=h;simp only [Aj,S1]
 ·simp only [S1];simp only [Aj] at h;split at h
  ·rename_i r off he;simp only [he,vV];exact Xg hG _ _ h hc
  ·simp at h
theorem Ht {C:Ctx} (hG:C.G=G) {F:DFr} {H:DHp}:∀ (xs:List ResultVar) (c:EB) (vs:List EV),Fc C.P F H xs=some (c,vs)→vB G c=true→X9 C (vVs G F) (B0 G H) xs=some (true,vVs G vs)
 | [],c,vs,h,_=>by
  simp only [Fc,Option.some.injEq,Prod.mk.injEq] at h;obtain ⟨rfl,rfl⟩:=h;simp only [X9,vVs]
 | x::xs,c,vs,h,hc=>by
  unfold Fc at h;split at h
  ·rename_i c1 v h1;split at h
   ·rename_i d r h2;simp only [Option.some.injEq,Prod.mk.injEq] at h;obtain ⟨rfl,rfl⟩:=h;obtain ⟨g1,g2⟩:=A5 hc;simp only [X9,aO hG x _ _ h1 g1,Ht hG xs _ _ h2 g2,Bool.and_self,vVs]
   ·simp at h
  ·simp at h
theorem Te {C:Ctx} (hG:C.G=G) {fn:Func} {F:DFr} {H:DHp}:Wo G (dE C.P fn F H) (Ox C fn (vVs G F) (B0 G H)):=by
 intro c v h hc;unfold dE at h;unfold Ox;split at h
 ·rename_i c' v' hr;simp only [Option.some.injEq,Prod.mk.injEq] at h;obtain ⟨rfl,rfl⟩:=h;simp only [Ht hG _ _ _ hr hc,vVs]
 ·rename_i c' vs hn hr;simp only [Option.some.injEq,Prod.mk.injEq] at h;obtain ⟨rfl,rfl⟩:=h;rw [Ht hG _ _ _ hr hc];cases vs with
  | nil=>simp only [vVs,vV]
  | cons x l=>cases l with
   | nil=>exact absurd rfl (hn _)
   | cons y l=>simp only [vVs,vV]
 ·simp at h
end Go.Am
namespace Go.Am
variable {G:Nat→List AV}
def vT (G:Nat→List AV) (Q:Ex→List AV→Hp→Prop) (R:AV→Hp→Prop):T→Prop
 | .fail=>False
 | .chk b t=>vB G b=true∧vT G Q R t
 | .tst b x y=>(vB G b=true→vT G Q R x)∧(vB G b=false→vT G Q R y)
 | .imp b t=>vB G b=true→vT G Q R t
 | .allI _ k=>∀ x,vT G Q R (k x)
 | .allN _ k=>∀ x,vT G Q R (k x)
 | .allB _ k=>∀ x,vT G Q R (k x)
 | .allL _ k=>∀ x,vT G Q R (k x)
 | .namI _ e k=>∀ x,x=vI G e→vT G Q R (k x)
 | .namN _ e k=>∀ x,x=vN G e→vT G Q R (k x)
 | .namB _ e k=>∀ x,x=vB G e→vT G Q R (k x)
 | .namL _ e k=>∀ x,x=vL G e→vT G Q R (k x)
 | .leaf e F H=>Q e (vVs G F) (B0 G H)
 | .ret v H=>R (vV G v) (B0 G H)
section
variable {Q:Ex→List AV→Hp→Prop} {R:AV→Hp→Prop}
theorem M9:∀ (b:EB) {t:T},vT G Q R (U9 b t)→vB G b=true∧vT G Q R t
 | .lit true,t,h=>⟨rfl,h⟩
 | .lit false,t,h=>h.elim
 | .and a b,t,h=>by
  simp only [U9] at h;obtain ⟨h1,h⟩:=M9 a h;obtain ⟨h2,h⟩:=M9 b h;exact ⟨by simp [vB,h1,h2],h⟩
 | .var ..,t,h=>h
 | .cmp ..,t,h=>h
 | .not ..,t,h=>h
 | .eqB ..,t,h=>h
 | .eqS ..,t,h=>h
 | .isI ..,t,h=>h
 | .isB ..,t,h=>h
 | .isT ..,t,h=>h
 | .isR ..,t,h=>h
 | .get ..,t,h=>h
 | .leN ..,t,h=>h
 | .eqN ..,t,h=>h
 | .leaf ..,t,h=>h
 | .u8s ..,t,h=>h
 | .cells ..,t,h=>h
 | .isF ..,t,h=>h
 | .isP ..,t,h=>h
 | .isNil ..,t,h=>h
 | .rows ..,t,h=>h
 | .uf ..,t,h=>h
def Bran (G:Nat→List AV) (Q:Ex→List AV→Hp→Prop) (R:AV→Hp→Prop) (n:Nat) (b:EB) (x y:Facts→T):Prop:=
 (vB G b=true∧∃ fs':Facts,fs'.n=n∧vT G Q R (x fs'))∨(vB G b=false∧∃ fs':Facts,fs'.n=n∧vT G Q R (y fs'))
theorem J3 {fs:Facts} {b:EB} {x y:Facts→T} (h:vT G Q R (match dec fs b with | some true=>.chk b (x fs) | some false=>.chk (.not b) (y fs) | none=>.tst b (x (Ax fs b true)) (y (Ax fs b false)))):Bran G Q R fs.n b x y:=by
 have hl:∀ v,(Ax fs b v).n=fs.n:=fun v=>by unfold Ax;rfl
 split at h
 ·exact .inl ⟨h.1,fs,rfl,h.2⟩
 ·refine .inr ⟨?_,fs,rfl,h.2⟩
  have:=h.1
  simpa [vB] using this
 ·cases hb:vB G b with
  | true=>exact .inl ⟨hb,_,hl _,h.1 hb⟩
  | false=>exact .inr ⟨hb,_,hl _,h.2 hb⟩
theorem O7:∀ (b:EB) (fs:Facts) (x y:Facts→T),vT G Q R (P4 fs b x y)→Bran G Q R fs.n b x y
 | .lit true,fs,x,y,h=>.inl ⟨rfl,fs,rfl,h⟩
 | .lit false,fs,x,y,h=>.inr ⟨rfl,fs,rfl,h⟩
 | .not b,fs,x,y,h=>by
  simp only [P4] at h;rcases O7 b fs y x h with ⟨h1,h2⟩ | ⟨h1,h2⟩
  ·exact .inr ⟨by simp [vB,h1],h2⟩
  ·exact .inl ⟨by simp [vB,h1],h2⟩
 | .and a b,fs,x,y,h=>by
  simp only [P4] at h;rcases O7 a fs _ _ h with ⟨h1,fs1,e1,h2⟩ | ⟨h1,h2⟩
  ·rcases O7 b fs1 _ _ h2 with ⟨h3,h4⟩ | ⟨h3,h4⟩
   ·rw [e1] at h4;exact .inl ⟨by simp [vB,h1,h3],h4⟩
   ·rw [e1] at h4;exact .inr ⟨by simp [vB,h1,h3],h4⟩
  ·exact .inr ⟨by simp [vB,h1],h2⟩
 | .eqB a b,fs,x,y,h=>by
  simp only [P4] at h;rcases O7 a fs _ _ h with ⟨h1,fs1,e1,h2⟩ | ⟨h1,fs1,e1,h2⟩
  ·rcases O7 b fs1 _ _ h2 with ⟨h3,h4⟩ | ⟨h3,h4⟩
   ·rw [e1] at h4;exact .inl ⟨by simp [vB,h1,h3],h4⟩
   ·rw [e1] at h4;exact .inr ⟨by simp [vB,h1,h3],h4⟩
  ·rcases O7 b fs1 _ _ h2 with ⟨h3,h4⟩ | ⟨h3,h4⟩
   ·rw [e1] at h4;exact .inr ⟨by simp [vB,h1,h3],h4⟩
   ·rw [e1] at h4;exact .inl ⟨by simp [vB,h1,h3],h4⟩
 | .var ..,fs,x,y,h=>J3 h
 | .cmp ..,fs,x,y,h=>J3 h
 | .eqS ..,fs,x,y,h=>J3 h
 | .isI ..,fs,x,y,h=>J3 h
 | .isB ..,fs,x,y,h=>J3 h
 | .isT ..,fs,x,y,h=>J3 h
 | .isR ..,fs,x,y,h=>J3 h
 | .get ..,fs,x,y,h=>J3 h
 | .leN ..,fs,x,y,h=>J3 h
 | .eqN ..,fs,x,y,h=>J3 h
 | .leaf ..,fs,x,y,h=>J3 h
 | .u8s ..,fs,x,y,h=>J3 h
 | .cells ..,fs,x,y,h=>J3 h
 | .isF ..,fs,x,y,h=>J3 h
 | .isP ..,fs,x,y,h=>J3 h
 | .isNil ..,fs,x,y,h=>J3 h
 | .rows ..,fs,x,y,h=>J3 h
 | .uf ..,fs,x,y,h=>J3 h
theorem Cu {o:Option (EB×EV)} {k:EV→T} (h:vT G Q R (Nc o k)):∃ c v,o=some (c,v)∧vB G c=true∧vT G Q R (k v):=by
 unfold Nc at h;split at h
 ·rename_i c v;obtain ⟨h1,h2⟩:=M9 c h;exact ⟨c,v,rfl,h1,h2⟩
 ·exact h.elim
end
def Y1 (G:Nat→List AV) (P:EV→List DHop→Prop):Outs→Prop
 | .one v hs=>P v hs
 | .chk b x=>vB G b=true→Y1 G P x
 | .tst b x y=>(vB G b=true→Y1 G P x)∧(vB G b=false→Y1 G P y)
 | .namI e f=>∀ j,Y1 G P (f (.var j (vI G e)))
 | .namN e f=>∀ j,Y1 G P (f (.var j (vN G e)))
 | .namB e f=>∀ j,Y1 G P (f (.var j (vB G e)))
 | .namL e f=>∀ j,Y1 G P (f (.var j (vL G e)))
theorem O8 {Q:Ex→List AV→Hp→Prop} {R:AV→Hp→Prop} {P:EV→List DHop→Prop} {k:Facts→EV→List DHop→T}:∀ (o:Outs) (fs:Facts),vT G Q R (T0 fs o k)→Y1 G P o→∃ fs' v hs,P v hs∧vT G Q R (k fs' v hs)
 | .one v hs,fs,h,ho=>⟨fs,v,hs,ho,h⟩
 | .chk b x,fs,h,ho=>by
  simp only [T0] at h;obtain ⟨h1,h2⟩:=M9 b h;exact O8 x fs h2 (ho h1)
 | .tst b x y,fs,h,ho=>by
  simp only [T0] at h;rcases O7 b fs _ _ h with ⟨h1,fs1,_,h2⟩ | ⟨h1,fs1,_,h2⟩
  ·exact O8 x fs1 h2 (ho.1 h1)
  ·exact O8 y fs1 h2 (ho.2 h1)
 | .namI e f,fs,h,ho=>O8 (f (.var fs.n (vI G e))) (fresh fs) (h _ rfl) (ho _)
 | .namN e f,fs,h,ho=>O8 (f (.var fs.n (vN G e))) (fresh fs) (h _ rfl) (ho _)
 | .namB e f,fs,h,ho=>O8 (f (.var fs.n (vB G e))) (fresh fs) (h _ rfl) (ho _)
 | .namL e f,fs,h,ho=>O8 (f (.var fs.n (vL G e))) (fresh fs) (h _ rfl) (ho _)
def E4 (G:Nat→List AV) (Q:Ex→DFr→DHp→Prop):Nat→LOut→Prop
 | _,.one e F H=>Q e F H
 | n,.chk b x=>vB G b=true∧E4 G Q n x
 | n,.tst b x y=>(vB G b=true→E4 G Q n x)∧(vB G b=false→E4 G Q n y)
 | n,.imp b x=>vB G b=true→E4 G Q n x
 | n,.allI f=>∀ x,E4 G Q (n+1) (f (.var n x))
 | n,.allN f=>∀ x,E4 G Q (n+1) (f (.var n x))
 | n,.allB f=>∀ x,E4 G Q (n+1) (f (.var n x))
 | n,.allL f=>∀ x,E4 G Q (n+1) (f (.var n x))
 | n,.namI e f=>E4 G Q (n+1) (f (.var n (vI G e)))
 | n,.namN e f=>E4 G Q (n+1) (f (.var n (vN G e)))
 | n,.namB e f=>E4 G Q (n+1) (f (.var n (vB G e)))
 | n,.namL e f=>E4 G Q (n+1) (f (.var n (vL G e)))
theorem I3 {Q:Ex→List AV→Hp→Prop} {R:AV→Hp→Prop} {k:Facts→Ex→DFr→DHp→T}:∀ (o:LOut) (fs:Facts),vT G Q R (N4 fs o k)→E4 G (fun e F H=>∃ fs',vT G Q R (k fs' e F H)) fs.n o
 | .one e F H,fs,h=>⟨fs,h⟩
 | .chk b x,fs,h=>by
  simp only [N4] at h;obtain ⟨h1,h2⟩:=M9 b h;exact ⟨h1,I3 x fs h2⟩
 | .tst b x y,fs,h=>by
  simp only [N4] at h;rcases O7 b fs _ _ h with ⟨h1,fs1,e1,h2⟩ | ⟨h1,fs1,e1,h2⟩
  ·have:=I3 x fs1 h2
   rw [e1] at this;exact ⟨fun _=>this,fun hb=>by rw [h1] at hb;simp at hb⟩
  ·have:=I3 y fs1 h2
   rw [e1] at this;exact ⟨fun hb=>by rw [h1] at hb;simp at hb,fun _=>this⟩
 | .imp b x,fs,h=>fun hb=>I3 x (Ax fs b true) (h hb)
 | .allI f,fs,h=>fun x=>I3 (f (.var fs.n x)) (fresh fs) (h x)
 | .allN f,fs,h=>fun x=>I3 (f (.var fs.n x)) (fresh fs) (h x)
 | .allB f,fs,h=>fun x=>I3 (f (.var fs.n x)) (fresh fs) (h x)
 | .allL f,fs,h=>fun x=>I3 (f (.var fs.n x)) (fresh fs) (h x)
 | .namI e f,fs,h=>I3 (f (.var fs.n _)) (fresh fs) (h _ rfl)
 | .namN e f,fs,h=>I3 (f (.var fs.n _)) (fresh fs) (h _ rfl)
 | .namB e f,fs,h=>I3 (f (.var fs.n _)) (fresh fs) (h _ rfl)
 | .namL e f,fs,h=>I3 (f (.var fs.n _)) (fresh fs) (h _ rfl)
def J1 (C:Ctx) (f:FuncId) (args:List EV) (H:DHp) (v:EV) (hs:List DHop):Prop:=
 ACalls C f (vVs C.G args) (B0 C.G H) fun v' H'=>v'=vV C.G v∧H'=acts (B0 C.G H) (hs.map (F7 C.G))
def DYld (C:Ctx) (i:Nat) (args:List EV) (H:DHp) (v:EV) (hs:List DHop):Prop:=
 AYld C i (vVs C.G args) (B0 C.G H) fun v' H'=>v'=vV C.G v∧H'=acts (B0 C.G H) (hs.map (F7 C.G))
structure Oj (C:Ctx) (K:DCfg) (lps:List Code):Prop where
 hP:K.P=C.P
 mix:C.P.follows .mixedOrders=true
 calls:∀ f args H o,K.sum f args H=some o→Y1 C.G (J1 C f args H) o
 loops:∀ m c F H o,m≤K.M→c∈lps→K.loop c F H=some o→∀ n (Q:Post),E4 C.G (fun e F' H'=>Q e (vVs C.G F') (B0 C.G H')) n o→B8 C m (.loop c) (vVs C.G F) (B0 C.G H) Q
 inl:∀ f fn c,K.inl f=true→C.P.funcs[f]?=some fn→fn.body=some c→∀ b∈C3 c,b∈lps
 rngs:∀ m c F H o,m≤K.M→c∈lps→K.rng c F H=some o→∀ n (Q:Post),E4 C.G (fun e F' H'=>Q e (vVs C.G F') (B0 C.G H')) n o→B8 C m c (vVs C.G F) (B0 C.G H) Q
 ylds:∀ i args H o,K.ysum i args H=some o→Y1 C.G (DYld C i args H) o
def K0 (C:Ctx):Cfg:={ C:=C,inl:=fun _=>false,strict:=.lazy,unr:=false,sum:=fun _ _ _=>none,loop:=fun _ _ _=>none,M:=0 }
theorem gF {C:Ctx} (h:C.P.follows .mixedOrders=true) (lps:List Code):Dn (K0 C) lps:=⟨h,fun f args H v hs h=>by simp [K0] at h,fun m c F H e F' H' _ _ h=>by simp [K0] at h⟩
noncomputable def cL (G:Nat→List AV):DTrK→TrK
 | .still=>.still
 | .read r=>.read (vR G r)
 | .write=>.write
noncomputable def Qg (G:Nat→List AV) (t:Oi):Tr:=⟨cL G t.kd,t.len,t.hs.map (F7 G)⟩
noncomputable def vWk (G:Nat→List AV):DWk→Wk
 | .code c=>.code c
 | .ops all l=>.ops all l
 | .dr all l trs=>.dr all l (trs.map (Qg G))
theorem Sr (i:Nat):∀ (hs:List DHop) (len:Nat),At i len (hs.map (F7 G))=Ev i len hs
 | [],_=>rfl
 | h::hs,len=>by cases h<;>simp only [List.map_cons,F7,At,Ev,Sr i hs]
theorem Qi (r:ER) (hs:List DHop) (len:Nat) (h:Eu r len hs=false):Cw (vR G r) len (hs.map (F7 G))=false:=by
 cases r with
 | rw i=>simp only [Eu] at h;simp only [vR,Cw,Sr,h]
 | ro n=>simp only [vR,Cw]
 | fm b c k=>simp [Eu] at h
theorem cA (x y:Oi) (h:Qb x y=true):R2 (Qg G x) (Qg G y)=true:=by
 obtain ⟨kx,lx,hx⟩:=x;obtain ⟨ky,ly,hy⟩:=y;cases kx<;>cases ky<;>simp only [Qg,cL,R2,Qb] at h ⊢
 ·rw [Qi _ _ _ (by simpa using h)];rfl
 ·rw [Qi _ _ _ (by simpa using h)];rfl
 ·cases h
theorem bS (all:List Oper) (trs:List Oi) (h:Pw all trs=true):K9 all (trs.map (Qg G))=true:=by
 unfold Pw at h;unfold K9;simp only [Bool.and_eq_true,List.all_eq_true,Bool.or_eq_true] at h ⊢;refine ⟨h.1,fun j hj i hi=>?_⟩;rcases h.2 j hj i hi with h1 | h1
 ·exact .inl h1
 ·refine .inr ?_;simp only [List.getElem?_map]
  revert h1
  cases all[i]?<;>cases all[j]?<;>cases trs[i]?<;>cases trs[j]?<;>simp;intro g1 g2;exact ⟨g1,cA _ _ g2⟩
theorem Dh:∀ (H':DHp) (p:Bool) (i:Nat) (hs:List DHop),R0 p i H'=some hs→M8 p i (B0 G H')=some (hs.map (F7 G))
 | [],false,i,hs,h=>by simp [R0] at h;subst h;rfl
 | [],true,i,hs,h=>by simp [R0] at h
 | some b::H',false,i,hs,h=>by
  simp only [R0] at h;split at h
  ·rename_i hs' h1;simp at h;subst h
   have:=Dh H' false (i+1) hs' h1
   simp only [B0] at this;simp only [B0,List.map_cons,Option.map_some,M8,this,F7]
  ·simp at h
 | some b::H',true,i,hs,h=>by
  simp only [R0] at h;split at h
  ·rename_i hs' h1;simp at h;subst h
   have:=Dh H' false (i+1) hs' h1
   simp only [B0] at this;simp only [B0,List.map_cons,Option.map_some,M8,this,F7]
  ·simp at h
 | none::H',false,i,hs,h=>by
  simp only [R0] at h;split at h
  ·rename_i hs' h1;simp at h;subst h
   have:=Dh H' true (i+1) hs' h1
   simp only [B0] at this;simp only [B0,List.map_cons,Option.map_none,M8,this,F7,J6,vL,vVs]
  ·simp at h
 | none::H',true,i,hs,h=>by
  simp only [R0] at h;split at h
  ·rename_i hs' h1;simp at h;subst h
   have:=Dh H' true (i+1) hs' h1
   simp only [B0] at this;simp only [B0,List.map_cons,Option.map_none,M8,this,F7,J6,vL,vVs]
  ·simp at h
theorem Px:∀ (H H':DHp) (i:Nat) (hs:List DHop),Az i H H'=some hs→O6 false i (B0 G H) (B0 G H')=some (hs.map (F7 G))
 | [],H',i,hs,h=>by
  simp only [Az] at h
  have:=Dh (G:=G) H' false i hs h
  simp only [B0,List.map_nil,O6] at this ⊢;exact this
 | x::H,some b::H',i,hs,h=>by
  cases x<;>simp only [Az] at h
  all_goals
   split at h
   ·rename_i hs' h1;simp at h;subst h
    have:=Px H H' (i+1) hs' h1
    simp only [B0] at this;simp only [B0,List.map_cons,Option.map_some,Option.map_none,O6,Bool.false_and,this,F7]
   ·simp at h
 | none::H,none::H',i,hs,h=>by
  simp only [Az] at h
  have:=Px H H' (i+1) hs h
  simp only [B0] at this;simp only [B0,List.map_cons,Option.map_none,O6,this]
 | some _::H,none::H',i,hs,h=>by simp [Az] at h
 | some _::H,[],i,hs,h=>by simp [Az] at h
 | none::H,[],i,hs,h=>by simp [Az] at h
theorem Lu (fn:Func) (args:List EV):vVs G (Bm fn args)=M5 fn (vVs G args):=by
 unfold Bm M5;rw [Fq,P3];congr 1;rw [I6,List.map_replicate];simp only [vV,vVs]
theorem Q8 (F:DFr) (d:Option Tmp) (v:EV):vVs G (E9 F d v)=put (vVs G F) d (vV G v):=by
 cases d<;>simp only [E9,Fw,put,Wi]
theorem Qo {K:DCfg} {r1 r2:Code→Bool} (h:∀ c,r1 c=true→r2 c=true):∀ c,J2 K r1 c=true→J2 K r2 c=true:=by
 have op:∀ o,R9 K r1 o=true→R9 K r2 o=true:=fun o ho=>by
  unfold R9 at ho ⊢
  split at ho<;>first
   | rfl
   | (simp at ho;done)
   | skip
  split at ho
  ·rename_i g _ _;obtain ⟨h1,h2⟩:=I0 ho;rw [h1];simp only [Bool.true_and];split at h2
   ·split at h2
    ·exact h _ h2
    ·rfl
   ·rfl
  ·simp at ho
 intro c
 induction c with
 | region id ops d=>simp only [J2,List.all_eq_true];exact fun h o ho=>op o (h o ho)
 | seq a b iha ihb=>simp only [J2,Bool.and_eq_true];exact fun h=>⟨iha h.1,ihb h.2⟩
 | cond x a b iha ihb=>simp only [J2,Bool.and_eq_true];exact fun h=>⟨iha h.1,ihb h.2⟩
 | block id c ih=>exact ih
 | scope c ih=>exact ih
 | _=>intro h;simp_all [J2]
theorem Kr {K:DCfg}:∀ d c,H7 K d c=true→H7 K (d+1) c=true
 | 0,c,h=>by simp [H7] at h
 | d+1,c,h=>Qo (Kr d) c h
def C8 (H:DHp):T→Prop
 | .fail=>True
 | .chk _ t=>C8 H t
 | .tst _ x y=>C8 H x∧C8 H y
 | .imp _ t=>C8 H t
 | .allI _ k=>∀ x,C8 H (k x)
 | .allN _ k=>∀ x,C8 H (k x)
 | .allB _ k=>∀ x,C8 H (k x)
 | .allL _ k=>∀ x,C8 H (k x)
 | .namI _ _ k=>∀ x,C8 H (k x)
 | .namN _ _ k=>∀ x,C8 H (k x)
 | .namB _ _ k=>∀ x,C8 H (k x)
 | .namL _ _ k=>∀ x,C8 H (k x)
 | .leaf ..=>True
 | .ret _ H'=>H'=H
theorem X0 {H:DHp}:∀ (b:EB) {t:T},C8 H t→C8 H (U9 b t)
 | .lit true,t,h=>h
 | .lit false,t,h=>trivial
 | .and a b,t,h=>by simp only [U9];exact X0 a (X0 b h)
 | .var ..,t,h=>h
 | .cmp ..,t,h=>h
 | .not ..,t,h=>h
 | .eqB ..,t,h=>h
 | .eqS ..,t,h=>h
 | .isI ..,t,h=>h
 | .isB ..,t,h=>h
 | .isT ..,t,h=>h
 | .isR ..,t,h=>h
 | .get ..,t,h=>h
 | .leN ..,t,h=>h
 | .eqN ..,t,h=>h
 | .leaf ..,t,h=>h
 | .u8s ..,t,h=>h
 | .cells ..,t,h=>h
 | .isF ..,t,h=>h
 | .isP ..,t,h=>h
 | .isNil ..,t,h=>h
 | .rows ..,t,h=>h
 | .uf ..,t,h=>h
theorem J4 {H:DHp} {fs:Facts} {b:EB} {x y:Facts→T} (hx:∀ fs,C8 H (x fs)) (hy:∀ fs,C8 H (y fs)) :
  C8 H (match dec fs b with | some true=>.chk b (x fs) | some false=>.chk (.not b) (y fs) | none=>.tst b (x (Ax fs b true)) (y (Ax fs b false))):=by
 split
 ·exact hx _
 ·exact hy _
 ·exact ⟨hx _,hy _⟩
theorem R6 {H:DHp}:∀ (b:EB) (fs:Facts) (x y:Facts→T),(∀ fs,C8 H (x fs))→(∀ fs,C8 H (y fs))→C8 H (P4 fs b x y)
 | .lit true,fs,x,y,hx,hy=>hx _
 | .lit false,fs,x,y,hx,hy=>hy _
 | .not b,fs,x,y,hx,hy=>by simp only [P4];exact R6 b fs y x hy hx
 | .and a b,fs,x,y,hx,hy=>by simp only [P4];exact R6 a fs _ _ (fun fs=>R6 b fs x y hx hy) hy
 | .eqB a b,fs,x,y,hx,hy=>by simp only [P4];exact R6 a fs _ _ (fun fs=>R6 b fs x y hx hy) (fun fs=>R6 b fs y x hy hx)
 | .var ..,fs,x,y,hx,hy=>J4 hx hy
 | .cmp ..,fs,x,y,hx,hy=>J4 hx hy
 | .eqS ..,fs,x,y,hx,hy=>J4 hx hy
 | .isI ..,fs,x,y,hx,hy=>J4 hx hy
 | .isB ..,fs,x,y,hx,hy=>J4 hx hy
 | .isT ..,fs,x,y,hx,hy=>J4 hx hy
 | .isR ..,fs,x,y,hx,hy=>J4 hx hy
 | .get ..,fs,x,y,hx,hy=>J4 hx hy
 | .leN ..,fs,x,y,hx,hy=>J4 hx hy
 | .eqN ..,fs,x,y,hx,hy=>J4 hx hy
 | .leaf ..,fs,x,y,hx,hy=>J4 hx hy
 | .u8s ..,fs,x,y,hx,hy=>J4 hx hy
 | .cells ..,fs,x,y,hx,hy=>J4 hx hy
 | .isF ..,fs,x,y,hx,hy=>J4 hx hy
 | .isP ..,fs,x,y,hx,hy=>J4 hx hy
 | .isNil ..,fs,x,y,hx,hy=>J4 hx hy
 | .rows ..,fs,x,y,hx,hy=>J4 hx hy
 | .uf ..,fs,x,y,hx,hy=>J4 hx hy
theorem Xi {H:DHp} {fs:Facts} {o:EB×FamR} {k:Facts→EV→T} (h:∀ fs v,C8 H (k fs v)):C8 H (Po fs o k):=by
 obtain ⟨c0,x⟩:=o;cases x with
 | val c v=>exact X0 c0 (X0 c (h _ _))
 | ptr n c v=>exact X0 c0 (R6 n fs _ _ (fun fs=>h _ _) (fun fs=>X0 c (h _ _)))
theorem Fg {H:DHp} {o:Option (EB×EV)} {k:EV→T} (h:∀ v,C8 H (k v)):C8 H (Nc o k):=by
 unfold Nc;split
 ·exact X0 _ (h _)
 ·trivial
def Nd:Outs→Prop
 | .one _ hs=>hs=[]
 | .chk _ x=>Nd x
 | .tst _ x y=>Nd x∧Nd y
 | .namI _ f=>∀ x,Nd (f x)
 | .namN _ f=>∀ x,Nd (f x)
 | .namB _ f=>∀ x,Nd (f x)
 | .namL _ f=>∀ x,Nd (f x)
theorem W9 {H:DHp} {k:Facts→EV→List DHop→T} (hk:∀ fs v,C8 H (k fs v [])):∀ (o:Outs) (fs:Facts),Nd o→C8 H (T0 fs o k)
 | .one v hs,fs,ho=>by have:hs=[]:=ho;subst this;exact hk _ _
 | .chk b x,fs,ho=>X0 b (W9 hk x fs ho)
 | .tst b x y,fs,ho=>R6 b fs _ _ (fun fs=>W9 hk x fs ho.1) (fun fs=>W9 hk y fs ho.2)
 | .namI e f,fs,ho=>fun x=>W9 hk _ _ (ho _)
 | .namN e f,fs,ho=>fun x=>W9 hk _ _ (ho _)
 | .namB e f,fs,ho=>fun x=>W9 hk _ _ (ho _)
 | .namL e f,fs,ho=>fun x=>W9 hk _ _ (ho _)
theorem Jm {H:DHp}:∀ (t:T) (o:Outs),D3 true H t=some o→Nd o
 | .ret v H',o,h=>by simp [D3] at h;subst h;rfl
 | .chk b t,o,h=>by
  simp only [D3] at h;split at h
  ·rename_i o' h1;simp at h;subst h;exact Jm t o' h1
  ·simp at h
 | .tst b x y,o,h=>by
  simp only [D3] at h;split at h
  ·rename_i o1 o2 h1 h2;simp at h;subst h;exact ⟨Jm x o1 h1,Jm y o2 h2⟩
  ·simp at h
 | .fail,o,h=>by simp [D3] at h
 | .allI ..,o,h=>by simp [D3] at h
 | .allN ..,o,h=>by simp [D3] at h
 | .allB ..,o,h=>by simp [D3] at h
 | .allL ..,o,h=>by simp [D3] at h
 | .leaf ..,o,h=>by simp [D3] at h
 | .imp ..,o,h=>by simp [D3] at h
 | .namI ..,o,h=>by simp [D3] at h
 | .namN ..,o,h=>by simp [D3] at h
 | .namB ..,o,h=>by simp [D3] at h
 | .namL ..,o,h=>by simp [D3] at h
def Ru (K:DCfg):DWk→Bool
 | .code c=>H7 K 20 c
 | .ops _ l=>l.all (R9 K (H7 K 20))
 | .dr _ l _=>l.all (R9 K (H7 K 20))
theorem Qn {K:DCfg} {o:Oper} {F:DFr} {f:FuncId} {args:List EV} (hk:kdOf K.P o.op=.call) (hr:R9 K (H7 K 20) o=true) (hc:Kh F o.op=some (f,args)) :
  K.inl f=true∧∀ fn c,K.P.funcs[f]?=some fn→fn.body=some c→H7 K 20 c=true:=by
 unfold R9 at hr;rw [hk] at hr;simp only at hr;split at hr
 ·rename_i g args' ts hop;rw [hop] at hc;simp only [Kh,evD,Option.some.injEq,Prod.mk.injEq] at hc;obtain ⟨rfl,_⟩:=hc;obtain ⟨h1,h2⟩:=I0 hr;refine ⟨h1,fun fn c hf hb=>?_⟩;rw [hf] at h2;simp only [hb] at h2;exact h2
 ·simp at hr
theorem Td {K:DCfg} {o:Oper} {F:DFr} {i:Nat} {args:List EV} (hk:kdOf K.P o.op=.call) (hr:R9 K (H7 K 20) o=true) (hc:Ok F o.op=some (i,args)):False:=by
 unfold R9 at hr;rw [hk] at hr;simp only at hr;split at hr
 ·rename_i g args' ts hop;rw [hop] at hc;simp [Ok,evD] at hc
 ·simp at hr
theorem dx_ro {K:DCfg}:∀ n m wk F H fs q,Ru K wk=true→(∀ e F fs,C8 H (q e F H fs))→C8 H (dx K n m wk F H fs q):=by
  intro n
  induction n with
  | zero => intro m wk F H fs q _ _; trivial
  | succ n ih=>
    intro m wk F H fs q hr hq
    have guard:∀ {all:List Oper} {g:Option (Nat×Bool)} {go skip:DFr→Facts→T},(∀ F fs,C8 H (go F fs))→(∀ F fs,C8 H (skip F fs))→C8 H (Fh fs all g F go skip):=by
      intro all g go skip h1 h2;unfold Fh;split
      · exact h1 _ _
      · split
        · split
          · refine R6 _ _ _ _ (fun fs=>?_) (fun fs=>?_)<;>split<;>first | exact h1 _ _ | exact h2 _ _
          · exact h2 _ _
          · trivial
        · trivial
    cases wk with
    | ops all l=>
      show C8 H (Cx K (dx K n) m all l F H fs q);cases l with
      | nil=>exact hq _ _ _
      | cons o l=>
        obtain ⟨dst,op,ty,pos,after,g⟩:=o;simp only [Ru,List.all_cons,Bool.and_eq_true] at hr;obtain ⟨ho,hl⟩:=hr;simp only [Cx];refine guard (fun F fs=>?_) (fun F fs=>ih _ _ _ _ _ _ hl hq);unfold Ot;split
        · exact Fg fun v=>ih _ (.ops all l) _ _ _ _ hl hq
        · split
          · exact Xi fun fs v=>ih _ (.ops all l) _ _ _ _ hl hq
          · exact Fg fun v=>ih _ (.ops all l) _ _ _ _ hl hq
        · rename_i hk;simp [R9,hk] at ho
        · rename_i hk;split
          · rename_i f args hc;obtain ⟨hi,hb⟩:=Qn hk ho hc;rw [hi];simp only;split
            · rename_i fn hf;split
              · rename_i c hbody;split
                · trivial
                · refine ih _ (.code c) _ _ _ _ (hb fn c hf hbody) fun e F fs=>?_;unfold Hq;split
                  · trivial
                  · exact Fg fun v=>ih _ _ _ _ _ _ hl hq
              · trivial
            · trivial
          · split
            · rename_i i args hy;exact (Td hk ho hy).elim
            · trivial
    | dr all l trs=>
      show C8 H (Ab K (dx K n) m all l trs F H fs q);cases l with
      | nil=>
        simp only [Ab];split
        · exact hq _ _ _
        · trivial
      | cons o l=>
        obtain ⟨dst,op,ty,pos,after,g⟩:=o;simp only [Ru,List.all_cons,Bool.and_eq_true] at hr;obtain ⟨ho,hl⟩:=hr;simp only [Ab];refine guard (fun F fs=>?_) (fun F fs=>ih _ (.dr all l _) _ _ _ _ hl hq);unfold Hj;split
        · exact Fg fun v=>ih _ (.dr all l _) _ _ _ _ hl hq
        · split
          · exact Xi fun fs v=>ih _ (.dr all l _) _ _ _ _ hl hq
          · exact Fg fun v=>ih _ (.dr all l _) _ _ _ _ hl hq
        · rename_i hk;simp [R9,hk] at ho
        · rename_i hk;split
          · rename_i f args hc;obtain ⟨hi,hb⟩:=Qn hk ho hc;rw [hi];simp only;split
            · rename_i fn hf;split
              · rename_i c hbody;split
                · trivial
                · split
                  · rename_i o' ho';rw [hb fn c hf hbody] at ho';exact W9 (fun fs v=>ih _ (.dr all l _) _ _ _ _ hl hq) o' fs (Jm _ _ ho')
                  · trivial
              · trivial
            · trivial
          · split
            · rename_i i args hy;exact (Td hk ho hy).elim
            · trivial
    | code c=>
      have sub:∀ {c':Code},J2 K (H7 K 19) c'=true→Ru K (.code c')=true:=fun h=>h;show C8 H (S7 K (dx K n) m c F H fs q);have hr:J2 K (H7 K 19) c=true:=hr
      have opsOk:∀ {l:List Oper},l.all (R9 K (H7 K 19))=true→l.all (R9 K (H7 K 20))=true:=fun {l} h=>by
        have:=Qo (K:=K) (r1:=H7 K 19) (r2:=H7 K 20) (fun c=>Kr 19 c) (.region 0 l.toArray false) (by simpa [J2] using h)
        simpa [J2] using this
      cases c with
      | skip=>exact hq _ _ _
      | region id ops draw=>
        simp only [J2] at hr;cases draw with
        | true=>exact ih _ (.dr _ _ _) _ _ _ _ (opsOk hr) hq
        | false=>exact ih _ (.ops _ _) _ _ _ _ (opsOk hr) hq
      | seq a b=>
        simp only [J2,Bool.and_eq_true] at hr;refine ih _ (.code a) _ _ _ _ (sub hr.1) fun e F fs=>?_;unfold Xz;split
        · exact ih _ (.code b) _ _ _ _ (sub hr.2) hq
        · exact hq _ _ _
      | cond x a b=>
        simp only [J2,Bool.and_eq_true] at hr;obtain ⟨ra,rb⟩:=hr;simp only [S7,Hk];split
        · split
          · exact R6 _ _ _ _ (fun fs=>ih _ (.code a) _ _ _ _ (sub ra) hq) (fun fs=>ih _ (.code b) _ _ _ _ (sub rb) hq)
          · trivial
        · split
          · exact ih _ (.code a) _ _ _ _ (sub ra) hq
          · exact ih _ (.code b) _ _ _ _ (sub rb) hq
        · trivial
      | block id c=>
        refine ih _ (.code c) _ _ _ _ (sub hr) fun e F fs=>?_;unfold Od;split
        · split
          · exact hq _ _ _
          · exact hq _ _ _
        · exact hq _ _ _
      | loop c=>simp [J2] at hr
      | exit i=>exact hq _ _ _
      | scope c=>exact ih _ (.code c) _ _ _ _ (sub hr) hq
      | label i=>exact hq _ _ _
      | ret=>exact hq _ _ _
      | _=>simp [J2] at hr
theorem Jn {C:Ctx} {f:FuncId} {args:List EV} {H:DHp} {ro:Bool}:∀ (t:T) (o:Outs),D3 ro H t=some o→(ro=true→C8 H t)→
  (∀ R:AV→Hp→Prop,vT C.G (fun _ _ _=>False) R t→ACalls C f (vVs C.G args) (B0 C.G H) R)→Y1 C.G (J1 C f args H) o
 | .ret v H',o,h,hro,hc=>by
  simp only [D3] at h;split at h
  ·simp at h;subst h
   have:=hro rfl
   simp only [C8] at this;subst this;exact hc _ ⟨rfl,rfl⟩
  ·split at h
   ·rename_i hs hd;simp at h;subst h;have e:=Bp 0 [] _ _ _ rfl (Px (G:=C.G) _ _ _ _ hd);simp only [List.nil_append] at e;exact hc _ ⟨rfl,e.symm⟩
   ·simp at h
 | .chk b t,o,h,hro,hc=>by
  simp only [D3] at h;split at h
  ·rename_i o' h1;simp at h;subst h;exact fun hb=>Jn t o' h1 hro fun R hR=>hc R ⟨hb,hR⟩
  ·simp at h
 | .tst b x y,o,h,hro,hc=>by
  simp only [D3] at h;split at h
  ·rename_i o1 o2 h1 h2;simp at h;subst h
   exact ⟨fun hb=>Jn x o1 h1 (fun hr=>(hro hr).1) fun R hR=>hc R ⟨fun _=>hR,fun hb'=>by rw [hb] at hb';simp at hb'⟩,
    fun hb=>Jn y o2 h2 (fun hr=>(hro hr).2) fun R hR=>hc R ⟨fun hb'=>by rw [hb] at hb';simp at hb',fun _=>hR⟩⟩
  ·simp at h
 | .fail,o,h,_,_=>by simp [D3] at h
 | .allI ..,o,h,_,_=>by simp [D3] at h
 | .allN ..,o,h,_,_=>by simp [D3] at h
 | .allB ..,o,h,_,_=>by simp [D3] at h
 | .allL ..,o,h,_,_=>by simp [D3] at h
 | .leaf ..,o,h,_,_=>by simp [D3] at h
 | .imp ..,o,h,_,_=>by simp [D3] at h
 | .namI ..,o,h,_,_=>by simp [D3] at h
 | .namN ..,o,h,_,_=>by simp [D3] at h
 | .namB ..,o,h,_,_=>by simp [D3] at h
 | .namL ..,o,h,_,_=>by simp [D3] at h
theorem Xp {C:Ctx} {K:DCfg} {Q:Ex→List AV→Hp→Prop} {R:AV→Hp→Prop} (hG:C.G=C.G) {F:DFr} {H:DHp} {op:Op} {o:EB×FamR} {fs:Facts} {k:Facts→EV→T} (ho:Uy K.fam C.P F H op=some o) (h:vT C.G Q R (Po fs o k)) :
  ∃ fs2 v,E3 C (vVs C.G F) (B0 C.G H) op=some (true,vV C.G v)∧vT C.G Q R (k fs2 v):=by
 obtain ⟨c0,x⟩:=o;cases x with
 | val c v=>
  simp only [Po] at h;obtain ⟨h0,h⟩:=M9 c0 h;obtain ⟨h1,h⟩:=M9 c h;exact ⟨fs,v,bP hG ho h0 h1,h⟩
 | ptr n c v=>
  simp only [Po] at h;obtain ⟨h0,h⟩:=M9 c0 h;have hw:=bP hG ho h0;rcases O7 n fs _ _ h with ⟨h1,fs1,_,h2⟩ | ⟨h1,fs1,_,h2⟩
  ·exact ⟨fs1,.nilp,by rw [hw.1 h1];simp only [vV],h2⟩
  ·obtain ⟨h3,h4⟩:=M9 c h2;exact ⟨fs1,v,hw.2 h3,h4⟩
theorem fT {F:DFr} {op:Op}:Be (vVs G F) op=(Ji F op).map (vR G):=by
 unfold Be Ji;cases op<;>simp only [Option.map_none]
 ·simp only [←vV_evD];generalize evD F _=x;cases x<;>simp only [vV,Option.map_some,Option.map_none]
 ·simp only [←vV_evD];generalize evD F _=x;cases x<;>simp only [vV,Option.map_some,Option.map_none]
theorem E0 {P P':Ex→DFr→DHp→Prop} (hp:∀ e F H,P e F H→P' e F H):∀ (o:LOut) (n:Nat),E4 G P n o→E4 G P' n o
 | .one e F H,n,h=>hp _ _ _ h
 | .chk b x,n,h=>⟨h.1,E0 hp x n h.2⟩
 | .tst b x y,n,h=>⟨fun hb=>E0 hp x n (h.1 hb),fun hb=>E0 hp y n (h.2 hb)⟩
 | .imp b x,n,h=>fun hb=>E0 hp x n (h hb)
 | .allI f,n,h=>fun x=>E0 hp (f (.var n x)) (n+1) (h x)
 | .allN f,n,h=>fun x=>E0 hp (f (.var n x)) (n+1) (h x)
 | .allB f,n,h=>fun x=>E0 hp (f (.var n x)) (n+1) (h x)
 | .allL f,n,h=>fun x=>E0 hp (f (.var n x)) (n+1) (h x)
 | .namI e f,n,h=>E0 hp (f (.var n _)) (n+1) h
 | .namN e f,n,h=>E0 hp (f (.var n _)) (n+1) h
 | .namB e f,n,h=>E0 hp (f (.var n _)) (n+1) h
 | .namL e f,n,h=>E0 hp (f (.var n _)) (n+1) h
def LpD (K:DCfg) (lps:List Code) (wk:DWk):Prop:=
 match wk with
 | .code c=>∀ b∈C3 c,b∈lps
 | _=>True
theorem Uj {Q:Ex→List AV→Hp→Prop} {R:AV→Hp→Prop} {fs:Facts} {all:List Oper} {g:Option (Nat×Bool)} {F:DFr} {go skip:DFr→Facts→T} (h:vT G Q R (Fh fs all g F go skip)) :
  ∃ F' fs',vVs G F'=vVs G F∧F'.length=F.length∧((wantA all g (vVs G F)=some true∧vT G Q R (go F' fs'))∨(wantA all g (vVs G F)=some false∧vT G Q R (skip F' fs'))):=by
 unfold Fh at h;unfold wantA;split at h
 ·exact ⟨F,fs,rfl,rfl,.inl ⟨rfl,h⟩⟩
 ·rename_i j want;simp only;split at h
  ·rename_i t ht;simp only [ht,S1];rw [Aj] at h;split at h
   ·rename_i b hb
    have hv:∀ x:Bool,vB G b=x→vVs G (E9 F (some t) (.bool (.lit x)))=vVs G F:=fun x hx=>by
     rw [Q8];simp only [put,vV,vB];refine N8 ?_ (by simp);rw [S1,hb];simp only [vV,hx]
    rw [hb];simp only [vV];rcases O7 b fs _ _ h with ⟨h1,fs1,_,h2⟩ | ⟨h1,fs1,_,h2⟩
    ·refine ⟨E9 F (some t) (.bool (.lit true)),fs1,hv _ h1,by simp [E9,Fw],?_⟩;rw [h1];cases want
     ·exact .inr ⟨rfl,h2⟩
     ·exact .inl ⟨rfl,h2⟩
    ·refine ⟨E9 F (some t) (.bool (.lit false)),fs1,hv _ h1,by simp [E9,Fw],?_⟩;rw [h1];cases want
     ·exact .inl ⟨rfl,h2⟩
     ·exact .inr ⟨rfl,h2⟩
   ·rename_i hb;rw [hb];simp only [vV,vVs];exact ⟨F,fs,rfl,rfl,.inr ⟨trivial,h⟩⟩
   ·exact h.elim
  ·exact h.elim
theorem Vc {C:Ctx} {K:DCfg} {lps:List Code} (hK:Oj C K lps):∀ n m wk F H fs q (Q:Post) (QQ:Ex→List AV→Hp→Prop) (RR:AV→Hp→Prop),
    (∀ e F H fs,vT C.G QQ RR (q e F H fs)→Q e (vVs C.G F) (B0 C.G H))→LpD K lps wk→vT C.G QQ RR (dx K n m wk F H fs q)→Snd (K0 C) m (vWk C.G wk) (vVs C.G F) (B0 C.G H) Q:=by
  have hG:C.G=C.G:=rfl;have hP:=hK.hP;intro n
  induction n with
  | zero => intro m wk F H fs q Q QQ RR _ _ h; exact h.elim
  | succ n ih=>
    intro m wk F H fs q Q QQ RR hq hlp h;have g0:=gF (C:=C) hK.mix lps;cases wk with
    | ops all l=>
      change vT C.G QQ RR (Cx K (dx K n) m all l F H fs q) at h;cases l with
      | nil=>exact fun r ρ a w hm hH hF=>⟨.normal,ρ,_,_,rfl,hq _ _ _ _ h,M7.refl m ρ,hH,hF,Frm.refl ρ w⟩
      | cons o l=>
        obtain ⟨dst,op,ty,pos,after,guard⟩:=o;simp only [Cx] at h;obtain ⟨F',fs',hFe,_,h⟩:=Uj h;rw [← hFe];rw [← hFe] at h;rcases h with ⟨hw,h⟩ | ⟨hw,h⟩
        · unfold Ot at h;rw [hP] at h;split at h
          · rename_i hk;obtain ⟨c,v,h1,h2,h3⟩:=Cu h
            have:=ih m (.ops all l) _ _ _ _ _ _ _ hq trivial h3
            rw [Q8] at this;exact I9 (lps:=lps) g0 (.pure hw hk (Wz _ _ h1 h2)) this
          · rename_i hk;split at h
            · rename_i o ho;obtain ⟨fs2,v,h1,h3⟩:=Xp hG (o:=o) ho h
              have:=ih m (.ops all l) _ _ _ _ _ _ _ hq trivial h3
              rw [Q8] at this;exact I9 (lps:=lps) g0 (.read hw hk h1) this
            · obtain ⟨c,v,h1,h2,h3⟩:=Cu h
              have:=ih m (.ops all l) _ _ _ _ _ _ _ hq trivial h3
              rw [Q8] at this;exact I9 (lps:=lps) g0 (.read hw hk (Wv hG _ _ h1 h2)) this
          · rename_i hk;split at h
            · rename_i c v x hx;obtain ⟨h2,h3⟩:=M9 c h
              have:=ih m (.ops all l) _ _ _ _ _ _ _ hq trivial h3
              rw [Q8,Ky] at this;exact I9 (lps:=lps) g0 (.write hw hk (Si hG _ _ _ hx h2)) this
            · split at h
              · rename_i c hs hx;obtain ⟨h2,h3⟩:=M9 c h;obtain ⟨hp,e1,e2⟩:=Zu hG hx h2
                have:=ih m (.ops all l) _ _ _ _ _ _ _ hq trivial h3
                rw [Q8,W4,←e2] at this;simp only [vV,vVs] at this;exact I9 (lps:=lps) g0 (.write hw hk e1) this
              · exact h.elim
          · rename_i hk;split at h
            · rename_i f args hc;have hc:=Xt (G:=C.G) hc;split at h
              · rename_i hi;split at h
                · rename_i fn hfn;split at h
                  · rename_i c hb;split at h
                    · exact h.elim
                    · rename_i hnm
                      have hbody:∀ (r:Option Nat),T3 r c=true→∀ (ρ:Env) (a:Act) (w:World),(B0 C.G H).length≤(B0 C.G H).length→A2 C ρ (B0 C.G H) w→B7 ρ (M5 fn (vVs C.G args)) a→
                          c.wpIn (W r) 0 C.P (AP C (B0 C.G H).length ρ w (L1 C fn fun v' H'=>∃ v H1 fs,v'=vV C.G v∧H'=B0 C.G H1∧vT C.G QQ RR (dx K n m (.ops all l) (E9 F' dst v) H1 fs q))) a w:=by
                        have:=ih H.length (.code c) (Bm fn args) H fs' _ (L1 C fn fun v' H'=>∃ v H1 fs,v'=vV C.G v∧H'=B0 C.G H1∧vT C.G QQ RR (dx K n m (.ops all l) (E9 F' dst v) H1 fs q)) QQ RR (fun e F1 H1 fs1 ht=>by
                          unfold Hq at ht;split at ht
                          · exact ht.elim
                          · rename_i hne;obtain ⟨cc,v,q1,q2,q3⟩:=Cu ht;have e1:=Te hG _ _ q1 q2;cases e with
                            | exit i=>exact absurd rfl (hne i)
                            | normal=>simp only [L1];rw [e1];exact ⟨v,H1,fs1,rfl,rfl,q3⟩
                            | ret=>simp only [L1];rw [e1];exact ⟨v,H1,fs1,rfl,rfl,q3⟩) (fun b hb'=>hK.inl f fn c hi hfn hb b hb') h
                        rw [Lu] at this;rw [← C7 (G := C.G) H] at this;exact this
                      have hcall:=acalls_of (f:=f) (C:=C) (fn:=fn) (K:=fun v' H'=>∃ v H1 fs,v'=vV C.G v∧H'=B0 C.G H1∧vT C.G QQ RR (dx K n m (.ops all l) (E9 F' dst v) H1 fs q)) hfn hb hnm (fun r hr ρ a w hH hF=>hbody r hr ρ a w (Nat.le_refl _) hH hF);intro r ρ a w hm hH hF;unfold wpListIn;rw [J9 hF hw,if_pos rfl];obtain ⟨cargs,hv,h1⟩:=Eo (w:=w) (o:=⟨dst,op,ty,pos,after,guard⟩) hF hc hcall.1;refine L8 (Pd hc) ?_;have h1:(execOp a.eval ⟨dst,op,ty,pos,after,guard⟩).run (K0 C).C.P w=.ok (.enter f cargs.toArray) w:=h1;rw [h1]
                      refine ⟨fun h=>by simp [W,Fence.wide] at h,Ee.2 ((hcall.2 ρ w cargs hH hv).mono ?_)⟩;rintro e w' ⟨v',cv,ρ',H',rfl,⟨v,H1,fs1,rfl,rfl,g1⟩,g2,g3,g4,g5⟩;have hp:=M7.of_le hH g2 hm
                      have:=ih m (.ops all l) _ _ _ _ _ _ _ hq trivial g1
                      rw [Q8] at this;exact J5 (fun e a w h=>AP.link hp g5 h) l _ _ (this r ρ' _ w' (R4 hm hH g3 hp) g3 ((hF.mono g2).put _ _ _ g4))
                  · exact h.elim
                · exact h.elim
              · split at h
                · rename_i o ho;obtain ⟨fs1,v,hs,h1,h2⟩:=O8 o fs' h (hK.calls _ _ _ _ ho)
                  have:=ih m (.ops all l) _ _ _ _ _ _ _ hq trivial h2
                  rw [Q8,W4] at this;exact I9 (lps:=lps) g0 (.call hw hk hc h1) this
                · exact h.elim
            · split at h
              · rename_i i args hy;have hy:=Zs (G:=C.G) hy;split at h
                · rename_i o ho;obtain ⟨fs1,v,hs,h1,h2⟩:=O8 o fs' h (hK.ylds _ _ _ _ ho)
                  have:=ih m (.ops all l) _ _ _ _ _ _ _ hq trivial h2
                  rw [Q8,W4] at this;intro r ρ a w hm hH hF;unfold wpListIn;rw [J9 hF hw,if_pos rfl];refine h1 ρ _ w a ⟨dst,op,ty,pos,after,guard⟩ r _ _ hH hF hy ?_;rintro v' H' ρ' cv w' ⟨rfl,rfl⟩ g3 g4 g2 g5;have hp:=M7.of_le hH g2 hm;exact J5 (fun e a w h=>AP.link hp g5 h) l _ _ (this r ρ' _ w' (R4 hm hH g3 hp) g3 ((hF.mono g2).put _ _ _ g4))
                · exact h.elim
              · exact h.elim
        · have:=ih m (.ops all l) _ _ _ _ _ _ _ hq trivial h
          rw [Q8] at this;simp only [vV,vVs] at this;exact I9 (lps:=lps) g0 (.skip hw) this
    | dr all l trs=>
      change vT C.G QQ RR (Ab K (dx K n) m all l trs F H fs q) at h;cases l with
      | nil=>
        simp only [Ab] at h;split at h
        · rename_i hd;exact ⟨[],_,_,.nil _ _,by have:=bS (G:=C.G) all trs hd;simpa using this,hq _ _ _ _ h⟩
        · exact h.elim
      | cons o l=>
        obtain ⟨dst,op,ty,pos,after,guard⟩:=o;simp only [Ab] at h;obtain ⟨F',fs',hFe,_,h⟩:=Uj h;rw [← hFe];rw [← hFe] at h
        have go:∀ {tr:Oi} {v:EV} {H':DHp} {fs1:Facts},St (K0 C) all ⟨dst,op,ty,pos,after,guard⟩ (vVs C.G F') (B0 C.G H) (Qg C.G tr) (vV C.G v) (B0 C.G H')→
            vT C.G QQ RR (dx K n m (.dr all l (trs++[tr])) (E9 F' dst v) H' fs1 q)→Snd (K0 C) m (vWk C.G (.dr all (⟨dst,op,ty,pos,after,guard⟩::l) trs)) (vVs C.G F') (B0 C.G H) Q:=by
          intro tr v H' fs1 hst hrec
          have:=ih m (.dr all l (trs++[tr])) _ _ _ _ _ _ _ hq trivial hrec
          rw [Q8] at this;obtain ⟨trs',F1,H1,g1,g2,g3⟩:=this;exact ⟨Qg C.G tr::trs',F1,H1,.cons hst g1,by simpa using g2,g3⟩
        rcases h with ⟨hw,h⟩ | ⟨hw,h⟩
        · unfold Hj at h;rw [hP] at h;split at h
          · rename_i hk;obtain ⟨c,v,h1,h2,h3⟩:=Cu h;refine go (tr:=⟨.still,H.length,[]⟩) ?_ h3
            have:=St.pure (K:=K0 C) (all:=all) (o:=⟨dst,op,ty,pos,after,guard⟩) (H:=B0 C.G H) hw hk (Wz _ _ h1 h2)
            rw [C7] at this;exact this
          · rename_i hk
            obtain ⟨fs2,v,h1,h3⟩:∃ fs2 v,E3 C (vVs C.G F') (B0 C.G H) op=some (true,vV C.G v)∧vT C.G QQ RR (dx K n m (.dr all l (trs++[⟨(match Ji F' op with | some r=>.read r | none=>.still),H.length,[]⟩])) (E9 F' dst v) H fs2 q):=by
              split at h
              · rename_i o ho;exact Xp hG (o:=o) ho h
              · obtain ⟨c,v,h1,h2,h3⟩:=Cu h;exact ⟨_,v,Wv hG _ _ h1 h2,h3⟩
            refine go ?_ h3
            have:=St.read (K:=K0 C) (all:=all) (o:=⟨dst,op,ty,pos,after,guard⟩) (H:=B0 C.G H) hw hk h1
            rw [C7] at this;refine cast (congrArg (fun tr=>St (K0 C) all ⟨dst,op,ty,pos,after,guard⟩ (vVs C.G F') (B0 C.G H) tr (vV C.G v) (B0 C.G H)) ?_) this;simp only [Qg,List.map_nil];congr 1;rw [fT];cases Ji F' op<;>simp only [Option.map_some,Option.map_none,cL]
          · rename_i hk;split at h
            · rename_i c v x hx;obtain ⟨h2,h3⟩:=M9 c h;refine go ?_ h3
              have:=St.write (K:=K0 C) (all:=all) (o:=⟨dst,op,ty,pos,after,guard⟩) hw hk (Si hG _ _ _ hx h2)
              rw [C7,←Ky] at this;exact this
            · exact h.elim
          · rename_i hk;split at h
            · rename_i f args hc;have hc:=Xt (G:=C.G) hc
              have fin:∀ {o:Outs} {fs1:Facts},Y1 C.G (J1 C f args H) o→vT C.G QQ RR (T0 fs1 o fun fs v hs=>dx K n m (.dr all l (trs++[⟨.write,H.length,hs⟩])) (E9 F' dst v) (Ba H hs) fs q)→
                  Snd (K0 C) m (vWk C.G (.dr all (⟨dst,op,ty,pos,after,guard⟩::l) trs)) (vVs C.G F') (B0 C.G H) Q:=by
                intro o fs1 ho ht;obtain ⟨fs2,v,hs,h1,h2⟩:=O8 o fs1 ht ho;refine go ?_ h2
                have:=St.call (K:=K0 C) (all:=all) (o:=⟨dst,op,ty,pos,after,guard⟩) hw hk hc h1
                rw [C7,←W4] at this;exact this
              split at h
              · rename_i hi;split at h
                · rename_i fn hfn;split at h
                  · rename_i c hb;split at h
                    · exact h.elim
                    · rename_i hnm;split at h
                      · rename_i o ho;refine fin (Jn _ _ ho (fun hr=>?_) fun R hR=>?_) h
                        · refine dx_ro n _ (.code c) _ _ _ _ hr fun e F fs=>?_;unfold Hq;split
                          · trivial
                          · exact Fg fun v=>rfl
                        · refine acalls_of (f:=f) (C:=C) (fn:=fn) hfn hb hnm fun r hr ρ a w hH hF=>?_
                          have:=ih H.length (.code c) (Bm fn args) H fs' _ (L1 C fn R) (fun _ _ _=>False) R (fun e F1 H1 fs1 ht=>by
                            unfold Hq at ht;split at ht
                            · exact ht.elim
                            · rename_i hne;obtain ⟨cc,v,q1,q2,q3⟩:=Cu ht;have e1:=Te hG _ _ q1 q2;cases e with
                              | exit i=>exact absurd rfl (hne i)
                              | normal=>simp only [L1];rw [e1];exact q3
                              | ret=>simp only [L1];rw [e1];exact q3) (fun b hb'=>hK.inl f fn c hi hfn hb b hb') hR
                          rw [Lu,←C7 (G:=C.G) H] at this;exact this r hr ρ a w (Nat.le_refl _) hH hF
                      · exact h.elim
                  · exact h.elim
                · exact h.elim
              · split at h
                · rename_i o ho;exact fin (hK.calls _ _ _ _ ho) h
                · exact h.elim
            · split at h
              · rename_i i args hy;have hy:=Zs (G:=C.G) hy;split at h
                · rename_i o ho;obtain ⟨fs2,v,hs,h1,h2⟩:=O8 o fs' h (hK.ylds _ _ _ _ ho);refine go ?_ h2
                  have:=St.yld (K:=K0 C) (all:=all) (o:=⟨dst,op,ty,pos,after,guard⟩) hw hy h1
                  rw [C7,←W4] at this;exact this
                · exact h.elim
              · exact h.elim
        · refine go (tr:=⟨.still,H.length,[]⟩) (v:=.tup []) ?_ h
          have:=St.skip (K:=K0 C) (all:=all) (o:=⟨dst,op,ty,pos,after,guard⟩) (H:=B0 C.G H) hw
          rw [C7] at this;simp only [vV,vVs];exact this
    | code c=>
      change vT C.G QQ RR (S7 K (dx K n) m c F H fs q) at h;intro r hr ρ a w hm hH hF;have here:∀ ae,Q ae (vVs C.G F) (B0 C.G H)→AP C m ρ w Q (Mj ae) a w:=fun ae hq=>⟨ae,ρ,_,_,rfl,hq,M7.refl m ρ,hH,hF,Frm.refl ρ w⟩;cases c with
      | skip=>exact wpIn_skip (here .normal (hq _ _ _ _ h))
      | region id ops draw=>
        cases draw with
        | true=>
          obtain ⟨trs',F',H',g1,g2,g3⟩:=ih m (.dr ops.toList ops.toList []) F H fs q Q QQ RR hq trivial h
          have:=Ob (id:=id) (r:=r) (Q:=AP C m ρ w Q) (lps:=lps) g0 g1 (by simpa using g2) hH hF fun ρ' a' w' q1 q2 q3 q4=>⟨.normal,ρ',F',H',rfl,g3,M7.of_le hH q3 hm,q1,q2,q4⟩
          rwa [Array.toArray_toList] at this
        | false=>
          have:=ih m (.ops ops.toList ops.toList) F H fs q Q QQ RR hq trivial h r ρ a w hm hH hF
          rw [Array.toArray_toList] at this;exact wpIn_region_list this
      | seq x y=>
        have hx:LpD K lps (.code x):=fun b hb=>hlp b (List.mem_append.2 (.inl hb));have hy:LpD K lps (.code y):=fun b hb=>hlp b (List.mem_append.2 (.inr hb))
        have key:=ih m (.code x) F H fs (Xz (dx K n) m y q) (fun e F1 H1=>match e with
          | .normal=>∀ ρ' a' w',m≤H1.length→A2 C ρ' H1 w'→B7 ρ' F1 a'→y.wpIn (W r) 0 C.P (AP C m ρ' w' Q) a' w'
          | e=>Q e F1 H1) QQ RR (fun e F1 H1 fs1 ht=>by
            cases e with
            | normal=>exact fun ρ' a' w' q1 q2 q3=>ih m (.code y) F1 H1 fs1 q Q QQ RR hq hy ht r (Cn hr).2 ρ' a' w' q1 q2 q3
            | exit i=>exact hq _ _ _ _ ht
            | ret=>exact hq _ _ _ _ ht) hx h r (Cn hr).1 ρ a w hm hH hF
        refine wpIn_seq (Code.wpIn_mono ?_ key);rintro e a' w' ⟨ae,ρ',F',H',rfl,h2,h3,h4,h5,h6⟩;cases ae with
        | normal=>exact Code.wpIn_mono (fun e a w h=>AP.link h3 h6 h) (h2 ρ' a' w' (R4 hm hH h4 h3) h4 h5)
        | exit i=>exact ⟨.exit i,ρ',F',H',rfl,h2,h3,h4,h5,h6⟩
        | ret=>exact ⟨.ret,ρ',F',H',rfl,h2,h3,h4,h5,h6⟩
      | cond c x y=>
        have hx:LpD K lps (.code x):=fun b hb=>hlp b (List.mem_append.2 (.inl hb));have hy:LpD K lps (.code y):=fun b hb=>hlp b (List.mem_append.2 (.inr hb));simp only [S7,Hk] at h;split at h
        · rename_i t;rw [Aj] at h;split at h
          · rename_i b hb;have hv:=hF.at t;rw [S1,hb] at hv;simp only [vV,VR] at hv
            have hs:∀ x:Bool,vB C.G b=x→vVs C.G (E9 F (some t) (.bool (.lit x)))=vVs C.G F:=fun x hx=>by
              rw [Q8];simp only [put,vV,vB];refine N8 ?_ (by simp);rw [S1,hb];simp only [vV,hx]
            rcases O7 b fs _ _ h with ⟨h1,fs1,_,h2⟩ | ⟨h1,fs1,_,h2⟩
            · rw [h1] at hv
              have:=ih m (.code x) _ H fs1 q Q QQ RR hq hx h2 r (T2 hr).1 ρ a w hm hH
              rw [hs _ h1] at this;exact wpIn_cond_true hv (this hF)
            · rw [h1] at hv
              have:=ih m (.code y) _ H fs1 q Q QQ RR hq hy h2 r (T2 hr).2 ρ a w hm hH
              rw [hs _ h1] at this;exact wpIn_cond_false hv (this hF)
          · exact h.elim
        · rename_i b;cases b with
          | true=>exact wpIn_cond_true rfl (ih m (.code x) F H fs q Q QQ RR hq hx h r (T2 hr).1 ρ a w hm hH hF)
          | false=>exact wpIn_cond_false rfl (ih m (.code y) F H fs q Q QQ RR hq hy h r (T2 hr).2 ρ a w hm hH hF)
        · exact h.elim
      | block id c=>
        have key:=ih m (.code c) F H fs (Od id q) (R1 id Q) QQ RR (fun e F1 H1 fs1 ht=>by
          cases e with
          | normal=>exact hq _ _ _ _ ht
          | ret=>exact hq _ _ _ _ ht
          | exit i=>
            simp only [Od] at ht;simp only [R1];cases hb:(i==id) with
            | true=>rw [hb] at ht;exact hq _ _ _ _ ht
            | false=>rw [hb] at ht;exact hq _ _ _ _ ht) (fun b hb=>hlp b hb) h r (Hy hr) ρ a w hm hH hF
        refine wpIn_block (Code.wpIn_mono ?_ key);rintro e a' w' ⟨ae,ρ',F',H',rfl,h2,h3⟩;cases ae with
        | normal=>exact ⟨.normal,ρ',F',H',rfl,h2,h3⟩
        | ret=>exact ⟨.ret,ρ',F',H',rfl,h2,h3⟩
        | exit i=>
          simp only [R1] at h2;show (if i=id then AP C m ρ w Q .normal a' w' else AP C m ρ w Q (.exit i) a' w');split at h2
          · rename_i hi;rw [if_pos (by simpa using hi)];exact ⟨.normal,ρ',F',H',rfl,h2,h3⟩
          · rename_i hi;rw [if_neg (by simpa using hi)];exact ⟨.exit i,ρ',F',H',rfl,h2,h3⟩
      | loop c=>
        simp only [S7] at h;split at h
        · rename_i hm';split at h
          · rename_i o ho;have hmem:c∈lps:=hlp c (List.mem_cons_self ..);exact hK.loops m c F H o (Nat.le_of_ble_eq_true hm') hmem ho fs.n Q (E0 (fun e F' H' ⟨fs',ht⟩=>hq _ _ _ _ ht) o fs.n (I3 o fs h)) r hr ρ a w hH hF
          · exact h.elim
        · exact h.elim
      | rangeFunc g ps as bd=>
        simp only [S7] at h;split at h
        · rename_i hm';split at h
          · rename_i o ho;have hmem:Code.rangeFunc g ps as bd∈lps:=hlp _ (List.mem_cons_self ..);exact hK.rngs m _ F H o (Nat.le_of_ble_eq_true hm') hmem ho fs.n Q (E0 (fun e F' H' ⟨fs',ht⟩=>hq _ _ _ _ ht) o fs.n (I3 o fs h)) r hr ρ a w hH hF
          · exact h.elim
        · exact h.elim
      | exit i=>exact wpIn_exit (here (.exit i) (hq _ _ _ _ h))
      | scope c=>
        refine Z8 (Code.wpIn_mono ?_ (ih m (.code c) F H fs q Q QQ RR hq (fun b hb=>hlp b hb) h r (Qt hr) ρ a w hm hH hF));rintro e a' w' h;obtain ⟨ae,ρ',F',H',rfl,h2⟩:=h;cases ae with
        | normal=>exact ⟨.normal,ρ',F',H',rfl,h2⟩
        | ret=>exact ⟨.ret,ρ',F',H',rfl,h2⟩
        | exit i=>exact ⟨.exit i,ρ',F',H',rfl,h2⟩
      | label i=>exact wpIn_label (here .normal (hq _ _ _ _ h))
      | ret=>exact wpIn_ret (here .ret (hq _ _ _ _ h))
      | _=>exact h.elim
end Go.Am
namespace Go.Am
variable {C:Ctx}
def f0 (n:Nat):Facts:=⟨n,[]⟩
noncomputable def Z0 (K:DCfg) (fuel n0:Nat) (fn:Func) (args:List EV) (H:DHp) (keep:Nat):T:=
 dx K fuel H.length (.code (H9 fn)) (Bm fn args) H (f0 n0) (Hq K.P fn fun v H' _=>.ret v (H'.take keep))
def rdD (live:List Nat) (F:DFr):List EV:=live.map fun i=>F.getD i .undef
def flD (N:Nat) (live:List Nat) (vs:List EV):DFr:=(List.range N).map fun i=>(((live.zip vs).find? fun p=>Nat.beq p.1 i).map (·.2)).getD .undef
def finL (N:Nat) (live:List Nat):DK:=fun e F H _=>match Nat.beq F.length N with
 | true=>.leaf e (rdD live F) H
 | false=>.fail
noncomputable def Gs (K:DCfg) (fuel n0 m:Nat) (c:Code) (N:Nat) (live:List Nat) (vs:List EV) (H:DHp):T:=
 dx K fuel m (.code c) (flD N live vs) H (f0 n0) (finL N live)
theorem Zz {G:Nat→List AV} (N:Nat) (live:List Nat) (vs:List EV):vVs G (flD N live vs)=fl N live (vVs G vs):=by
 unfold flD fl fr;rw [I6,List.map_map];refine List.map_congr_left fun i _=>?_;simp only [Function.comp]
 induction live generalizing vs with
 | nil=>simp [vV]
 | cons x live ih=>
  cases vs with
  | nil=>simp [vV,vVs]
  | cons v vs=>
   simp only [vVs,List.zip_cons_cons,List.find?_cons];split
   ·rename_i h;simp only [Option.map_some,Option.getD_some]
   ·rename_i h;exact ih vs
theorem Zy {G:Nat→List AV} (live:List Nat) (F:DFr):vVs G (rdD live F)=Hb live (vVs G F):=by
 unfold rdD Hb;rw [I6,List.map_map];refine List.map_congr_left fun i _=>?_;simp only [Function.comp,S1]
theorem O0 {K : DCfg} {fuel n0 : Nat} {f : FuncId} {fn : Func} {args : List EV} {H : DHp} {keep : Nat} {R : AV → Hp → Prop} (hK : Oj C K (C3 (H9 fn))) (hf : C.P.funcs[f]? = some fn) (hb : fn.body = some (H9 fn)) (hn : (fn.name == "runtime.NumGoroutine") = false)
  (h:vT C.G (fun _ _ _=>False) R (Z0 K fuel n0 fn args H keep)):ACalls C f (vVs C.G args) (B0 C.G H) fun v H'=>R v (H'.take keep):=by
 refine acalls_of hf hb hn fun r hr ρ a w hH hF=>?_
 have:=Vc hK fuel H.length (.code (H9 fn)) (Bm fn args) H (f0 n0) _ (L1 C fn fun v H'=>R v (H'.take keep)) (fun _ _ _=>False) R (fun e F1 H1 fs1 ht=>by
  unfold Hq at ht;split at ht
  ·exact ht.elim
  ·rename_i hne;obtain ⟨cc,v,q1,q2,q3⟩:=Cu ht;rw [hK.hP] at q1;have e1:=Te rfl _ _ q1 q2;have e2:B0 C.G (H1.take keep)=(B0 C.G H1).take keep:=by simp only [B0,List.map_take]
   simp only [vT,e2] at q3;cases e with
   | exit i=>exact absurd rfl (hne i)
   | normal=>simp only [L1];rw [e1];exact q3
   | ret=>simp only [L1];rw [e1];exact q3) (fun b hb=>hb) h
 simp only [vWk,Lu] at this
 have:=this r hr ρ a w (by simp [C7]) hH hF
 rw [←C7 (G:=C.G) H] at this;exact this
theorem Ak {K:DCfg} {fuel n0 m:Nat} {c:Code} {N:Nat} {live:List Nat} {vs:List EV} {H:DHp} {Q:Ex→List AV→Hp→Prop} (hK:Oj C K (C3 c)) (hm:m≤H.length)
  (h:vT C.G Q (fun _ _=>False) (Gs K fuel n0 m c N live vs H)):B8 C m c (fl N live (vVs C.G vs)) (B0 C.G H) (lv N live Q):=by
 have:=Vc hK fuel m (.code c) (flD N live vs) H (f0 n0) _ (lv N live Q) Q (fun _ _=>False) (fun e F1 H1 fs1 ht=>by
  unfold finL at ht;split at ht
  ·rename_i hb;simp only [vT,Zy] at ht;simp only [lv,P3,hb];exact ht
  ·exact ht.elim) (fun b hb=>hb) h
 rw [Zz] at this;exact fun r hr ρ a w hH hF=>this r hr ρ a w (by simpa [C7] using hm) hH hF
abbrev DSum:=List EV→DHp→Option Outs
def Oa:List (Nat×DSum)→FuncId→List EV→DHp→Option Outs
 | [],_,_,_=>none
 | (g,s)::l,f,args,H=>match Nat.beq g f with
  | true=>s args H
  | false=>Oa l f args H
def Br (C:Ctx) (f:FuncId) (s:DSum):Prop:=∀ args H o,s args H=some o→Y1 C.G (J1 C f args H) o
def U5 (C:Ctx) (l:List (Nat×DSum)):Prop:=∀ f args H o,Oa l f args H=some o→Y1 C.G (J1 C f args H) o
theorem U5.nil:U5 C []:=fun f args H o h=>by simp [Oa] at h
theorem U5.cons {g:Nat} {s:DSum} {l:List (Nat×DSum)} (h:Br C g s) (k:U5 C l):U5 C ((g,s)::l):=by
 intro f args H o ho;simp only [Oa] at ho;split at ho
 ·rename_i hg
  have:=Nat.eq_of_beq_eq_true hg
  subst this;exact h args H o ho
 ·exact k f args H o ho
abbrev DLoop:=List EV→DHp→Option LOut
def V9 (N:Nat) (live:List Nat):LOut→LOut
 | .one e vs H=>.one e (flD N live vs) H
 | .chk b x=>.chk b (V9 N live x)
 | .tst b x y=>.tst b (V9 N live x) (V9 N live y)
 | .imp b x=>.imp b (V9 N live x)
 | .allI k=>.allI fun x=>V9 N live (k x)
 | .allN k=>.allN fun x=>V9 N live (k x)
 | .allB k=>.allB fun x=>V9 N live (k x)
 | .allL k=>.allL fun x=>V9 N live (k x)
 | .namI e k=>.namI e fun x=>V9 N live (k x)
 | .namN e k=>.namN e fun x=>V9 N live (k x)
 | .namB e k=>.namB e fun x=>V9 N live (k x)
 | .namL e k=>.namL e fun x=>V9 N live (k x)
structure DL where
 ex:Nat
 N:Nat
 live:List Nat
 S:DLoop
def Bn:List DL→Code→DFr→DHp→Option LOut
 | [],_,_,_=>none
 | d::l,c,F,H=>match Gp c with
  | some i=>match Nat.beq i d.ex with
   | true=>match Nat.beq F.length d.N with
    | true=>match d.S (rdD d.live F) H with
     | some o=>some (V9 d.N d.live o)
     | none=>none
    | false=>none
   | false=>Bn l c F H
  | none=>none
theorem G0 {G:Nat→List AV} {Q:Ex→DFr→DHp→Prop} {N:Nat} {live:List Nat}:∀ (o:LOut) (n:Nat),E4 G Q n (V9 N live o)→E4 G (fun e vs H=>Q e (flD N live vs) H) n o
 | .one e F H,n,h=>h
 | .chk b x,n,h=>⟨h.1,G0 x n h.2⟩
 | .tst b x y,n,h=>⟨fun hb=>G0 x n (h.1 hb),fun hb=>G0 y n (h.2 hb)⟩
 | .imp b x,n,h=>fun hb=>G0 x n (h hb)
 | .allI f,n,h=>fun x=>G0 (f (.var n x)) (n+1) (h x)
 | .allN f,n,h=>fun x=>G0 (f (.var n x)) (n+1) (h x)
 | .allB f,n,h=>fun x=>G0 (f (.var n x)) (n+1) (h x)
 | .allL f,n,h=>fun x=>G0 (f (.var n x)) (n+1) (h x)
 | .namI e f,n,h=>G0 (f (.var n _)) (n+1) h
 | .namN e f,n,h=>G0 (f (.var n _)) (n+1) h
 | .namB e f,n,h=>G0 (f (.var n _)) (n+1) h
 | .namL e f,n,h=>G0 (f (.var n _)) (n+1) h
def Lp (m:Nat) (Q:Ex→List AV→Hp→Prop) (e:Ex) (vs'':List AV) (H'':Hp):Prop:=(∃ vs',wk vs' vs''∧Q e vs' H'')∨∃ vs' H',E1 m vs' H' vs'' H''∧Q e vs' H'
def X5 (C:Ctx) (M:Nat) (c:Code) (d:DL):Prop:=
 ∀ m vs H o,m≤M→d.S vs H=some o→∀ n (Q:Ex→List AV→Hp→Prop),E4 C.G (fun e vs' H'=>Q e (vVs C.G vs') (B0 C.G H')) n o→
  B8 C m (.loop c) (fl d.N d.live (vVs C.G vs)) (B0 C.G H) (lv d.N d.live (Lp m Q))
def Q6 (C:Ctx) (M:Nat) (cs:List Code) (ls:Code→DFr→DHp→Option LOut):Prop:=∀ m c F H o,m≤M→c∈cs→ls c F H=some o→∀ n (Q:Post),E4 C.G (fun e F' H'=>Q e (vVs C.G F') (B0 C.G H')) n o→B8 C m (.loop c) (vVs C.G F) (B0 C.G H) Q
theorem Q6.nil {M:Nat} {ls:Code→DFr→DHp→Option LOut}:Q6 C M [] ls:=fun m c F H o _ h=>by simp at h
theorem B8.wkd {m:Nat} {c:Code} {F:Fr} {H:Hp} {N:Nat} {live:List Nat} {Q:Ex→List AV→Hp→Prop} {Q':Post} (h:B8 C m c F H (lv N live (Lp m Q))) (hq:∀ e vs H',Q e vs H'→Q' e (fl N live vs) H'):B8 C m c F H Q':=by
 intro r hr ρ a w hH hF;refine Code.wpIn_mono ?_ (h r hr ρ a w hH hF);rintro e a' w' ⟨ae,ρ',F',H',rfl,h2,h3,h4,h5,h6⟩;obtain ⟨h7,h8⟩:=An h2;have hN:F'.length=N:=Nat.eq_of_beq_eq_true h7;rcases h8 with ⟨vs',h8,h9⟩ | ⟨vs',H1,h8,h9⟩
 ·exact ⟨ae,ρ',_,H',rfl,hq _ _ _ h9,h3,h4,gU h5 hN h8,h6⟩
 ·obtain ⟨ρ2,g1,g2,g3,g4⟩:=h8.live (N:=N) (live:=live) h4 h5.nod (by rw [←h5.len,hN]) (by simp [Hb]) (fun j i v q1 q2=>by
   simp only [Hb,List.getElem?_map,q1,Option.map_some,Option.some.injEq] at q2;subst q2;by_cases hi:i<F'.length
   ·exact h5.val i _ (by simp [List.getD,hi])
   ·simp [List.getD,hi,VR])
  exact ⟨ae,ρ2,_,H1,rfl,hq _ _ _ h9,h3.trans g3,g1,g2,h6.trans g4⟩
def Se (i:Nat):List DL→Option DL
 | []=>none
 | d::l=>match Nat.beq i d.ex with
  | true=>some d
  | false=>Se i l
theorem Ku {c:Code} {F:DFr} {H:DHp} {o:LOut} {i:Nat} (he:Gp c=some i):∀ (l:List DL),Bn l c F H=some o→∃ d,Se i l=some d∧F.length=d.N∧∃ o',d.S (rdD d.live F) H=some o'∧o=V9 d.N d.live o'
 | [],h=>by simp [Bn] at h
 | d::l,h=>by
  simp only [Bn,he] at h;simp only [Se];split at h
  ·rename_i hi;split at h
   ·rename_i hN;split at h
    ·rename_i o' ho;simp at h;subst h;exact ⟨d,rfl,Nat.eq_of_beq_eq_true hN,o',ho,rfl⟩
    ·simp at h
   ·simp at h
  ·exact Ku he l h
theorem Q6.cons {M:Nat} {c:Code} {cs:List Code} {l:List DL} {d:DL} {i:Nat} (he:Gp c=some i) (hp:Se i l=some d) (h:X5 C M c d) (k:Q6 C M cs (Bn l)):Q6 C M (c::cs) (Bn l):=by
 intro m c' F H o hm hc ho n Q hQ;rcases List.mem_cons.1 hc with rfl | hc
 ·obtain ⟨d',h1,h2,o',h3,rfl⟩:=Ku he l ho;rw [hp] at h1;simp at h1;subst h1
  have:=h m _ _ _ hm h3 n (fun e vs H'=>Q e (fl d.N d.live vs) H') (by
   have:=G0 o' n hQ
   refine E0 (fun e vs H' hq=>?_) o' n this;rw [Zz] at hq
   exact hq)
  have:=this.wkd (Q':=Q) fun e vs H' h=>h
  intro r hr ρ a w hH hF;refine this r hr ρ a w hH ?_
  have:=Ms (live:=d.live) (N:=d.N) hF (by rw [P3];exact h2)
  rw [Zy];exact this
 ·exact k m c' F H o hm hc ho n Q hQ
theorem Q6.cast {M:Nat} {cs ds:List Code} {ls:Code→DFr→DHp→Option LOut} (h:Q6 C M ds ls) (e:cs=ds):Q6 C M cs ls:=by rw [e];exact h
theorem E1.pin {m m':Nat} (hm:m'≤m) {F F':Fr} {H H':Hp} (h:E1 m F H F' H'):E1 m' F H F' H':=by
 obtain ⟨θ,g1,g2,g3,g4⟩:=h.ex;exact ⟨θ,g1,by omega,fun i hi=>g3 i (by omega),g4⟩
theorem Lp.pin {m m':Nat} (hm:m'≤m) {Q:Ex→List AV→Hp→Prop} {e:Ex} {vs:List AV} {H:Hp} (h:Lp m Q e vs H):Lp m' Q e vs H:=by
 rcases h with h | ⟨vs',H',h1,h2⟩
 ·exact .inl h
 ·exact .inr ⟨vs',H',h1.pin hm,h2⟩
def Dc (P:Program) (inl:List Nat) (sums:List (Nat×DSum)) (ls:List DL) (M:Nat):DCfg:={ P:=P,inl:=Qw inl,sum:=Oa sums,loop:=Bn ls,M:=M }
theorem U3 {P:Program} {G:Nat→List AV} {B:Nat} {inl:List Nat} {sums:List (Nat×DSum)} {ls:List DL} {M:Nat} {cs:List Code} (hm:P.follows .mixedOrders=true) (hp:Pb P inl=true) (hs:U5 ⟨P,G,B⟩ sums) (hl:Q6 ⟨P,G,B⟩ M cs (Bn ls)) :
  Oj ⟨P,G,B⟩ (Dc P inl sums ls M) cs:=
 ⟨rfl,hm,hs,hl,aR hp,fun m c F H o _ _ h=>by simp [Dc] at h,fun i args H o h=>by simp [Dc] at h⟩
end Go.Am
