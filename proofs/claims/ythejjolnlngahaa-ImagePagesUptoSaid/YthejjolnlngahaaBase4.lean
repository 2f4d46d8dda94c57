/-
  Written terms: what the abstract machine over them says of values, and The machine over written terms: a piece of code becomes a tree.
-/
import Derived.Test.YthejjolnlngahaaBase3
namespace Go.Am
mutual
/-- whole numbers -/
inductive EI
 | lit (n:Int)
 | var (j:Nat) (x:Int)
 | bin (o:BinOp) (k:IntKind) (a b:EI)
 | conv (k:IntKind) (a:EI)
 | neg (k:IntKind) (a:EI)
 | cpl (k:IntKind) (a:EI)
 | ofN (n:EN)
 | mx (a b:EI)
 | mn (a b:EI)
 | get (l:EL) (o:EN)
 | uf (j:Nat) (f:List AV→Int) (as:List EV)
/-- counts -/
inductive EN
 | lit (n:Nat)
 | var (j:Nat) (x:Nat)
 | toN (a:EI)
 | add (a b:EN)
 | mul (a:EN) (z:Nat)
 | sub (a b:EN)
 | len (l:EL)
 | slen (s:ES)
 | rk (l:EL) (o:EN)
 | ro (l:EL) (o:EN)
 | rn (l:EL) (o:EN)
 | fk (b:Nat) (l:EL) (o:EN)
 | fo (l:EL) (o:EN)
 | fn (l:EL) (o:EN)
 | uf (j:Nat) (f:List AV→Nat) (as:List EV)
/-- truth values -/
inductive EB
 | lit (b:Bool)
 | var (j:Nat) (x:Bool)
 | cmp (o:BinOp) (a b:EI)
 | not (b:EB)
 | and (a b:EB)
 | eqB (a b:EB)
 | eqS (a b:ES)
 | isI (k:IntKind) (l:EL) (o:EN)
 | isB (l:EL) (o:EN)
 | isT (l:EL) (o:EN)
 | isR (l:EL) (o:EN)
 | get (l:EL) (o:EN)
 | leN (a b:EN)
 | eqN (a b:EN)
 | leaf (l:EL) (o:EN) (ls:List Lf)
 | u8s (l:EL)
 | cells (l:EL)
 | isF (b c:Nat) (l:EL) (o:EN)
 | isP (b c:Nat) (l:EL) (o:EN)
 | isNil (l:EL) (o:EN)
 | rows (l:EL) (ls:List EV)
 | uf (j:Nat) (f:List AV→Bool) (as:List EV)
/-- texts -/
inductive ES
 | lit (s:List UInt8)
 | var (j:Nat) (x:List UInt8)
 | app (a b:ES)
 | sub (s:ES) (lo hi:EN)
 | get (l:EL) (o:EN)
 | ofL (l:EL)
 | uf (j:Nat) (f:List AV→List UInt8) (as:List EV)
/-- cells -/
inductive EL
 | of (cs:List EV)
 | var (j:Nat) (x:List AV)
 | ro (n:EN)
 | set (l:EL) (o:EN) (v:EV)
 | app (a b:EL)
 | sub (l:EL) (o n:EN)
 | bytes (s:ES)
 | rep (n:EN) (l:EL)
 | row (l:EL) (k:EN)
 | put (l:EL) (k:EN) (v:EL)
 | uf (j:Nat) (f:List AV→List AV) (as:List EV)
/-- values -/
inductive EV
 | undef
 | bool (b:EB)
 | int (k:IntKind) (n:EI)
 | str (s:ES)
 | nilp
 | ptr (r:ER) (o:EN)
 | nils
 | slice (mb:Bool) (r:ER) (o n:EN)
 | nilf
 | func (f:FuncId) (cap:List EV)
 | agg (l:EL)
 | tup (vs:List EV)
 | yld (i:Nat)
/-- places -/
inductive ER
 | rw (i:Nat)
 | ro (n:EN)
 | fm (b c:Nat) (k:EN)
end
def Pa (o:BinOp) (k:IntKind) (x y:Int):Int:=
 match o with
 | .add=>k.wrap (x+y)
 | .sub=>k.wrap (x - y)
 | .mul=>k.wrap (x*y)
 | .quo=>k.wrap (x.tdiv y)
 | .rem=>x.tmod y
 | .and=>Cj k x y
 | .or=>kOr k x y
 | .xor=>jJ k x y
 | .andNot=>Sg k x y
 | .shl=>cT k x y
 | .shr=>cS k x y
 | _=>0
def Oy (o:BinOp) (x y:Int):Bool:=
 match o with
 | .eql=>x==y
 | .neq=>x != y
 | .lss=>decide (x<y)
 | .leq=>decide (x≤y)
 | .gtr=>decide (x>y)
 | .geq=>decide (x≥y)
 | _=>false
def leB (x y:Nat):Bool:=decide (x≤y)
def u8s (cs:List AV):Bool:=cs.all Jm
def T0 (cs:List AV):Bool:=cs.all isCell
def Rr (cs:List AV):List UInt8:=cs.map Pi
def Yn (s:List UInt8):List AV:=s.map fun b=>.int .u8 b.toNat
def F8 (cs:List AV) (o n:Nat):List AV:=(cs.drop o).take n
def Ja (n:Nat) (cs:List AV):List AV:=(List.replicate n cs).flatten
def Fj (L:List AV) (k:Nat):List AV:=match L[k]? with | some (.agg cs)=>cs | _=>[]
def Rz (L:List AV) (k:Nat) (cs:List AV):List AV:=L.set k (.agg cs)
def Qr (b:Nat) (cs:List AV) (o:Nat):Nat:=match cs[o]? with | some (.slice _ (.rw i) _ _)=>i - b | some (.ptr (.rw i) _)=>i - b | _=>0
def Ya (cs:List AV) (o:Nat):Nat:=match cs[o]? with | some (.slice _ (.rw _) f _)=>f | some (.ptr (.rw _) f)=>f | _=>0
def fnA (cs:List AV) (o:Nat):Nat:=match cs[o]? with | some (.slice _ (.rw _) _ n)=>n | _=>0
def jL (b c:Nat) (cs:List AV) (o:Nat):Bool:=match cs[o]? with | some (.slice true (.rw i) _ _)=>Nat.ble b i&&Nat.blt i (b+c) | _=>false
def jK (b c:Nat) (cs:List AV) (o:Nat):Bool:=match cs[o]? with | some (.ptr (.rw i) _)=>Nat.ble b i&&Nat.blt i (b+c) | _=>false
def Xm (cs:List AV) (o:Nat):Bool:=match cs[o]? with | some .nilp=>true | _=>false
open Classical in
noncomputable def Pn (l:List AV) (ls:List AV):Bool:=decide (∀ v∈ls,v=.agg l)
section
variable (G:Nat→List AV)
mutual
noncomputable def vI:EI→Int
 | .lit n=>n
 | .var _ x=>x
 | .bin o k a b=>Pa o k (vI a) (vI b)
 | .conv k a=>k.wrap (vI a)
 | .neg k a=>k.wrap (0 - vI a)
 | .cpl k a=>Xl k (vI a)
 | .ofN n=>(vN n:Int)
 | .mx a b=>if vI b>vI a then vI b else vI a
 | .mn a b=>if vI b<vI a then vI b else vI a
 | .get l o=>A0 (vL l) (vN o)
 | .uf _ f as=>f (vVs as)
termination_by structural x=>x
noncomputable def vN:EN→Nat
 | .lit n=>n
 | .var _ x=>x
 | .toN a=>(vI a).toNat
 | .add a b=>vN a+vN b
 | .mul a z=>vN a*z
 | .sub a b=>vN a - vN b
 | .len l=>(vL l).length
 | .slen s=>(vS s).length
 | .rk l o=>A5 (vL l) (vN o)
 | .ro l o=>A7 (vL l) (vN o)
 | .rn l o=>B7 (vL l) (vN o)
 | .fk b l o=>Qr b (vL l) (vN o)
 | .fo l o=>Ya (vL l) (vN o)
 | .fn l o=>fnA (vL l) (vN o)
 | .uf _ f as=>f (vVs as)
termination_by structural x=>x
noncomputable def vB:EB→Bool
 | .lit b=>b
 | .var _ x=>x
 | .cmp o a b=>Oy o (vI a) (vI b)
 | .not b=>!(vB b)
 | .and a b=>vB a&&vB b
 | .eqB a b=>vB a==vB b
 | .eqS a b=>vS a==vS b
 | .isI k l o=>isI k (vL l) (vN o)
 | .isB l o=>isB (vL l) (vN o)
 | .isT l o=>Vj (vL l) (vN o)
 | .isR l o=>Dz (vL l) (vN o)
 | .get l o=>K5 (vL l) (vN o)
 | .leN a b=>leB (vN a) (vN b)
 | .eqN a b=>Nat.beq (vN a) (vN b)
 | .leaf l o ls=>E2 (vL l) (vN o) ls
 | .u8s l=>u8s (vL l)
 | .cells l=>T0 (vL l)
 | .isF b c l o=>jL b c (vL l) (vN o)
 | .isP b c l o=>jK b c (vL l) (vN o)
 | .isNil l o=>Xm (vL l) (vN o)
 | .rows l ls=>Pn (vL l) (vVs ls)
 | .uf _ f as=>f (vVs as)
termination_by structural x=>x
noncomputable def vS:ES→List UInt8
 | .lit s=>s
 | .var _ x=>x
 | .app a b=>vS a++vS b
 | .sub s lo hi=>((vS s).take (vN hi)).drop (vN lo)
 | .get l o=>Qm (vL l) (vN o)
 | .ofL l=>Rr (vL l)
 | .uf _ f as=>f (vVs as)
termination_by structural x=>x
noncomputable def vL:EL→List AV
 | .of cs=>vVs cs
 | .var _ x=>x
 | .ro n=>G (vN n)
 | .set l o v=>E0 (vL l) (vN o) (vV v)
 | .app a b=>vL a++vL b
 | .sub l o n=>F8 (vL l) (vN o) (vN n)
 | .bytes s=>Yn (vS s)
 | .rep n l=>Ja (vN n) (vL l)
 | .row l k=>Fj (vL l) (vN k)
 | .put l k v=>Rz (vL l) (vN k) (vL v)
 | .uf _ f as=>f (vVs as)
termination_by structural x=>x
noncomputable def vV:EV→AV
 | .undef=>.undef
 | .bool b=>.bool (vB b)
 | .int k n=>.int k (vI n)
 | .str s=>.str (vS s)
 | .nilp=>.nilp
 | .ptr r o=>.ptr (vR r) (vN o)
 | .nils=>.nils
 | .slice mb r o n=>.slice mb (vR r) (vN o) (vN n)
 | .nilf=>.nilf
 | .func f cap=>.func f (vVs cap)
 | .agg l=>.agg (vL l)
 | .tup vs=>.tup (vVs vs)
 | .yld i=>.yld i
termination_by structural x=>x
noncomputable def vVs:List EV→List AV
 | []=>[]
 | x::l=>vV x::vVs l
termination_by structural x=>x
noncomputable def vR:ER→Ref
 | .rw i=>.rw i
 | .ro n=>.ro (vN n)
 | .fm b _ k=>.rw (b+vN k)
termination_by structural x=>x
end
end
mutual
def Bx:EI→EI→Bool
 | .lit a,.lit b=>a==b
 | .var j _,.var i _=>Nat.beq j i
 | .bin o k a b,.bin o' k' a' b'=>o==o'&&(k==k'&&(Bx a a'&&Bx b b'))
 | .conv k a,.conv k' a'=>k==k'&&Bx a a'
 | .neg k a,.neg k' a'=>k==k'&&Bx a a'
 | .cpl k a,.cpl k' a'=>k==k'&&Bx a a'
 | .ofN a,.ofN b=>eqN a b
 | .mx a b,.mx a' b'=>Bx a a'&&Bx b b'
 | .mn a b,.mn a' b'=>Bx a a'&&Bx b b'
 | .get l o,.get l' o'=>eqN o o'&&P5 l l'
 | .uf j _ a,.uf j' _ a'=>Nat.beq j j'&&Hi a a'
 | _,_=>false
termination_by structural x=>x
def eqN:EN→EN→Bool
 | .lit a,.lit b=>Nat.beq a b
 | .var j _,.var i _=>Nat.beq j i
 | .toN a,.toN b=>Bx a b
 | .add a b,.add a' b'=>eqN a a'&&eqN b b'
 | .mul a z,.mul a' z'=>Nat.beq z z'&&eqN a a'
 | .sub a b,.sub a' b'=>eqN a a'&&eqN b b'
 | .len a,.len b=>P5 a b
 | .slen a,.slen b=>eqS a b
 | .rk l o,.rk l' o'=>eqN o o'&&P5 l l'
 | .ro l o,.ro l' o'=>eqN o o'&&P5 l l'
 | .rn l o,.rn l' o'=>eqN o o'&&P5 l l'
 | .fk b l o,.fk b' l' o'=>Nat.beq b b'&&(eqN o o'&&P5 l l')
 | .fo l o,.fo l' o'=>eqN o o'&&P5 l l'
 | .fn l o,.fn l' o'=>eqN o o'&&P5 l l'
 | .uf j _ a,.uf j' _ a'=>Nat.beq j j'&&Hi a a'
 | _,_=>false
termination_by structural x=>x
def eqB:EB→EB→Bool
 | .lit a,.lit b=>a==b
 | .var j _,.var i _=>Nat.beq j i
 | .cmp o a b,.cmp o' a' b'=>o==o'&&(Bx a a'&&Bx b b')
 | .not a,.not b=>eqB a b
 | .and a b,.and a' b'=>eqB a a'&&eqB b b'
 | .eqB a b,.eqB a' b'=>eqB a a'&&eqB b b'
 | .eqS a b,.eqS a' b'=>eqS a a'&&eqS b b'
 | .isI k l o,.isI k' l' o'=>k==k'&&(eqN o o'&&P5 l l')
 | .isB l o,.isB l' o'=>eqN o o'&&P5 l l'
 | .isT l o,.isT l' o'=>eqN o o'&&P5 l l'
 | .isR l o,.isR l' o'=>eqN o o'&&P5 l l'
 | .get l o,.get l' o'=>eqN o o'&&P5 l l'
 | .leN a b,.leN a' b'=>eqN a a'&&eqN b b'
 | .eqN a b,.eqN a' b'=>eqN a a'&&eqN b b'
 | .leaf l o _,.leaf l' o' _=>eqN o o'&&P5 l l'
 | .u8s l,.u8s l'=>P5 l l'
 | .cells l,.cells l'=>P5 l l'
 | .isF b _ l o,.isF b' _ l' o'=>Nat.beq b b'&&(eqN o o'&&P5 l l')
 | .isP b _ l o,.isP b' _ l' o'=>Nat.beq b b'&&(eqN o o'&&P5 l l')
 | .isNil l o,.isNil l' o'=>eqN o o'&&P5 l l'
 | .rows l ls,.rows l' ls'=>P5 l l'&&Hi ls ls'
 | .uf j _ a,.uf j' _ a'=>Nat.beq j j'&&Hi a a'
 | _,_=>false
termination_by structural x=>x
def eqS:ES→ES→Bool
 | .lit a,.lit b=>a==b
 | .var j _,.var i _=>Nat.beq j i
 | .app a b,.app a' b'=>eqS a a'&&eqS b b'
 | .sub s l h,.sub s' l' h'=>eqS s s'&&(eqN l l'&&eqN h h')
 | .get l o,.get l' o'=>eqN o o'&&P5 l l'
 | .ofL l,.ofL l'=>P5 l l'
 | .uf j _ a,.uf j' _ a'=>Nat.beq j j'&&Hi a a'
 | _,_=>false
termination_by structural x=>x
def P5:EL→EL→Bool
 | .of a,.of b=>Hi a b
 | .var j _,.var i _=>Nat.beq j i
 | .ro a,.ro b=>eqN a b
 | .set l o v,.set l' o' v'=>eqN o o'&&(eqV' v v'&&P5 l l')
 | .app a b,.app a' b'=>P5 a a'&&P5 b b'
 | .sub l a b,.sub l' a' b'=>P5 l l'&&(eqN a a'&&eqN b b')
 | .bytes a,.bytes b=>eqS a b
 | .rep n l,.rep n' l'=>eqN n n'&&P5 l l'
 | .row l k,.row l' k'=>eqN k k'&&P5 l l'
 | .put l k v,.put l' k' v'=>eqN k k'&&(P5 v v'&&P5 l l')
 | .uf j _ a,.uf j' _ a'=>Nat.beq j j'&&Hi a a'
 | _,_=>false
termination_by structural x=>x
def eqV':EV→EV→Bool
 | .undef,.undef=>true
 | .bool a,.bool b=>eqB a b
 | .int k a,.int k' b=>k==k'&&Bx a b
 | .str a,.str b=>eqS a b
 | .nilp,.nilp=>true
 | .ptr r o,.ptr r' o'=>eqR r r'&&eqN o o'
 | .nils,.nils=>true
 | .slice _ r o n,.slice _ r' o' n'=>eqR r r'&&(eqN o o'&&eqN n n')
 | .nilf,.nilf=>true
 | .func f c,.func f' c'=>Nat.beq f f'&&Hi c c'
 | .agg a,.agg b=>P5 a b
 | .tup a,.tup b=>Hi a b
 | .yld i,.yld j=>Nat.beq i j
 | _,_=>false
termination_by structural x=>x
def Hi:List EV→List EV→Bool
 | [],[]=>true
 | x::l,y::m=>eqV' x y&&Hi l m
 | _,_=>false
termination_by structural x=>x
def eqR:ER→ER→Bool
 | .rw i,.rw j=>Nat.beq i j
 | .ro a,.ro b=>eqN a b
 | .fm b _ k,.fm b' _ k'=>Nat.beq b b'&&eqN k k'
 | _,_=>false
termination_by structural x=>x
end
def C1 (a b:EB):EB:=
 match a with
 | .lit true=>b
 | .lit false=>.lit false
 | a=>match b with
  | .lit true=>a
  | .lit false=>.lit false
  | b=>.and a b
def Ah:EB→EB
 | .lit b=>.lit (!b)
 | .not b=>b
 | b=>.not b
def Vh (a b:EB):EB:=
 match a,b with
 | .lit true,b=>b
 | .lit false,b=>Ah b
 | a,.lit true=>a
 | a,.lit false=>Ah a
 | a,b=>.eqB a b
def D9 (o:BinOp) (a b:EI):EB:=
 match a,b with
 | .lit x,.lit y=>.lit (Oy o x y)
 | a,b=>.cmp o a b
def Y4 (o:BinOp) (k:IntKind) (a b:EI):EI:=
 match a,b with
 | .lit x,.lit y=>.lit (Pa o k x y)
 | a,b=>.bin o k a b
def Xd (k:IntKind):EI→EI
 | .lit x=>.lit (k.wrap x)
 | a=>.conv k a
def cO (k:IntKind):EI→EI
 | .lit x=>.lit (k.wrap (0 - x))
 | a=>.neg k a
def cP (k:IntKind):EI→EI
 | .lit x=>.lit (Xl k x)
 | a=>.cpl k a
def Y3:EN→EI
 | .lit n=>.lit n
 | n=>.ofN n
def T8:EI→EN
 | .lit n=>.lit n.toNat
 | .ofN n=>n
 | a=>.toN a
def K3 (a b:EN):EN:=
 match a,b with
 | .lit x,.lit y=>.lit (x+y)
 | a,.lit 0=>a
 | .lit 0,b=>b
 | .add a (.lit x),.lit y=>.add a (.lit (x+y))
 | a,b=>.add a b
def M9 (a:EN) (z:Nat):EN:=
 match z with
 | 1=>a
 | z=>match a with
  | .lit x=>.lit (x*z)
  | a=>.mul a z
def cN (a b:EN):EN:=
 match a,b with
 | .lit x,.lit y=>.lit (x - y)
 | a,.lit 0=>a
 | a,b=>.sub a b
def O0 (a b:EN):EB:=
 match a,b with
 | .lit x,.lit y=>.lit (Nat.ble x y)
 | .lit 0,_=>.lit true
 | a,b=>.leN a b
def Vg (a b:EN):EB:=
 match a,b with
 | .lit x,.lit y=>.lit (Nat.beq x y)
 | a,b=>.eqN a b
def Qc (a b:ES):EB:=
 match a,b with
 | .lit x,.lit y=>.lit (x==y)
 | a,b=>.eqS a b
def cQ (a b:ES):ES:=
 match a,b with
 | .lit x,.lit y=>.lit (x++y)
 | .lit [],b=>b
 | a,.lit []=>a
 | a,b=>.app a b
def T9:EL→EN
 | .of cs=>.lit cs.length
 | .bytes s=>.slen s
 | .sub l o n=>.len (.sub l o n)
 | l=>.len l
def Xo:EV→Bool
 | .agg _=>true
 | _=>false
def Ji (l:EL) (o:EN) (v:EV):EL:=
 match l,o with
 | .of cs,.lit n=>match v with
  | .agg (.of ds)=>.of (cs.take n++(ds++cs.drop (n+ds.length)))
  | .agg d=>.set (.of cs) (.lit n) (.agg d)
  | v=>.of (cs.set n v)
 | l,o=>.set l o v
def Bk (l:EL) (o n:EN):EL:=
 match l,o,n with
 | .of cs,.lit a,.lit b=>.of ((cs.drop a).take b)
 | l,o,n=>.sub l o n
def Qd (a b:EL):EL:=
 match a,b with
 | .of cs,.of ds=>.of (cs++ds)
 | .of [],b=>b
 | a,.of []=>a
 | a,b=>.app a b
def Mz:ES→EL
 | .lit s=>.of (s.map fun b=>.int .u8 (.lit b.toNat))
 | s=>.bytes s
def Qb (n:EN) (l:EL):EL:=
 match n,l with
 | .lit k,.of cs=>.of ((List.replicate k cs).flatten)
 | n,l=>.rep n l
def Om:EN→Option Nat
 | .lit n=>some n
 | _=>none
def T6:EL→Nat→Option (EB×EV)
 | .of cs,n=>match cs[n]? with
  | some v=>some (.lit true,v)
  | none=>none
 | .set l o v,n=>match Om o,Xo v with
  | some m,false=>match Nat.beq m n with
   | true=>some (O0 (.lit (n+1)) (T9 l),v)
   | false=>T6 l n
  | _,_=>none
 | _,_=>none
def rdI (k:IntKind) (l:EL) (o:EN):Option (EB×EI):=
 match Om o with
 | some n=>match T6 l n with
  | some (c,.int k' e)=>if k=k' then some (c,e) else none
  | some _=>none
  | none=>some (.isI k l o,.get l o)
 | none=>some (.isI k l o,.get l o)
def rdB (l:EL) (o:EN):Option (EB×EB):=
 match Om o with
 | some n=>match T6 l n with
  | some (c,.bool e)=>some (c,e)
  | some _=>none
  | none=>some (.isB l o,.get l o)
 | none=>some (.isB l o,.get l o)
end Go.Am
namespace Go.Am
structure Mj where
 esz:Nat
 cells:EL
abbrev DHp:=List (Option Mj)
abbrev DFr:=List EV
noncomputable def Jq (F:DFr) (n:Nat):EV:=
 List.rec (motive:=fun _=>Nat→EV) (fun _=>.undef) (fun x _ ih n=>Nat.rec (motive:=fun _=>EV) x (fun m _=>ih m) n) F n
noncomputable def bZ (F:DFr) (n:Nat) (v:EV):DFr:=
 List.rec (motive:=fun _=>Nat→DFr) (fun _=>[]) (fun x xs ih n=>Nat.rec (motive:=fun _=>DFr) (v::xs) (fun m _=>x::ih m) n) F n
theorem Cn:∀ (F:DFr) (n:Nat),Jq F n=F.getD n .undef
 | [],n=>rfl
 | x::F,0=>rfl
 | x::F,n+1=>by
  have:=Cn F n
  show Jq F n=_;rw [this];rfl
theorem Iy:∀ (F:DFr) (n:Nat) (v:EV),bZ F n v=F.set n v
 | [],n,v=>rfl
 | x::F,0,v=>rfl
 | x::F,n+1,v=>by
  have:=Iy F n v
  show x::bZ F n v=_;rw [this];rfl
structure Facts where
 n:Nat
 l:List (EB×Bool)
inductive T
 | fail
 | chk (b:EB) (t:T)
 | tst (b:EB) (x y:T)
 | imp (b:EB) (t:T)
 | allI (j:Nat) (k:Int→T)
 | allN (j:Nat) (k:Nat→T)
 | allB (j:Nat) (k:Bool→T)
 | allL (j:Nat) (k:List AV→T)
 | namI (j:Nat) (e:EI) (k:Int→T)
 | namN (j:Nat) (e:EN) (k:Nat→T)
 | namB (j:Nat) (e:EB) (k:Bool→T)
 | namL (j:Nat) (e:EL) (k:List AV→T)
 | leaf (e:Ex) (F:List EV) (H:DHp)
 | ret (v:EV) (H:DHp)
inductive DHop
 | set (i:Nat) (b:Mj)
 | new (b:Mj)
 | app (j:Nat) (b:Mj)
def DHop.act (H:DHp):DHop→DHp
 | .set i b=>H.set i (some b)
 | .new b=>H++[some b]
 | .app j b=>H.set j none++[some b]
def Dg (H:DHp):List DHop→DHp
 | []=>H
 | h::hs=>Dg (h.act H) hs
inductive Outs
 | one (v:EV) (hs:List DHop)
 | chk (b:EB) (x:Outs)
 | tst (b:EB) (x y:Outs)
 | namI (e:EI) (k:EI→Outs)
 | namN (e:EN) (k:EN→Outs)
 | namB (e:EB) (k:EB→Outs)
 | namL (e:EL) (k:EL→Outs)
inductive LOut
 | one (e:Ex) (F:DFr) (H:DHp)
 | chk (b:EB) (x:LOut)
 | tst (b:EB) (x y:LOut)
 | imp (b:EB) (x:LOut)
 | allI (k:EI→LOut)
 | allN (k:EN→LOut)
 | allB (k:EB→LOut)
 | allL (k:EL→LOut)
 | namI (e:EI) (k:EI→LOut)
 | namN (e:EN) (k:EN→LOut)
 | namB (e:EB) (k:EB→LOut)
 | namL (e:EL) (k:EL→LOut)
def nf:EB→EB×Bool
 | .not b=>match nf b with | (b,s)=>(b,!s)
 | .cmp .neq a b=>(.cmp .eql a b,false)
 | .cmp .geq a b=>(.cmp .lss a b,false)
 | .cmp .gtr a b=>(.cmp .lss b a,true)
 | .cmp .leq a b=>(.cmp .lss b a,false)
 | b=>(b,true)
def look (b:EB):List (EB×Bool)→Option Bool
 | []=>none
 | (c,v)::fs=>match eqB b c with
  | true=>some v
  | false=>look b fs
def maxO:Option Int→Int→Option Int
 | none,b=>some b
 | some a,b=>some (if a<b then b else a)
def minO:Option Int→Int→Option Int
 | none,b=>some b
 | some a,b=>some (if b<a then b else a)
def Ps (a:EI):List (EB×Bool)→Option Int×Option Int
 | []=>match a with
  | .ofN _=>(some 0,none)
  | _=>(none,none)
 | (.cmp .eql b (.lit m),true)::fs=>match Bx a b with
  | true=>(some m,some m)
  | false=>Ps a fs
 | (.cmp .lss b (.lit m),v)::fs=>match Bx a b,v,Ps a fs with
  | true,true,(lo,hi)=>(lo,minO hi (m - 1))
  | true,false,(lo,hi)=>(maxO lo m,hi)
  | _,_,r=>r
 | (.cmp .lss (.lit m) b,v)::fs=>match Bx a b,v,Ps a fs with
  | true,true,(lo,hi)=>(maxO lo (m+1),hi)
  | true,false,(lo,hi)=>(lo,minO hi m)
  | _,_,r=>r
 | _::fs=>Ps a fs
def decR (o:BinOp) (r:Option Int×Option Int) (s:Option Int×Option Int):Option Bool:=
 match o with
 | .lss=>match r,s with
  | (lo,hi),(lo',hi')=>match hi,lo' with
   | some a,some b=>match decide (a<b),lo,hi' with
    | true,_,_=>some true
    | false,some c,some d=>if d≤c then some false else none
    | false,_,_=>none
   | _,_=>match lo,hi' with
    | some c,some d=>if d≤c then some false else none
    | _,_=>none
 | .eql=>match r,s with
  | (lo,hi),(lo',hi')=>match (match hi,lo' with | some a,some b=>decide (a<b) | _,_=>false)||(match hi',lo with | some a,some b=>decide (a<b) | _,_=>false) with
   | true=>some false
   | false=>match lo,hi,lo',hi' with
    | some a,some b,some c,some d=>if a=b∧c=d∧a=c then some true else none
    | _,_,_,_=>none
 | _=>none
def Mq (fs:List (EB×Bool)):EI→Option Int×Option Int
 | .lit n=>(some n,some n)
 | a=>Ps a fs
def decN (fs:List (EB×Bool)) (b:EB):Option Bool:=
 match look b fs with
 | some v=>some v
 | none=>match b with
  | .cmp .eql x y=>match Bx x y with
   | true=>some true
   | false=>decR .eql (Mq fs x) (Mq fs y)
  | .cmp .lss x y=>match Bx x y with
   | true=>some false
   | false=>decR .lss (Mq fs x) (Mq fs y)
  | .eqS x y=>match eqS x y with
   | true=>some true
   | false=>none
  | .leN x y=>match eqN x y with
   | true=>some true
   | false=>none
  | .eqN x y=>match eqN x y with
   | true=>some true
   | false=>none
  | _=>none
def dec (fs:Facts) (b:EB):Option Bool:=
 match nf b with
 | (b,s)=>match decN fs.l b with
  | some v=>some (v==s)
  | none=>none
def Da (fs:Facts) (b:EB) (v:Bool):Facts:=
 match nf b with
 | (b,s)=>⟨fs.n,(b,v==s)::fs.l⟩
def fresh (fs:Facts):Facts:=⟨fs.n+1,fs.l⟩
def Z6 (b:EB) (t:T):T:=
 match b with
 | .lit true=>t
 | .lit false=>.fail
 | .and a b=>Z6 a (Z6 b t)
 | b=>.chk b t
def T4 (fs:Facts) (b:EB) (x y:Facts→T):T:=
 match b with
 | .lit true=>x fs
 | .lit false=>y fs
 | .not b=>T4 fs b y x
 | .and a b=>T4 fs a (fun fs=>T4 fs b x y) y
 | .eqB a b=>T4 fs a (fun fs=>T4 fs b x y) (fun fs=>T4 fs b y x)
 | b=>match dec fs b with
  | some true=>.chk b (x fs)
  | some false=>.chk (.not b) (y fs)
  | none=>.tst b (x (Da fs b true)) (y (Da fs b false))
def Px (o:Option (EB×EV)) (k:EV→T):T:=match o with | some (c,v)=>Z6 c (k v) | none=>.fail
def Vl:Value→EV
 | .bool b=>.bool (.lit b)
 | .int k n=>.int k (.lit n)
 | .string s=>.str (.lit s.data.toList)
 | .pointer none=>.nilp
 | .slice none 0 0=>.nils
 | .nilFunc=>.nilf
 | _=>.undef
def dI:Value→EV
 | .agg cs=>.agg (.of (cs.toList.map Vl))
 | v=>Vl v
noncomputable def evD (F:DFr):Operand→EV
 | .tmp t=>Jq F t
 | .const v=>dI v
 | .global _=>.undef
 | .func f=>.func f []
def binIntD (op:BinOp) (k:IntKind) (x y:EI):Option (EB×EV):=
 match op with
 | .add=>some (.lit true,.int k (Y4 .add k x y))
 | .sub=>some (.lit true,.int k (Y4 .sub k x y))
 | .mul=>some (.lit true,.int k (Y4 .mul k x y))
 | .quo=>some (Ah (D9 .eql y (.lit 0)),.int k (Y4 .quo k x y))
 | .rem=>some (Ah (D9 .eql y (.lit 0)),.int k (Y4 .rem k x y))
 | .and=>some (.lit true,.int k (Y4 .and k x y))
 | .or=>some (.lit true,.int k (Y4 .or k x y))
 | .xor=>some (.lit true,.int k (Y4 .xor k x y))
 | .andNot=>some (.lit true,.int k (Y4 .andNot k x y))
 | .eql=>some (.lit true,.bool (D9 .eql x y))
 | .neq=>some (.lit true,.bool (Ah (D9 .eql x y)))
 | .lss=>some (.lit true,.bool (D9 .lss x y))
 | .leq=>some (.lit true,.bool (D9 .leq x y))
 | .gtr=>some (.lit true,.bool (D9 .gtr x y))
 | .geq=>some (.lit true,.bool (D9 .geq x y))
 | _=>none
def Ma (op:BinOp) (k:IntKind) (x y:EI):Option (EB×EV):=
 match op with
 | .shl=>some (D9 .leq (.lit 0) y,.int k (Y4 .shl k x y))
 | .shr=>some (D9 .leq (.lit 0) y,.int k (Y4 .shr k x y))
 | _=>none
def Cy:ES→EN
 | .lit s=>.lit s.length
 | s=>.slen s
def Tc (op:BinOp) (x y:ES):Option (EB×EV):=
 match op with
 | .add=>some (O0 (K3 (Cy x) (Cy y)) (.lit 9223372036854775807),.str (cQ x y))
 | .eql=>some (.lit true,.bool (Qc x y))
 | .neq=>some (.lit true,.bool (Ah (Qc x y)))
 | _=>none
def Db (op:BinOp) (c:Bool) (b:EB):Option (EB×EV):=
 match op with
 | .eql=>some (.lit c,.bool b)
 | .neq=>some (.lit c,.bool (Ah b))
 | _=>none
def Ag (P:Program) (t:TypeId) (l:EL) (o:EN):Option (EB×EV):=
 match P.underlying t with
 | some (.int k)=>match rdI k l o with
  | some (c,e)=>some (c,.int k e)
  | none=>none
 | some .bool=>match rdB l o with
  | some (c,e)=>some (c,.bool e)
  | none=>none
 | some (.struct _)=>match D5 P t with
  | some z=>some (O0 (K3 o (.lit z)) (T9 l),.agg (Bk l o (.lit z)))
  | none=>none
 | some (.array _ _)=>match D5 P t with
  | some z=>some (O0 (K3 o (.lit z)) (T9 l),.agg (Bk l o (.lit z)))
  | none=>none
 | some _=>match Om o with
  | some n=>T6 l n
  | none=>none
 | none=>none
def Nm (P:Program) (rec:TypeId→EV→EV→Option (EB×EB)) (xs ys:EL):List Field→Option (EB×EB)
 | []=>some (.lit true,.lit true)
 | f::fs=>
  if f.name ≠ "_" then
   match Ag P f.type xs (.lit f.offset),Ag P f.type ys (.lit f.offset) with
   | some (c1,a),some (c2,b)=>
    match rec f.type a b,Nm P rec xs ys fs with
    | some (c3,r),some (c4,s)=>some (C1 c1 (C1 c2 (C1 c3 c4)),C1 r s)
    | _,_=>none
   | _,_=>none
  else Nm P rec xs ys fs
def Qx (P:Program) (rec:TypeId→EV→EV→Option (EB×EB)) (e:TypeId) (z:Nat) (xs ys:EL):List Nat→Option (EB×EB)
 | []=>some (.lit true,.lit true)
 | i::is=>
   match Ag P e xs (.lit (i*z)),Ag P e ys (.lit (i*z)) with
   | some (c1,a),some (c2,b)=>
    match rec e a b,Qx P rec e z xs ys is with
    | some (c3,r),some (c4,s)=>some (C1 c1 (C1 c2 (C1 c3 c4)),C1 r s)
    | _,_=>none
   | _,_=>none
def Ss (P:Program):Nat→TypeId→EV→EV→Option (EB×EB)
 | 0,_,_,_=>none
 | n+1,t,x,y=>
  match P.underlying t with
  | some (.int _)=>match x,y with
   | .int k a,.int k' b=>if k=k' then some (.lit true,D9 .eql a b) else none
   | _,_=>none
  | some .bool=>match x,y with
   | .bool a,.bool b=>some (.lit true,Vh a b)
   | _,_=>none
  | some .string=>match x,y with
   | .str a,.str b=>some (.lit true,Qc a b)
   | _,_=>none
  | some (.struct fs)=>match x,y with
   | .agg xs,.agg ys=>match P.stoodInHeld t with
    | true=>none
    | false=>Nm P (Ss P n) xs ys fs.toList
   | _,_=>none
  | some (.array m e)=>match x,y with
   | .agg xs,.agg ys=>match D5 P e with
    | some z=>Qx P (Ss P n) e z xs ys (List.range m)
    | none=>none
   | _,_=>none
  | _=>none
def eqA1 (P:Program) (t:TypeId) (as:List AV):Bool:=match as with
 | [x,y]=>match Ki P 10 t x y with
  | some (c,_)=>c
  | none=>false
 | _=>false
def eqA2 (P:Program) (t:TypeId) (as:List AV):Bool:=match as with
 | [x,y]=>match Ki P 10 t x y with
  | some (_,b)=>b
  | none=>false
 | _=>false
def cU:EL→Bool
 | .of _=>true
 | _=>false
def jT (P:Program) (t:TypeId) (xs ys:EL):Option (EB×EB):=
 match cU xs||cU ys||(match D5 P t with | some z=>Nat.ble z 8 | none=>false) with
 | true=>Ss P 10 t (.agg xs) (.agg ys)
 | false=>some (.uf (100000+t) (eqA1 P t) [.agg xs,.agg ys],.uf (200000+t) (eqA2 P t) [.agg xs,.agg ys])
def kG (P:Program) (op:BinOp) (t:TypeId) (x y:EV):Option (EB×EV):=
 match x,y with
 | .int k a,.int k' b=>
  match op with
  | .shl | .shr=>Ma op k a b
  | _=>if k=k' then binIntD op k a b else none
 | .str a,.str b=>Tc op a b
 | .bool a,.bool b=>Db op (Nd (P.underlying t)) (Vh a b)
 | .ptr _ _,.nilp=>Db op (Do (P.underlying t)) (.lit false)
 | .nilp,.ptr _ _=>Db op (Do (P.underlying t)) (.lit false)
 | .nilp,.nilp=>Db op (Do (P.underlying t)) (.lit true)
 | .slice false _ _ _,.nils=>Db op (Cl (P.underlying t)) (.lit false)
 | .nils,.nils=>Db op (Cl (P.underlying t)) (.lit true)
 | .func _ _,.nilf=>Db op (Eu (P.underlying t)) (.lit false)
 | .nilf,.nilf=>Db op (Eu (P.underlying t)) (.lit true)
 | .agg xs,.agg ys=>
  match P.eqGuardType P.depth t with
  | true=>none
  | false=>match jT P t xs ys with
   | some (c,b)=>match op with
    | .eql=>some (c,.bool b)
    | .neq=>some (c,.bool (Ah b))
    | _=>none
   | none=>none
 | _,_=>none
def unD (op:UnOp) (x:EV):Option (EB×EV):=
 match op,x with
 | .neg,.int k n=>some (.lit true,.int k (cO k n))
 | .xor,.int k n=>some (.lit true,.int k (cP k n))
 | .not,.bool b=>some (.lit true,.bool (Ah b))
 | _,_=>none
def dL (P:Program) (src dst:TypeId) (x:EV):Option (EB×EV):=
 match P.underlying src,P.underlying dst,x with
 | some _,some (.int k),.int _ n=>some (.lit true,.int k (Xd k n))
 | some _,some .string,.str s=>some (.lit true,.str s)
 | _,_,_=>none
def Yd (P:Program) (s:TypeId) (x:EV) (f:Nat):Option (EB×EV):=
 match P.underlying s,x with
 | some (.struct fs),.ptr r off=>
  match fs[f]? with
  | some fd=>
   match D5 P fd.type with
   | some 0=>none
   | some _=>some (.lit true,.ptr r (K3 off (.lit fd.offset)))
   | none=>none
  | none=>none
 | _,_=>none
def Xp (P:Program) (t:TypeId) (x i:EV):Option (EB×EV):=
 match i with
 | .int _ i=>
  match P.underlying t,x with
  | some (.array len e),.ptr r off=>
   match D5 P e with
   | some z=>some (C1 (D9 .leq (.lit 0) i) (D9 .lss i (.lit len)),.ptr r (K3 (M9 (T8 i) z) off))
   | none=>none
  | some (.slice e),.slice _ r off len=>
   match D5 P e with
   | some z=>some (C1 (D9 .leq (.lit 0) i) (D9 .lss i (Y3 len)),.ptr r (K3 (M9 (T8 i) z) off))
   | none=>none
  | _,_=>none
 | _=>none
def Dq (x:Option EV) (d:EI):Option EI:=
 match x with
 | none=>some d
 | some (.int _ i)=>some i
 | some _=>none
def Wd (P:Program) (t:TypeId) (x:EV) (lo hi:Option EV):Option (EB×EV):=
 match P.underlying t,x with
 | some (.slice e),.slice mb r off len=>
  match D5 P e,Dq lo (.lit 0),Dq hi (Y3 len) with
  | some z,some l,some h=>some (C1 (D9 .leq (.lit 0) l) (C1 (D9 .leq l h) (D9 .leq h (Y3 len))),.slice mb r (K3 (M9 (T8 l) z) off) (cN (T8 h) (T8 l)))
  | _,_,_=>none
 | some (.slice e),.nils=>
  match D5 P e,Dq lo (.lit 0),Dq hi (.lit 0) with
  | some _,some l,some h=>some (C1 (D9 .leq (.lit 0) l) (C1 (D9 .leq l h) (D9 .leq h (.lit 0))),.nils)
  | _,_,_=>none
 | some .string,.str s=>
  match Dq lo (.lit 0),Dq hi (Y3 (Cy s)) with
  | some l,some h=>some (C1 (D9 .leq (.lit 0) l) (C1 (D9 .leq l h) (D9 .leq h (Y3 (Cy s)))),.str (.sub s (T8 l) (T8 h)))
  | _,_=>none
 | _,_=>none
def R7:EV→EL
 | .agg cs=>cs
 | v=>.of [v]
def Qk:EV→Bool
 | .undef=>false
 | _=>true
def Nc:EV→Bool
 | .undef | .agg _ | .tup _=>false
 | _=>true
def Fx:EL→EB
 | .of cs=>.lit (cs.all Nc)
 | .sub l o n=>.cells (.sub l o n)
 | l=>.cells l
def Ei (v:EV):EB:=
 match v with
 | .agg l=>Fx l
 | v=>.lit (Nc v)
def Hu (v:EV) (z:Nat):EB:=
 match v with
 | .agg l=>Vg (T9 l) (.lit z)
 | _=>.lit (Nat.beq 1 z)
def Jt (place:Nat→Option (Nat×Nat)) (cells:EL):List (Nat×EV)→Option (EB×EL)
 | []=>some (.lit true,cells)
 | (i,v)::rest=>
  match place i with
  | none=>none
  | some (off,size)=>
   match Jt place (Ji cells (.lit off) v) rest with
   | none=>none
   | some (c,r)=>match Qk v with
    | true=>some (C1 (Hu v size) (C1 (O0 (.lit (off+size)) (T9 cells)) c),r)
    | false=>none
def Ec (P:Program) (t:TypeId):Option EV:=
 match P.info? t with
 | some i=>match i.zero with
  | some z=>some (dI z)
  | none=>none
 | none=>none
def Ys (P:Program) (t:TypeId) (parts:List (Nat×EV)):Option (EB×EV):=
 match P.underlying t,Ec P t with
 | some (.struct fs),some (.agg z)=>
  match Cg P fs.toList with
  | some ps=>
   match Jt (fun i=>ps[i]?) z parts with
   | some (c,cs)=>some (c,.agg cs)
   | none=>none
  | none=>none
 | some (.array _ e),some (.agg z)=>
  match D5 P e with
  | some n=>
   match Jt (fun i=>some (i*n,n)) z parts with
   | some (c,cs)=>some (c,.agg cs)
   | none=>none
  | none=>none
 | _,_=>none
def jH (P:Program) (t:TypeId) (x:EV):Option (EB×EV):=
 match P.underlying t,x with
 | some .string,.str s=>some (.lit true,.int .i64 (Y3 (Cy s)))
 | some (.array n _),_=>some (.lit true,.int .i64 (.lit n))
 | some (.slice _),.slice _ _ _ n=>some (.lit true,.int .i64 (Y3 n))
 | some (.slice _),.nils=>some (.lit true,.int .i64 (.lit 0))
 | _,_=>none
def kA (P:Program) (t:TypeId) (x:EV):Option (EB×EV):=
 match P.underlying t,x with
 | some (.slice _),.nils=>some (.lit true,.int .i64 (.lit 0))
 | _,_=>none
def jF (x y:EV):Option (EB×EV):=
 match x,y with
 | .int k a,.int k' b=>if k=k' then some (.lit true,.int k (.mx a b)) else none
 | _,_=>none
def jD (x y:EV):Option (EB×EV):=
 match x,y with
 | .int k a,.int k' b=>if k=k' then some (.lit true,.int k (.mn a b)) else none
 | _,_=>none
def cK (c a b:EV):Option (EB×EV):=
 match c with
 | .bool (.lit true)=>some (.lit true,a)
 | .bool (.lit false)=>some (.lit true,b)
 | _=>none
def Lc (x:EV):Option (EB×EV):=
 match x with
 | .ptr r o=>some (.lit true,.ptr r o)
 | .func f c=>some (.lit true,.func f c)
 | .slice m r o n=>some (.lit true,.slice m r o n)
 | _=>none
noncomputable def Ve (P:Program) (F:DFr) (op:Op):Option (EB×EV):=
 match op with
 | .move x=>some (.lit true,evD F x)
 | .assign x=>some (.lit true,evD F x)
 | .pick c a b=>cK (evD F c) (evD F a) (evD F b)
 | .nilCheck x=>Lc (evD F x)
 | .binOp op t x y _=>kG P op t (evD F x) (evD F y)
 | .unOp op _ x=>unD op (evD F x)
 | .convert s d x=>dL P s d (evD F x)
 | .fieldAddr s x f=>Yd P s (evD F x) f
 | .indexAddr t x i=>Xp P t (evD F x) (evD F i)
 | .slice t x lo hi none=>Wd P t (evD F x) (lo.map (evD F)) (hi.map (evD F))
 | .build t parts=>Ys P t (parts.toList.map fun p=>(p.1,evD F p.2))
 | .extract x i=>match evD F x with
  | .tup vs=>match vs[i]? with
   | some v=>some (.lit true,v)
   | none=>none
  | _=>none
 | .makeFunc (.func f) first cap=>if first.size=0 then some (.lit true,.func f (cap.toList.map (evD F))) else none
 | .call { callee:=.builtin .len,args,argTypes }=>
  match args.toList,argTypes.toList with
  | [x],[t]=>jH P t (evD F x)
  | _,_=>none
 | .call { callee:=.builtin .cap,args,argTypes }=>
  match args.toList,argTypes.toList with
  | [x],[t]=>kA P t (evD F x)
  | _,_=>none
 | .call { callee:=.builtin .max,args,.. }=>
  match args.toList with
  | [x,y]=>jF (evD F x) (evD F y)
  | _=>none
 | .call { callee:=.builtin .min,args,.. }=>
  match args.toList with
  | [x,y]=>jD (evD F x) (evD F y)
  | _=>none
 | _=>none
def Ql (b:Mj):Bool:=Nat.beq b.esz 4294967291
def V0 (z:Nat):Nat→DHp→Nat→Option (List EV)
 | _,_,0=>some []
 | j,some ⟨z',.row l (.lit i)⟩::H,n+1=>match Nat.beq z z'&&Nat.beq i j with
  | true=>match V0 z (j+1) H n with
   | some ls=>some (.agg l::ls)
   | none=>none
  | false=>none
 | _,_,_+1=>none
def Nl (H:DHp) (b c:Nat):Option (Nat×EL×List EV):=
 match H.drop b with
 | some ⟨z,.row l (.lit _)⟩::_=>match Nat.beq z 4294967291 with
  | true=>none
  | false=>match V0 z 0 (H.drop b) c with
   | some ls=>some (z,l,ls)
   | none=>none
 | _=>none
def Ni (b c z:Nat) (l:EL):List DHop:=(List.range c).map fun j=>.set (b+j) ⟨z,.row l (.lit j)⟩
def Cr (H:DHp):ER→Option (EB×EL)
 | .rw i=>match H[i]? with
  | some (some b)=>match Ql b with
   | true=>none
   | false=>some (.lit true,b.cells)
  | _=>none
 | .ro n=>some (.lit true,.ro n)
 | .fm b c k=>match Nl H b c with
  | some (_,l,ls)=>some (C1 (O0 (K3 k (.lit 1)) (.lit c)) (.rows l ls),.row l k)
  | none=>none
def cR (l:Lf) (cs:EL) (off:EN):EV:=
 match l with
 | .int k=>.int k (.get cs off)
 | .bool=>.bool (.get cs off)
 | .str=>.str (.get cs off)
 | .sl=>.slice true (.ro (.rk cs off)) (.ro cs off) (.rn cs off)
def Id (cs:EL):EN→List Lf→List EV
 | _,[]=>[]
 | off,l::ls=>cR l cs off::Id cs (K3 off (.lit 1)) ls
def Wt (P:Program) (t:TypeId) (cs:EL) (off:EN):Option (EB×EV):=
 match P.underlying t with
 | some (.int k)=>some (.isI k cs off,.int k (.get cs off))
 | some .bool=>some (.isB cs off,.bool (.get cs off))
 | some .string=>some (.isT cs off,.str (.get cs off))
 | some (.slice _)=>some (.isR cs off,.slice true (.ro (.rk cs off)) (.ro cs off) (.rn cs off))
 | some (.struct _)=>match D5 P t,Nb P 10 t with
  | some z,some ls=>match Nat.beq ls.length z with
   | true=>some (.leaf cs off ls,.agg (.of (Id cs off ls)))
   | false=>none
  | _,_=>none
 | some (.array _ _)=>match D5 P t,Nb P 10 t with
  | some z,some ls=>match Nat.beq ls.length z with
   | true=>some (.leaf cs off ls,.agg (.of (Id cs off ls)))
   | false=>none
  | _,_=>none
 | _=>none
def fH (P:Program) (r:ER) (t:TypeId) (cs:EL) (off:EN):Option (EB×EV):=
 match r with
 | .rw _=>Ag P t cs off
 | .ro _=>Wt P t cs off
 | .fm _ _ _=>Ag P t cs off
def Vi (P:Program) (H:DHp) (t:TypeId) (r:ER) (off:EN):Option (EB×EV):=
 match Cr H r with
 | some (c0,cs)=>match fH P r t cs off with
  | some (c,v)=>some (C1 c0 c,v)
  | none=>none
 | none=>none
def Sh (cs:List AV) (o:Nat):Bool:=match cs[o]? with | some (.slice true (.ro _) _ _)=>true | _=>false
def lE:List AV→Bool:=fun vs=>match vs with
 | [.agg cs,.int _ o]=>Sh cs o.toNat
 | _=>false
inductive FL where
 | int (k:IntKind)
 | bool
 | sl (b c:Nat)
def lI (rec:TypeId→Option (List FL)):Nat→List Field→Option (List FL)
 | _,[]=>some []
 | acc,f::fs=>
  match Nat.beq f.offset acc with
  | true=>match rec f.type with
   | some a=>match lI rec (acc+a.length) fs with
    | some b=>some (a++b)
    | none=>none
   | none=>none
  | false=>none
def lH (P:Program) (fam:TypeId→Option (Nat×Nat)):Nat→TypeId→Option (List FL)
 | 0,_=>none
 | n+1,t=>
  match P.underlying t with
  | some (.int k)=>some [.int k]
  | some .bool=>some [.bool]
  | some (.slice _)=>match fam t with
   | some (b,c)=>some [.sl b c]
   | none=>none
  | some (.struct fs)=>lI (lH P fam n) 0 fs.toList
  | _=>none
def Nk (l:EL) (o:EN):FL→EV
 | .int k=>.int k (.get l o)
 | .bool=>.bool (.get l o)
 | .sl b c=>match c with
  | 0=>.slice true (.ro (.rk l o)) (.ro l o) (.rn l o)
  | _=>.slice true (.fm b c (.fk b l o)) (.fo l o) (.fn l o)
def Nj (l:EL) (o:EN):FL→EB
 | .int k=>.isI k l o
 | .bool=>.isB l o
 | .sl b c=>match c with
  | 0=>.uf 1099 lE [.agg l,.int .i64 (.ofN o)]
  | _=>.isF b c l o
def Qu (l:EL):EN→List FL→List EV
 | _,[]=>[]
 | o,f::fs=>Nk l o f::Qu l (K3 o (.lit 1)) fs
def Vk (l:EL):EN→List FL→EB
 | _,[]=>.lit true
 | o,f::fs=>C1 (Nj l o f) (Vk l (K3 o (.lit 1)) fs)
inductive FamR where
 | val (c:EB) (v:EV)
 | ptr (n c:EB) (v:EV)
def Ye (fam:TypeId→Option (Nat×Nat)) (P:Program) (t:TypeId) (cs:EL) (off:EN):Option FamR:=
 match fam t with
 | none=>none
 | some (b,c)=>match P.underlying t with
  | some (.struct _)=>match cU cs with
   | true=>none
   | false=>match D5 P t,lH P fam 10 t with
    | some z,some ls=>match Nat.beq ls.length z&&Nat.ble 1 z with
     | true=>some (.val (Vk cs off ls) (.agg (.of (Qu cs off ls))))
     | false=>none
    | _,_=>none
  | some (.slice _)=>match Ag P t cs off with
   | some _=>none
   | none=>some (.val (Nj cs off (.sl b c)) (Nk cs off (.sl b c)))
  | some (.pointer _)=>match Ag P t cs off with
   | some _=>none
   | none=>some (.ptr (.isNil cs off) (.isP b c cs off) (.ptr (.fm b c (.fk b cs off)) (.fo cs off)))
  | _=>none
noncomputable def Yg (fam:TypeId→Option (Nat×Nat)) (P:Program) (F:DFr) (H:DHp) (op:Op):Option (EB×FamR):=
 match op with
 | .load t a=>match evD F a with
  | .ptr r off=>match r with
   | .ro _=>none
   | r=>match Cr H r with
    | some (c0,cs)=>match Ye fam P t cs off with
     | some x=>some (c0,x)
     | none=>none
    | none=>none
  | _=>none
 | .field t x f=>
  match P.underlying t,evD F x with
  | some (.struct fs),.agg cs=>match fs[f]? with
   | some fd=>match Ye fam P fd.type cs (.lit fd.offset) with
    | some x=>some (.lit true,x)
    | none=>none
   | none=>none
  | _,_=>none
 | .index t x i=>
  match P.underlying t,evD F x,evD F i with
  | some (.array len e),.agg cs,.int _ i=>match D5 P e with
   | some z=>match Ye fam P e cs (M9 (T8 i) z) with
    | some x=>some (C1 (D9 .leq (.lit 0) i) (D9 .lss i (.lit len)),x)
    | none=>none
   | none=>none
  | _,_,_=>none
 | _=>none
def So (fs:Facts) (o:EB×FamR) (k:Facts→EV→T):T:=
 match o with
 | (c0,.val c v)=>Z6 c0 (Z6 c (k fs v))
 | (c0,.ptr n c v)=>Z6 c0 (T4 fs n (fun fs=>k fs .nilp) (fun fs=>Z6 c (k fs v)))
def eP (cs:EL) (off n:EN):EB×EV:=
 (C1 (O0 (K3 off n) (T9 cs)) (.u8s (Bk cs off n)),.str (.ofL (Bk cs off n)))
noncomputable def Vd (P:Program) (F:DFr) (H:DHp) (op:Op):Option (EB×EV):=
 match op with
 | .load t a=>match evD F a with
  | .ptr r off=>Vi P H t r off
  | _=>none
 | .field t x f=>
  match P.underlying t,evD F x with
  | some (.struct fs),.agg cs=>match fs[f]? with
   | some fd=>Ag P fd.type cs (.lit fd.offset)
   | none=>none
  | _,_=>none
 | .index t x i=>
  match P.underlying t,evD F x,evD F i with
  | some (.array len e),.agg cs,.int _ i=>match D5 P e with
   | some z=>match Ag P e cs (M9 (T8 i) z) with
    | some (c,v)=>some (C1 (D9 .leq (.lit 0) i) (C1 (D9 .lss i (.lit len)) c),v)
    | none=>none
   | none=>none
  | _,_,_=>none
 | .convert s d x=>
  match O8 P s&&Q9 P d,evD F x with
  | true,.nils=>some (.lit true,.str (.lit []))
  | true,.slice _ r off n=>match Cr H r with
   | some (c0,cs)=>match eP cs off n with
    | (c,v)=>some (C1 c0 c,v)
   | none=>none
  | _,_=>none
 | _=>none
noncomputable def Mn (F:DFr) (op:Op):Option ER:=
 match op with
 | .load _ a=>match evD F a with
  | .ptr r _=>some r
  | _=>none
 | .convert _ _ x=>match evD F x with
  | .slice _ r _ _=>some r
  | _=>none
 | _=>none
def N0 (H:DHp):ER:=.rw H.length
def iE (H:DHp) (z:Nat) (x:EV):Option (EB×EN×EL):=
 match x with
 | .nils=>some (.lit true,.lit 0,.of [])
 | .slice _ r off m=>match Cr H r with
  | some (c0,cs)=>some (C1 c0 (C1 (O0 (K3 off (M9 m z)) (T9 cs)) (Fx (Bk cs off (M9 m z)))),m,Bk cs off (M9 m z))
  | none=>none
 | .str s=>match Nat.beq z 1 with
  | true=>some (.lit true,Cy s,Mz s)
  | false=>none
 | _=>none
def Jl (z:Option EV) (n:Nat):Bool:=match z with
 | some v=>match R7 v with
  | .of cs=>Nat.beq cs.length n
  | _=>false
 | none=>false
def Nt (P:Program) (H:DHp) (t:TypeId) (s x:EV):Option (EB×EV×DHop):=
 match P.underlying t with
 | some (.slice e)=>
  match P.info? e,Ec P e with
  | some i,some zv=>
   match Z4 i.size&&(Nat.ble 1 i.bytes&&Jl (some zv) i.size) with
   | false=>none
   | true=>
   match iE H i.size x with
   | some (c,m,xs)=>
    match s with
    | .nils=>some (C1 c (O0 (M9 m i.bytes) (.lit 140737488355328)),.slice true (N0 H) (.lit 0) m,.new ⟨i.size,xs⟩)
    | .slice mb (.rw j) (.lit 0) (.lit 0)=>
     match H[j]? with
     | some (some b)=>match Nat.beq b.esz i.size with
      | true=>some (C1 c (O0 (M9 m i.bytes) (.lit 140737488355328)),.slice mb (N0 H) (.lit 0) m,.app j ⟨i.size,xs⟩)
      | false=>none
     | _=>none
    | .slice mb (.rw j) (.lit 0) (.mul n 1)=>
     match H[j]? with
     | some (some b)=>match Nat.beq b.esz i.size with
      | true=>some (C1 c (C1 (O0 (M9 (K3 n m) i.bytes) (.lit 140737488355328)) (O0 (M9 n i.size) (T9 b.cells))),.slice mb (N0 H) (.lit 0) (K3 n m),.app j ⟨i.size,Qd (Bk b.cells (.lit 0) (M9 n i.size)) xs⟩)
      | false=>none
     | _=>none
    | .slice mb (.rw j) (.lit 0) n=>
     match H[j]? with
     | some (some b)=>match Nat.beq b.esz i.size with
      | true=>some (C1 c (C1 (O0 (M9 (K3 n m) i.bytes) (.lit 140737488355328)) (Vg (T9 b.cells) (M9 n i.size))),.slice mb (N0 H) (.lit 0) (K3 n m),.app j ⟨i.size,Qd b.cells xs⟩)
      | false=>none
     | _=>none
    | _=>none
   | none=>none
  | _,_=>none
 | _=>none
def My (l:EL) (o:EN) (v:EV) (z:Nat):EL:=
 match v with
 | .agg d=>match cU d,l,o with
  | false,.of cs,.lit 0=>match Nat.beq cs.length z with
   | true=>d
   | false=>Ji l o v
  | _,_,_=>Ji l o v
 | v=>Ji l o v
def dP (z:Nat) (as:List AV):Int:=match as with
 | [.int _ n]=>n*z
 | _=>0
def Fw (P:Program) (H:DHp) (t:TypeId) (s x:EV):Option (EB×EV×DHop):=
 match P.underlying t,s,x with
 | some (.slice e),.nils,.int .i64 n=>
  match P.info? e,Ec P e with
  | some i,some zv=>match Z4 i.size&&(Nat.ble 1 i.bytes&&(Jl (some zv) i.size&&Nat.ble 1 i.size)) with
   | true=>some (C1 (D9 .leq (.lit 0) n) (D9 .leq (mkBigD n i.bytes) (.lit 140737488355328)),.slice true (N0 H) (.lit 0) (T8 n),.new ⟨i.size,Qb (T8 n) (R7 zv)⟩)
   | false=>none
  | _,_=>none
 | _,_,_=>none
where
 mkBigD (c:EI) (z:Nat):EI:=match c with
  | .lit n=>.lit (n*z)
  | c=>.uf (300000+z) (dP z) [.int .i64 c]
def Yk (P:Program) (H:DHp) (t:TypeId) (x:EV):Option (EB×EV×DHop):=
 match P.underlying t,x with
 | some (.slice e),.slice _ (.rw j) off n=>
  match D5 P e,Ec P e,H[j]? with
  | some z,some zv,some (some b)=>match Ql b||!(Jl (some zv) z&&Nat.ble 1 z) with
   | true=>none
   | false=>some (C1 (O0 (.lit 1) n) (C1 (Fx (R7 zv)) (O0 (K3 off (M9 n z)) (T9 b.cells))),.tup [],.set j ⟨b.esz,Ji b.cells off (.agg (Qb n (R7 zv)))⟩)
  | _,_,_=>none
 | _,_=>none
noncomputable def Hn (P:Program) (F:DFr) (H:DHp) (op:Op):Option (EB×EV×DHop):=
 match op with
 | .store t a x=>
  match evD F a,D5 P t with
  | .ptr (.rw i) off,some z=>match H[i]? with
   | some (some b)=>match Ql b with
    | true=>none
    | false=>some (C1 (Ei (evD F x)) (C1 (Hu (evD F x) z) (O0 (K3 off (.lit z)) (T9 b.cells))),.tup [],.set i ⟨b.esz,My b.cells off (evD F x) z⟩)
   | _=>none
  | _,_=>none
 | .alloc e=>match Ec P e with
  | some z=>some (.lit true,.ptr (N0 H) (.lit 0),.new ⟨1,R7 z⟩)
  | none=>none
 | .box _ x=>match Qk (evD F x) with
  | true=>some (.lit true,.ptr (N0 H) (.lit 0),.new ⟨1,R7 (evD F x)⟩)
  | false=>none
 | .buildSlice t n parts=>
  match P.underlying t with
  | some (.slice e)=>match D5 P e,Ec P e with
   | some z,some zv=>
    match R7 zv with
    | .of cs=>
     match Z4 z&&(Nat.ble (n*z) 16777216&&Nat.beq cs.length z) with
     | true=>match Jt (fun i=>some (i*z,z)) (.of ((List.replicate n cs).flatten)) (parts.toList.map fun p=>(p.1,evD F p.2)) with
      | some (c,cs)=>some (c,.slice false (N0 H) (.lit 0) (.lit n),.new ⟨z,cs⟩)
      | none=>none
     | false=>none
    | _=>none
   | _,_=>none
  | _=>none
 | .makeSlice t l c=>
  match P.underlying t,evD F l,evD F c with
  | some (.slice e),.int _ l,.int _ c=>match P.info? e,Ec P e with
   | some i,some zv=>match Z4 i.size&&(Jl (some zv) i.size&&Nat.ble 1 i.size) with
    | true=>some (C1 (D9 .leq (.lit 0) l) (C1 (D9 .leq l c) (C1 (D9 .leq (mkBig c i.bytes) (.lit 140737488355328)) (D9 .leq c (.lit 140737488355328)))),.slice false (N0 H) (.lit 0) (T8 l),.new ⟨i.size,Qb (T8 l) (R7 zv)⟩)
    | false=>none
   | _,_=>none
  | _,_,_=>none
 | .convert s d x=>
  match Q9 P s&&O8 P d,evD F x with
  | true,.str s=>some (O0 (Cy s) (.lit 140737488355328),.slice false (N0 H) (.lit 0) (Cy s),.new ⟨1,Mz s⟩)
  | false,.slice mb (.rw i) off n=>match O8 P s&&Nat.beq s d with
   | true=>match H[i]? with
    | some (some b)=>match Ql b with
     | true=>none
     | false=>some (O0 (.lit 1) n,.slice mb (.rw i) off n,.set i b)
    | _=>none
   | false=>none
  | _,_=>none
 | .call { callee:=.builtin .append,args,argTypes }=>
  match args.toList,argTypes.toList with
  | [s,x],[t,u]=>match P.underlying u with
   | some (.slice _)=>Nt P H t (evD F s) (evD F x)
   | some .string=>Nt P H t (evD F s) (evD F x)
   | some (.int _)=>Fw P H t (evD F s) (evD F x)
   | _=>none
  | _,_=>none
 | .call { callee:=.builtin .clear,args,argTypes }=>
  match args.toList,argTypes.toList with
  | [x],[t]=>Yk P H t (evD F x)
  | _,_=>none
 | _=>none
where
 mkBig (c:EI) (z:Nat):EI:=match c with
  | .lit n=>.lit (n*z)
  | c=>.uf (300000+z) (dP z) [.int .i64 c]
noncomputable def Rn (P:Program) (F:DFr) (H:DHp) (op:Op):Option (EB×List DHop):=
 match op with
 | .store t a x=>
  match evD F a,D5 P t with
  | .ptr (.fm b c k) off,some z=>match Nl H b c with
   | some (z0,l,ls)=>some (C1 (O0 (K3 k (.lit 1)) (.lit c)) (C1 (.rows l ls) (C1 (O0 (K3 k (.lit 1)) (.len l)) (C1 (Ei (evD F x)) (C1 (Hu (evD F x) z) (O0 (K3 off (.lit z)) (T9 (.row l k))))))),Ni b c z0 (.put l k (My (.row l k) off (evD F x) z)))
   | none=>none
  | _,_=>none
 | _=>none
noncomputable def Ns (F:DFr) (op:Op):Option (FuncId×List EV):=
 match op with
 | .call { callee:=.value f,args,.. }=>match evD F f with
  | .func g cap=>some (g,args.toList.map (evD F)++cap)
  | _=>none
 | _=>none
noncomputable def Rm (F:DFr) (op:Op):Option (Nat×List EV):=
 match op with
 | .call { callee:=.value f,args,.. }=>match evD F f with
  | .yld i=>some (i,args.toList.map (evD F))
  | _=>none
 | _=>none
noncomputable def Rv (P:Program) (F:DFr) (H:DHp):ResultVar→Option (EB×EV)
 | .tmp t=>some (.lit true,Jq F t)
 | .cell a t=>match Jq F a with
  | .ptr r off=>Vi P H t r off
  | _=>none
noncomputable def Hy (P:Program) (F:DFr) (H:DHp):List ResultVar→Option (EB×List EV)
 | []=>some (.lit true,[])
 | x::xs=>match Rv P F H x with
  | some (c,v)=>match Hy P F H xs with
   | some (d,r)=>some (C1 c d,v::r)
   | none=>none
  | none=>none
noncomputable def iO (P:Program) (fn:Func) (F:DFr) (H:DHp):Option (EB×EV):=
 match Hy P F H fn.results.toList with
 | some (c,[v])=>some (c,v)
 | some (c,vs)=>some (c,.tup vs)
 | none=>none
inductive DTrK where
 | still
 | read (r:ER)
 | write
structure Rl where
 kd:DTrK
 len:Nat
 hs:List DHop
def Hr (i:Nat) (len:Nat):List DHop→Bool
 | []=>false
 | .set j _::hs=>j==i||Hr i len hs
 | .new _::hs=>len==i||Hr i (len+1) hs
 | .app j _::hs=>j==i||(len==i||Hr i (len+1) hs)
def Hq (r:ER) (len:Nat) (hs:List DHop):Bool:=
 match r with
 | .rw i=>Hr i len hs
 | .ro _=>false
 | .fm _ _ _=>true
def Td (x y:Rl):Bool:=
 match x.kd,y.kd with
 | .write,.write=>false
 | .write,.read r=>!Hq r x.len x.hs
 | .read r,.write=>!Hq r y.len y.hs
 | _,_=>true
def Sv (all:List Oper) (trs:List Rl):Bool:=
 let ms:=Ai all []
 Il 0 all&&(List.range all.length).all fun j=>(List.range j).all fun i=>
  (ms.getD j 0).testBit i ||
  (match all[i]?,all[j]?,trs[i]?,trs[j]? with
   | some x,some y,some a,some b=>Iq all x y&&Td a b
   | _,_,_,_=>false)
def U5:Bool→Nat→DHp→Option (List DHop)
 | false,_,[]=>some []
 | true,_,[]=>none
 | false,i,some b::H'=>match U5 false (i+1) H' with
  | some hs=>some (.new b::hs)
  | none=>none
 | true,i,some b::H'=>match U5 false (i+1) H' with
  | some hs=>some (.app (i - 1) b::hs)
  | none=>none
 | false,i,none::H'=>match U5 true (i+1) H' with
  | some hs=>some (.new ⟨0,.of []⟩::hs)
  | none=>none
 | true,i,none::H'=>match U5 true (i+1) H' with
  | some hs=>some (.app (i - 1) ⟨0,.of []⟩::hs)
  | none=>none
def De:Nat→DHp→DHp→Option (List DHop)
 | i,[],H'=>U5 false i H'
 | i,_::H,some b::H'=>match De (i+1) H H' with
  | some hs=>some (.set i b::hs)
  | none=>none
 | i,none::H,none::H'=>De (i+1) H H'
 | _,_,_=>none
inductive DWk where
 | code (c:Code)
 | ops (all l:List Oper)
 | dr (all l:List Oper) (trs:List Rl)
structure DCfg where
 P:Program
 inl:FuncId→Bool
 sum:FuncId→List EV→DHp→Option Outs
 loop:Code→DFr→DHp→Option LOut
 M:Nat
 rng:Code→DFr→DHp→Option LOut:=fun _ _ _=>none
 ysum:Nat→List EV→DHp→Option Outs:=fun _ _ _=>none
 /-- which types' slices and pointers lie in which family (where it begins,how many rows it Ue);which structs are to be read field by field -/
 fam:TypeId→Option (Nat×Nat):=fun _=>none
abbrev DK:=Ex→DFr→DHp→Facts→T
abbrev DRec:=Nat→DWk→DFr→DHp→Facts→DK→T
def V2 (K:DCfg) (rec:Code→Bool) (o:Oper):Bool:=
 match kdOf K.P o.op with
 | .pure=>true
 | .read=>true
 | .write=>false
 | .call=>match o.op with
  | .call { callee:=.value (.func g),.. }=>K.inl g&&(match K.P.funcs[g]? with
   | some fn=>match fn.body with
    | some c=>rec c
    | none=>true
   | none=>true)
  | _=>false
def L6 (K:DCfg) (rec:Code→Bool):Code→Bool
 | .skip=>true
 | .region _ ops _=>ops.toList.all (V2 K rec)
 | .seq a b=>L6 K rec a&&L6 K rec b
 | .cond _ a b=>L6 K rec a&&L6 K rec b
 | .block _ c=>L6 K rec c
 | .loop _=>false
 | .exit _=>true
 | .scope c=>L6 K rec c
 | .label _=>true
 | .ret=>true
 | _=>false
def K6 (K:DCfg):Nat→Code→Bool
 | 0,_=>false
 | d+1,c=>L6 K (K6 K d) c
def Ab (fn:Func) (args:List EV):DFr:=args++List.replicate (fn.ntmps - args.length) (.tup [])
noncomputable def H7 (F:DFr) (d:Option Tmp) (v:EV):DFr:=
 match d with
 | some d=>bZ F d v
 | none=>F
noncomputable def He (P:Program) (fn:Func) (Q:EV→DHp→Facts→T) (e:Ex) (F:DFr) (H:DHp) (fs:Facts):T:=
 match e with
 | .exit _=>.fail
 | _=>Px (iO P fn F H) fun v=>Q v H fs
def X1 (fs:Facts) (o:Outs) (k:Facts→EV→List DHop→T):T:=
 match o with
 | .one v hs=>k fs v hs
 | .chk b x=>Z6 b (X1 fs x k)
 | .tst b x y=>T4 fs b (fun fs=>X1 fs x k) (fun fs=>X1 fs y k)
 | .namI e f=>.namI fs.n e fun x=>X1 (fresh fs) (f (.var fs.n x)) k
 | .namN e f=>.namN fs.n e fun x=>X1 (fresh fs) (f (.var fs.n x)) k
 | .namB e f=>.namB fs.n e fun x=>X1 (fresh fs) (f (.var fs.n x)) k
 | .namL e f=>.namL fs.n e fun x=>X1 (fresh fs) (f (.var fs.n x)) k
def Q8 (fs:Facts) (o:LOut) (k:Facts→Ex→DFr→DHp→T):T:=
 match o with
 | .one e F H=>k fs e F H
 | .chk b x=>Z6 b (Q8 fs x k)
 | .tst b x y=>T4 fs b (fun fs=>Q8 fs x k) (fun fs=>Q8 fs y k)
 | .imp b x=>.imp b (Q8 (Da fs b true) x k)
 | .allI f=>.allI fs.n fun x=>Q8 (fresh fs) (f (.var fs.n x)) k
 | .allN f=>.allN fs.n fun x=>Q8 (fresh fs) (f (.var fs.n x)) k
 | .allB f=>.allB fs.n fun x=>Q8 (fresh fs) (f (.var fs.n x)) k
 | .allL f=>.allL fs.n fun x=>Q8 (fresh fs) (f (.var fs.n x)) k
 | .namI e f=>.namI fs.n e fun x=>Q8 (fresh fs) (f (.var fs.n x)) k
 | .namN e f=>.namN fs.n e fun x=>Q8 (fresh fs) (f (.var fs.n x)) k
 | .namB e f=>.namB fs.n e fun x=>Q8 (fresh fs) (f (.var fs.n x)) k
 | .namL e f=>.namL fs.n e fun x=>Q8 (fresh fs) (f (.var fs.n x)) k
def E1 (ro:Bool) (H:DHp):T→Option Outs
 | .ret v H'=>match ro with
  | true=>some (.one v [])
  | false=>match De 0 H H' with
   | some hs=>some (.one v hs)
   | none=>none
 | .chk b t=>match E1 ro H t with
  | some o=>some (.chk b o)
  | none=>none
 | .tst b x y=>match E1 ro H x,E1 ro H y with
  | some o,some p=>some (.tst b o p)
  | _,_=>none
 | _=>none
noncomputable def Rs (K:DCfg) (rec:DRec) (m:Nat) (all l:List Oper) (dst:Option Tmp) (op:Op) (F:DFr) (H:DHp) (fs:Facts) (Q:DK):T:=
 match kdOf K.P op with
 | .pure=>Px (Ve K.P F op) fun v=>rec m (.ops all l) (H7 F dst v) H fs Q
 | .read=>match Yg K.fam K.P F H op with
  | some o=>So fs o fun fs v=>rec m (.ops all l) (H7 F dst v) H fs Q
  | none=>Px (Vd K.P F H op) fun v=>rec m (.ops all l) (H7 F dst v) H fs Q
 | .write=>match Hn K.P F H op with
  | some (c,v,h)=>Z6 c (rec m (.ops all l) (H7 F dst v) (h.act H) fs Q)
  | none=>match Rn K.P F H op with
   | some (c,hs)=>Z6 c (rec m (.ops all l) (H7 F dst (.tup [])) (Dg H hs) fs Q)
   | none=>.fail
 | .call=>match Ns F op with
  | some (f,args)=>match K.inl f with
   | true=>match K.P.funcs[f]? with
    | some fn=>match fn.body with
     | some c => match fn.name == "runtime.NumGoroutine" with
      | true=>.fail
      | false=>rec H.length (.code c) (Ab fn args) H fs (He K.P fn fun v H' fs=>rec m (.ops all l) (H7 F dst v) H' fs Q)
     | none=>.fail
    | none=>.fail
   | false=>match K.sum f args H with
    | some o=>X1 fs o fun fs v hs=>rec m (.ops all l) (H7 F dst v) (Dg H hs) fs Q
    | none=>.fail
  | none=>match Rm F op with
   | some (i,args)=>match K.ysum i args H with
    | some o=>X1 fs o fun fs v hs=>rec m (.ops all l) (H7 F dst v) (Dg H hs) fs Q
    | none=>.fail
   | none=>.fail
noncomputable def Ii (fs:Facts) (all:List Oper) (guard:Option (Nat×Bool)) (F:DFr) (go skip:DFr→Facts→T):T:=
 match guard with
 | none=>go F fs
 | some (j,want)=>
  match (all[j]?).bind (·.dst) with
  | some t=>
   match Jq F t with
   | .bool b=>T4 fs b
     (fun fs=>match want with | true=>go (H7 F (some t) (.bool (.lit true))) fs | false=>skip (H7 F (some t) (.bool (.lit true))) fs)
     (fun fs=>match want with | true=>skip (H7 F (some t) (.bool (.lit false))) fs | false=>go (H7 F (some t) (.bool (.lit false))) fs)
   | .tup []=>skip F fs
   | _=>.fail
  | none=>.fail
noncomputable def Fg (K:DCfg) (rec:DRec) (m:Nat) (all l:List Oper) (F:DFr) (H:DHp) (fs:Facts) (Q:DK):T:=
 match l with
 | []=>Q .normal F H fs
 | ⟨dst,op,_,_,_,guard⟩::l=>
  Ii fs all guard F (fun F fs=>Rs K rec m all l dst op F H fs Q) (fun F fs=>rec m (.ops all l) (H7 F dst (.tup [])) H fs Q)
noncomputable def Km (K:DCfg) (rec:DRec) (m:Nat) (all l:List Oper) (trs:List Rl) (dst:Option Tmp) (op:Op) (F:DFr) (H:DHp) (fs:Facts) (Q:DK):T:=
  match kdOf K.P op with
  | .pure=>Px (Ve K.P F op) fun v=>rec m (.dr all l (trs++[⟨.still,H.length,[]⟩])) (H7 F dst v) H fs Q
  | .read=>match Yg K.fam K.P F H op with
    | some o=>So fs o fun fs v=>rec m (.dr all l (trs++[⟨(match Mn F op with | some r=>.read r | none=>.still),H.length,[]⟩])) (H7 F dst v) H fs Q
    | none => Px  (Vd    K.P F H op) fun v => rec m (.dr all l (trs ++ [⟨(match Mn    F op with | some r => .read r | none => .still), H.length, []⟩])) (H7   F dst v) H fs Q
  | .write => match Hn     K.P F H op with
    | some (c,v,h)=>Z6 c (rec m (.dr all l (trs++[⟨.write,H.length,[h]⟩])) (H7 F dst v) (h.act H) fs Q)
    | none => .fail
  | .call=>match Ns F op with
    | some (f,args)=>match K.inl f with
      | true=>match K.P.funcs[f]? with
        | some fn=>match fn.body with
          | some c => match fn.name == "runtime.NumGoroutine" with
            | true=>.fail
            | false=>match E1 (K6 K 20 c) H (rec H.length (.code c) (Ab fn args) H fs (He K.P fn fun v H' _=>.ret v H')) with
              | some o=>X1 fs o fun fs v hs=>rec m (.dr all l (trs++[⟨.write,H.length,hs⟩])) (H7 F dst v) (Dg H hs) fs Q
              | none=>.fail
          | none=>.fail
        | none=>.fail
      | false=>match K.sum f args H with
        | some o=>X1 fs o fun fs v hs=>rec m (.dr all l (trs++[⟨.write,H.length,hs⟩])) (H7 F dst v) (Dg H hs) fs Q
        | none=>.fail
    | none=>match Rm F op with
      | some (i,args)=>match K.ysum i args H with
        | some o=>X1 fs o fun fs v hs=>rec m (.dr all l (trs++[⟨.write,H.length,hs⟩])) (H7 F dst v) (Dg H hs) fs Q
        | none=>.fail
      | none=>.fail
noncomputable def Cc (K:DCfg) (rec:DRec) (m:Nat) (all l:List Oper) (trs:List Rl) (F:DFr) (H:DHp) (fs:Facts) (Q:DK):T:=
 match l with
 | []=>match Sv all trs with
  | true=>Q .normal F H fs
  | false=>.fail
 | ⟨dst,op,_,_,_,guard⟩::l=>
  Ii fs all guard F (fun F fs=>Km K rec m all l trs dst op F H fs Q) (fun F fs=>rec m (.dr all l (trs++[⟨.still,H.length,[]⟩])) (H7 F dst (.tup [])) H fs Q)
noncomputable def Kn (_K:DCfg) (rec:DRec) (m:Nat) (c:Operand) (x y:Code) (F:DFr) (H:DHp) (fs:Facts) (Q:DK):T:=
 match c with
 | .tmp t=>match Jq F t with
  | .bool b=>T4 fs b (fun fs=>rec m (.code x) (H7 F (some t) (.bool (.lit true))) H fs Q) (fun fs=>rec m (.code y) (H7 F (some t) (.bool (.lit false))) H fs Q)
  | _=>.fail
 | .const (.bool b)=>match b with
  | true=>rec m (.code x) F H fs Q
  | false=>rec m (.code y) F H fs Q
 | _=>.fail
def bV (rec:DRec) (m:Nat) (b:Code) (Q:DK):DK:=fun e F H fs=>match e with
 | .normal=>rec m (.code b) F H fs Q
 | e=>Q e F H fs
def Rg (id:Nat) (Q:DK):DK:=fun e F H fs=>match e with
 | .exit i=>match i==id with
  | true=>Q .normal F H fs
  | false=>Q (.exit i) F H fs
 | e=>Q e F H fs
noncomputable def W4 (K:DCfg) (rec:DRec) (m:Nat) (c:Code) (F:DFr) (H:DHp) (fs:Facts) (Q:DK):T:=
 match c with
 | .skip=>Q .normal F H fs
 | .region _ ops draw=>match draw with
  | true=>rec m (.dr ops.toList ops.toList []) F H fs Q
  | false=>rec m (.ops ops.toList ops.toList) F H fs Q
 | .seq a b=>rec m (.code a) F H fs (bV rec m b Q)
 | .cond c x y=>Kn K rec m c x y F H fs Q
 | .block id c=>rec m (.code c) F H fs (Rg id Q)
 | .loop c=>match Nat.ble m K.M with
  | true=>match K.loop c F H with
   | some o=>Q8 fs o fun fs e F H=>Q e F H fs
   | none=>.fail
  | false=>.fail
 | .rangeFunc g ps as bd=>match Nat.ble m K.M with
  | true=>match K.rng (.rangeFunc g ps as bd) F H with
   | some o=>Q8 fs o fun fs e F H=>Q e F H fs
   | none=>.fail
  | false=>.fail
 | .exit id=>Q (.exit id) F H fs
 | .scope c=>rec m (.code c) F H fs Q
 | .label _=>Q .normal F H fs
 | .ret=>Q .ret F H fs
 | _=>.fail
noncomputable def lX (K:DCfg) (rec:DRec) (m:Nat) (w:DWk) (F:DFr) (H:DHp) (fs:Facts) (Q:DK):T:=
 match w with
 | .ops all l=>Fg K rec m all l F H fs Q
 | .dr all l trs=>Cc K rec m all l trs F H fs Q
 | .code c=>W4 K rec m c F H fs Q
noncomputable def dx (K:DCfg):Nat→DRec
 | 0=>fun _ _ _ _ _ _=>.fail
 | n+1=>lX K (dx K n)
end Go.Am
namespace Go.Am
variable {G:Nat→List AV}
theorem L2 (l:List EV):vVs G l=l.map (vV G):=by
 induction l with
 | nil=>rfl
 | cons x l ih=>simp only [vVs,ih,List.map_cons]
theorem Q5 (l:List EV):(vVs G l).length=l.length:=by rw [L2,List.length_map]
theorem Ro (l:List EV) (n:Nat):(vVs G l)[n]?=(l[n]?).map (vV G):=by rw [L2,List.getElem?_map]
theorem Iu (l m:List EV):vVs G (l++m)=vVs G l++vVs G m:=by simp only [L2,List.map_append]
theorem V8 (F:List EV) (t:Nat):(vVs G F).getD t .undef=vV G (F.getD t .undef):=by
 simp only [List.getD,Ro];cases F[t]?<;>simp [vV]
theorem Zp (F:List EV) (t:Nat) (v:EV):vVs G (F.set t v)=(vVs G F).set t (vV G v):=by simp only [L2,List.map_set]
theorem Og (a b:EB):vB G (C1 a b)=(vB G a&&vB G b):=by
 unfold C1;split
 ·simp [vB]
 ·simp [vB]
 ·split
  ·simp [vB]
  ·simp [vB]
  ·simp [vB]
theorem W3 (a:EB):vB G (Ah a)=!(vB G a):=by
 unfold Ah;split<;>simp [vB]
theorem Vx (a b:EB):vB G (Vh a b)=(vB G a==vB G b):=by
 unfold Vh;split<;>simp [vB,W3]
theorem P0 (o:BinOp) (a b:EI):vB G (D9 o a b)=Oy o (vI G a) (vI G b):=by
 unfold D9;split<;>simp [vB,vI]
theorem Iv (o:BinOp) (k:IntKind) (a b:EI):vI G (Y4 o k a b)=Pa o k (vI G a) (vI G b):=by
 unfold Y4;split<;>simp [vI]
theorem eK (k:IntKind) (a:EI):vI G (Xd k a)=k.wrap (vI G a):=by
 unfold Xd;split<;>simp [vI]
theorem hU (k:IntKind) (a:EI):vI G (cO k a)=k.wrap (0 - vI G a):=by
 unfold cO;split<;>simp [vI]
theorem hX (k:IntKind) (a:EI):vI G (cP k a)=Xl k (vI G a):=by
 unfold cP;split<;>simp [vI]
theorem T3 (n:EN):vI G (Y3 n)=(vN G n:Int):=by
 unfold Y3;split<;>simp [vI,vN]
theorem W0 (n:EI):vN G (T8 n)=(vI G n).toNat:=by
 unfold T8;split<;>simp [vI,vN]
theorem G5 (a b:EN):vN G (K3 a b)=vN G a+vN G b:=by
 unfold K3;split<;>simp [vN];omega
theorem L0 (a:EN) (z:Nat):vN G (M9 a z)=vN G a*z:=by
 unfold M9;split
 ·simp
 ·split<;>simp [vN]
theorem Dk (a:EN) (z:Nat):vN G (M9 a z)=Le (vN G a) z:=by
 rw [L0];unfold Le;split<;>simp
theorem hT (a b:EN):vN G (cN a b)=vN G a - vN G b:=by
 unfold cN;split<;>simp [vN]
theorem G1 {x y:Nat}:leB x y=true↔x≤y:=by unfold leB;exact decide_eq_true_iff
theorem J7 (a b:EN):vB G (O0 a b)=leB (vN G a) (vN G b):=by
 unfold O0;split
 ·simp only [vB,vN];rename_i x y;cases hb:x.ble y with
  | true=>exact (G1.2 (Nat.le_of_ble_eq_true hb)).symm
  | false=>
   cases hl:leB x y with
   | false=>rfl
   | true=>rw [Nat.ble_eq_true_of_le (G1.1 hl)] at hb;simp at hb
 ·simp only [vB,vN];exact (G1.2 (Nat.zero_le _)).symm
 ·simp only [vB]
theorem Vw (a b:EN):vB G (Vg a b)=Nat.beq (vN G a) (vN G b):=by
 unfold Vg;split<;>simp [vB,vN]
theorem Vv (a b:ES):vB G (Qc a b)=(vS G a==vS G b):=by
 unfold Qc;split<;>simp [vB,vS]
theorem hO (a b:ES):vS G (cQ a b)=vS G a++vS G b:=by
 unfold cQ;split<;>simp [vS]
theorem V9 (s:ES):vN G (Cy s)=(vS G s).length:=by
 unfold Cy;split<;>simp [vS,vN]
theorem O9 (l:EL):vN G (T9 l)=(vL G l).length:=by
 unfold T9;split<;>simp [vN,vL,Q5,Yn]
theorem Kp {cs:List AV} {o:Nat} {v:AV} (h:∀ l,v≠.agg l):E0 cs o v=cs.set o v:=by
 unfold E0;split
 ·rename_i l;exact absurd rfl (h l)
 ·rfl
theorem eJ {v:EV} {l:List AV} (h:vV G v=.agg l):∃ d,v=.agg d∧vL G d=l:=by
 cases v<;>simp [vV] at h;exact ⟨_,rfl,h⟩
theorem Fd (l:EL) (o:EN) (v:EV):vL G (Ji l o v)=E0 (vL G l) (vN G o) (vV G v):=by
 unfold Ji;split
 ·split
  ·simp only [vL,vN,vV,E0,To,L2,List.map_append,List.map_take,List.map_drop,List.length_map]
  ·simp only [vL,vN,vV]
  ·rename_i cs n v h1 h2;rw [Kp]
   ·simp only [vL,Zp,vN]
   ·intro l he;obtain ⟨d,rfl,_⟩:=eJ he;exact h2 d rfl
 ·simp only [vL]
theorem W1 (l:EL) (o n:EN):vL G (Bk l o n)=((vL G l).drop (vN G o)).take (vN G n):=by
 unfold Bk;split<;>simp [vL,vN,F8,L2,List.map_take,List.map_drop]
theorem Tl (a b:EL):vL G (Qd a b)=vL G a++vL G b:=by
 unfold Qd;split<;>simp [vL,Iu,vVs]
theorem Pg (s:ES):vL G (Mz s)=(vS G s).map fun b=>.int .u8 b.toNat:=by
 unfold Mz;split
 ·simp only [vL,L2,List.map_map,vS];congr 1
 ·simp only [vL,Yn]
theorem Oe (n:EN) (l:EL):vL G (Qb n l)=(List.replicate (vN G n) (vL G l)).flatten:=by
 unfold Qb;split
 ·simp only [vL,L2,vN,List.map_flatten,List.map_replicate]
 ·simp only [vL,Ja]
theorem pF {v:EV} (h:Xo v=false):∀ l,vV G v≠.agg l:=by
 intro l he;obtain ⟨d,rfl,_⟩:=eJ he;simp [Xo] at h
theorem Gn {o:EN} {n:Nat} (h:Om o=some n):o=.lit n:=by
 unfold Om at h;split at h
 ·simp at h;rw [h]
 ·simp at h
theorem Jc:∀ (l:EL) (n:Nat) (c:EB) (v:EV),T6 l n=some (c,v)→vB G c=true→(vL G l)[n]?=some (vV G v)
 | .of cs,n,c,v,h,_=>by
  simp only [T6] at h;split at h
  ·rename_i w hn;simp only [Option.some.injEq,Prod.mk.injEq] at h;obtain ⟨_,rfl⟩:=h;simp only [vL,Ro,hn,Option.map_some]
  ·simp at h
 | .set l o w,n,c,v,h,hc=>by
  simp only [T6] at h;split at h
  ·rename_i m ho ha
   have:=Gn ho;subst this
   have hs:vL G (.set l (.lit m) w)=(vL G l).set m (vV G w):=by
    simp only [vL,vN];exact Kp (pF ha)
   rw [hs];split at h
   ·rename_i hm;have hm:=Nat.eq_of_beq_eq_true hm;subst hm;simp only [Option.some.injEq,Prod.mk.injEq] at h;obtain ⟨rfl,rfl⟩:=h;rw [J7,O9] at hc;have hc:m+1≤(vL G l).length:=G1.1 hc;rw [List.getElem?_set_self (by omega)]
   ·rename_i hm;have hne:m≠n:=fun he=>by rw [he] at hm;simp at hm
    rw [List.getElem?_set_ne hne];exact Jc l n c v h hc
  ·simp at h
 | .var ..,_,_,_,h,_=>by simp [T6] at h
 | .ro ..,_,_,_,h,_=>by simp [T6] at h
 | .app ..,_,_,_,h,_=>by simp [T6] at h
 | .sub ..,_,_,_,h,_=>by simp [T6] at h
 | .bytes ..,_,_,_,h,_=>by simp [T6] at h
 | .rep ..,_,_,_,h,_=>by simp [T6] at h
 | .uf ..,_,_,_,h,_=>by simp [T6] at h
theorem oT {k:IntKind} {l:EL} {o:EN} {c:EB} {e:EI} (h:rdI k l o=some (c,e)) (hc:vB G c=true):isI k (vL G l) (vN G o)=true∧A0 (vL G l) (vN G o)=vI G e:=by
 have gen:some (EB.isI k l o,EI.get l o)=some (c,e)→isI k (vL G l) (vN G o)=true∧A0 (vL G l) (vN G o)=vI G e:=fun h=>by
  simp only [Option.some.injEq,Prod.mk.injEq] at h;obtain ⟨rfl,rfl⟩:=h;exact ⟨by simpa only [vB] using hc,by simp only [vI]⟩
 unfold rdI at h;split at h
 ·rename_i n ho
  have:=Gn ho;subst this
  split at h
  ·rename_i c' k' e' hr;split at h
   ·rename_i hk;subst hk;simp only [Option.some.injEq,Prod.mk.injEq] at h;obtain ⟨rfl,rfl⟩:=h
    have:=Jc l n _ _ hr hc
    simp only [vV] at this;simp [isI,A0,vN,this]
   ·simp at h
  ·simp at h
  ·exact gen h
 ·exact gen h
theorem oV {l:EL} {o:EN} {c:EB} {e:EB} (h:rdB l o=some (c,e)) (hc:vB G c=true):isB (vL G l) (vN G o)=true∧K5 (vL G l) (vN G o)=vB G e:=by
 have gen:some (EB.isB l o,EB.get l o)=some (c,e)→isB (vL G l) (vN G o)=true∧K5 (vL G l) (vN G o)=vB G e:=fun h=>by
  simp only [Option.some.injEq,Prod.mk.injEq] at h;obtain ⟨rfl,rfl⟩:=h;exact ⟨by simpa only [vB] using hc,by simp only [vB]⟩
 unfold rdB at h;split at h
 ·rename_i n ho
  have:=Gn ho;subst this
  split at h
  ·rename_i c' e' hr;simp only [Option.some.injEq,Prod.mk.injEq] at h;obtain ⟨rfl,rfl⟩:=h
   have:=Jc l n _ _ hr hc
   simp only [vV] at this;simp [isB,K5,vN,this]
  ·simp at h
  ·exact gen h
 ·exact gen h
theorem vV_dCell (v:Value):vV G (Vl v)=Q7 v:=by
 unfold Vl Q7
 split<;>simp [vV,vB,vI,vS]
theorem Zq (v:Value):vV G (dI v)=B6 v:=by
 unfold dI B6;split
 ·simp only [vV,vL,L2,List.map_map];congr 2;funext x;exact vV_dCell x
 ·rename_i h;cases v<;>first | exact vV_dCell _ | exact absurd rfl (h _)
theorem vV_evD (F:DFr) (x:Operand):vV G (evD F x)=ev (vVs G F) x:=by
 cases x with
 | tmp t=>simp only [evD,Cn,ev,V8]
 | const v=>simp only [evD,ev,Zq]
 | global g=>simp only [evD,ev,vV]
 | func f=>simp only [evD,ev,vV,vVs]
def Wo (G:Nat→List AV) (o:Option (EB×EV)) (p:Option (Bool×AV)):Prop:=∀ c v,o=some (c,v)→vB G c=true→p=some (true,vV G v)
theorem Wo.none {p:Option (Bool×AV)}:Wo G none p:=fun c v h=>by simp at h
theorem Wo.some {c:EB} {v:EV} {p:Option (Bool×AV)} (h:vB G c=true→p=some (true,vV G v)):Wo G (some (c,v)) p:=fun c' v' he hc=>by
 simp only [Option.some.injEq,Prod.mk.injEq] at he;obtain ⟨rfl,rfl⟩:=he;exact h hc
theorem gO {op:BinOp} {k:IntKind} {x y:EI}:Wo G (binIntD op k x y) (Mb op k (vI G x) (vI G y)):=by
 have nz:vB G (Ah (D9 .eql y (.lit 0)))=true→(!(vI G y==0))=true:=fun h=>by
  simpa only [W3,P0,Oy,vI] using h
 cases op<;>simp only [binIntD,Mb]<;>first
  | exact Wo.none
  | (refine Wo.some fun hc=>?_;rw [nz hc];simp only [vV,Iv,Pa];done)
  | (refine Wo.some fun hc=>?_;simp only [vV,Iv,Pa,W3,P0,Oy];done)
  | (refine Wo.some fun hc=>?_;simp only [vV,Iv,Pa,W3,P0,Oy];rfl)
theorem Ob {op:BinOp} {k:IntKind} {x y:EI}:Wo G (Ma op k x y) (Fv op k (vI G x) (vI G y)):=by
 have nz:vB G (D9 .leq (.lit 0) y)=true→decide (0≤vI G y)=true:=fun h=>by
  rw [P0] at h;exact decide_eq_true (of_decide_eq_true h)
 cases op<;>simp only [Ma,Fv]<;>first
  | exact Wo.none
  | (refine Wo.some fun hc=>?_;rw [nz hc];simp only [vV,Iv,Pa];done)
theorem gN {op:BinOp} {x y:ES}:Wo G (Tc op x y) (Lz op (vS G x) (vS G y)):=by
  cases op<;>simp only [Tc,Lz]<;>first
    | exact Wo.none
    | (refine Wo.some fun hc => ?_
       rw [J7,G5,V9,V9] at hc;simp only [vV,hO,Option.some.injEq,Prod.mk.injEq,and_true]
       exact hc)
    | (refine Wo.some fun hc=>?_;simp only [vV,Vv,W3];done)
theorem Az {op:BinOp} {c:Bool} {b:EB}:Wo G (Db op c b) (Ao op c (vB G b)):=by
 cases op<;>simp only [Db,Ao]<;>first
  | exact Wo.none
  | (refine Wo.some fun hc=>?_;simp only [vB] at hc;subst hc;simp only [vV,W3];done)
def We (G:Nat→List AV) (o:Option (EB×EB)) (p:Option (Bool×Bool)):Prop:=∀ c b,o=some (c,b)→vB G c=true→p=some (true,vB G b)
theorem Av {P:Program} {t:TypeId} {l:EL} {o:EN}:Wo G (Ag P t l o) (N9 P t (vL G l) (vN G o)):=by
 have agg:∀ z,vB G (O0 (K3 o (.lit z)) (T9 l))=true→decide (vN G o+z≤(vL G l).length)=true:=fun z h=>by
  rw [J7,G5,O9] at h;exact h
 have any:∀ n,Om o=some n→∀ c v,T6 l n=some (c,v)→vB G c=true→(match (vL G l)[vN G o]? with | some v=>some (true,v) | none=>none)=some (true,vV G v):=fun n ho c v h hc=>by
  have:=Gn ho;subst this
  have:=Jc l n c v h hc
  simp only [vN,this]
 intro c v h hc;unfold Ag at h;unfold N9;split at h
 ·rename_i k hu;simp only [hu];split at h
  ·rename_i c' e hr;simp only [Option.some.injEq,Prod.mk.injEq] at h;obtain ⟨rfl,rfl⟩:=h;obtain ⟨h1,h2⟩:=oT hr hc;simp only [h1,h2,vV]
  ·simp at h
 ·rename_i hu;simp only [hu];split at h
  ·rename_i c' e hr;simp only [Option.some.injEq,Prod.mk.injEq] at h;obtain ⟨rfl,rfl⟩:=h;obtain ⟨h1,h2⟩:=oV hr hc;simp only [h1,h2,vV]
  ·simp at h
 ·rename_i fs hu;simp only [hu];split at h
  ·rename_i z hz;simp only [Option.some.injEq,Prod.mk.injEq] at h;obtain ⟨rfl,rfl⟩:=h;simp only [hz,agg z hc,vV,W1,vN]
  ·simp at h
 ·rename_i n e hu;simp only [hu];split at h
  ·rename_i z hz;simp only [Option.some.injEq,Prod.mk.injEq] at h;obtain ⟨rfl,rfl⟩:=h;simp only [hz,agg z hc,vV,W1,vN]
  ·simp at h
 ·rename_i d h1 h2 h3 h4 hu;simp only [hu];split at h
  ·rename_i n ho
   have:=any n ho c v h hc
   cases d<;>first
    | exact this
    | exact absurd hu (h1 _)
    | exact absurd hu h2
    | exact absurd hu (h3 _)
    | exact absurd hu (h4 _ _)
  ·simp at h
 ·simp at h
end Go.Am
namespace Go.Am
variable {G:Nat→List AV}
theorem K7 {a b:Bool} (h:(a&&b)=true):a=true∧b=true:=by simpa using h
theorem A9 {a b:EB} (h:vB G (C1 a b)=true):vB G a=true∧vB G b=true:=by
 rw [Og] at h;exact K7 h
theorem Su {P:Program} {recD:TypeId→EV→EV→Option (EB×EB)} {rec:TypeId→AV→AV→Option (Bool×Bool)} (hr:∀ t x y,We G (recD t x y) (rec t (vV G x) (vV G y))) {xs ys:EL} :
    ∀ fs,We G (Nm P recD xs ys fs) (Jv P rec (vL G xs) (vL G ys) fs)
  | [] => fun c b h _ => by
    simp only [Nm,Option.some.injEq,Prod.mk.injEq] at h;obtain ⟨rfl,rfl⟩:=h;simp only [Jv,vB]
  | f::fs=>fun c b h hc=>by
    unfold Nm at h;unfold Jv;split at h
    · rename_i hn;rw [if_pos hn];split at h
      · rename_i c1 a c2 b' h1 h2;split at h
        · rename_i c3 r c4 s h3 h4;simp only [Option.some.injEq,Prod.mk.injEq] at h;obtain ⟨rfl,rfl⟩:=h;obtain ⟨g1,hc⟩:=A9 hc;obtain ⟨g2,hc⟩:=A9 hc;obtain ⟨g3,g4⟩:=A9 hc;have e1:=Av _ _ h1 g1;have e2:=Av _ _ h2 g2;have e3:=hr _ _ _ _ _ h3 g3;have e4:=Su hr fs _ _ h4 g4;simp only [vN] at e1 e2;simp only [e1,e2,e3,e4,Og,Bool.and_self]
        · simp at h
      · simp at h
    · rename_i hn;rw [if_neg hn];exact Su hr fs _ _ h hc
theorem bH {P:Program} {recD:TypeId→EV→EV→Option (EB×EB)} {rec:TypeId→AV→AV→Option (Bool×Bool)} (hr:∀ t x y,We G (recD t x y) (rec t (vV G x) (vV G y))) {e:TypeId} {z:Nat} {xs ys:EL} :
  ∀ is,We G (Qx P recD e z xs ys is) (Lt P rec e z (vL G xs) (vL G ys) is)
 | []=>fun c b h _=>by
  simp only [Qx,Option.some.injEq,Prod.mk.injEq] at h;obtain ⟨rfl,rfl⟩:=h;simp only [Lt,vB]
 | i::is=>fun c b h hc=>by
  unfold Qx at h;unfold Lt;split at h
  ·rename_i c1 a c2 b' h1 h2;split at h
   ·rename_i c3 r c4 s h3 h4;simp only [Option.some.injEq,Prod.mk.injEq] at h;obtain ⟨rfl,rfl⟩:=h;obtain ⟨g1,hc⟩:=A9 hc;obtain ⟨g2,hc⟩:=A9 hc;obtain ⟨g3,g4⟩:=A9 hc;have e1:=Av _ _ h1 g1;have e2:=Av _ _ h2 g2;have e3:=hr _ _ _ _ _ h3 g3;have e4:=bH hr is _ _ h4 g4;simp only [vN] at e1 e2;simp only [e1,e2,e3,e4,Og,Bool.and_self]
   ·simp at h
  ·simp at h
theorem Yh {P:Program}:∀ n t x y,We G (Ss P n t x y) (Ki P n t (vV G x) (vV G y))
 | 0,t,x,y=>fun c b h=>by simp [Ss] at h
 | n+1,t,x,y=>fun c b h hc=>by
  unfold Ss at h;unfold Ki;split at h
  ·rename_i k hu;simp only [hu];split at h
   ·split at h
    ·rename_i hk;subst hk;simp only [Option.some.injEq,Prod.mk.injEq] at h;obtain ⟨rfl,rfl⟩:=h;simp only [vV,P0,Oy,decide_true]
    ·simp at h
   ·simp at h
  ·rename_i hu;simp only [hu];split at h
   ·simp only [Option.some.injEq,Prod.mk.injEq] at h;obtain ⟨rfl,rfl⟩:=h;simp only [vV,Vx]
   ·simp at h
  ·rename_i hu;simp only [hu];split at h
   ·simp only [Option.some.injEq,Prod.mk.injEq] at h;obtain ⟨rfl,rfl⟩:=h;simp only [vV,Vv]
   ·simp at h
  ·rename_i fs hu;simp only [hu];split at h
   ·split at h
    ·simp at h
    ·rename_i hs;simp only [vV,hs];exact Su (fun t x y=>Yh n t x y) _ _ _ h hc
   ·simp at h
  ·rename_i m e hu;simp only [hu];split at h
   ·split at h
    ·rename_i z hz;simp only [vV,hz];exact bH (fun t x y=>Yh n t x y) _ _ _ h hc
    ·simp at h
   ·simp at h
  ·simp at h
theorem gI {P:Program} {t:TypeId} {xs ys:EL}:We G (jT P t xs ys) (Ki P 10 t (.agg (vL G xs)) (.agg (vL G ys))):=by
 intro c b h hc;unfold jT at h;split at h
 ·have:=Yh 10 t (.agg xs) (.agg ys) c b h hc
  simpa only [vV] using this
 ·simp only [Option.some.injEq,Prod.mk.injEq] at h;obtain ⟨rfl,rfl⟩:=h;simp only [vB,vVs,vV,eqA1] at hc;simp only [vB,vVs,vV,eqA2];split at hc
  ·rename_i c' b' he;simp only [he,hc]
  ·simp at hc
theorem rH {P:Program} {op:BinOp} {t:TypeId} {x y:EV}:Wo G (kG P op t x y) (N2 P op t (vV G x) (vV G y)):=by
 intro c v h hc;unfold kG at h;split at h
 ·rename_i k a k' b;split at h
  ·simp only [vV,N2];exact Ob _ _ h hc
  ·simp only [vV,N2];exact Ob _ _ h hc
  ·rename_i h1 h2;split at h
   ·rename_i hk;subst hk
    have:=gO _ _ h hc
    simp only [vV,N2]
    cases op<;>first
     | exact absurd rfl h1
     | exact absurd rfl h2
     | (rw [if_pos trivial];exact this)
     | (rw [if_pos rfl];exact this)
   ·simp at h
 ·simp only [vV,N2];exact gN _ _ h hc
 ·have:=Az _ _ h hc
  simp only [vV,N2];rw [Vx] at this;exact this
 ·simp only [vV,N2];exact Az _ _ h hc
 ·simp only [vV,N2];exact Az _ _ h hc
 ·simp only [vV,N2];exact Az _ _ h hc
 ·simp only [vV,N2];exact Az _ _ h hc
 ·simp only [vV,N2];exact Az _ _ h hc
 ·simp only [vV,N2];exact Az _ _ h hc
 ·simp only [vV,N2];exact Az _ _ h hc
 ·rename_i xs ys;simp only [vV,N2];split at h
  ·simp at h
  ·rename_i hg;simp only [hg];split at h
   ·rename_i c' b he;split at h
    ·simp only [Option.some.injEq,Prod.mk.injEq] at h;obtain ⟨rfl,rfl⟩:=h;simp only [gI _ _ he hc,Ao,vV]
    ·simp only [Option.some.injEq,Prod.mk.injEq] at h;obtain ⟨rfl,rfl⟩:=h;simp only [gI _ _ he hc,Ao,vV,W3]
    ·simp at h
   ·simp at h
 ·simp at h
theorem un_wo {op:UnOp} {x:EV}:Wo G (unD op x) (Vy op (vV G x)):=by
 intro c v h hc;unfold unD at h
 split at h<;>first
  | (simp only [Option.some.injEq,Prod.mk.injEq] at h;obtain ⟨rfl,rfl⟩:=h;simp only [vV,Vy,hU,hX,W3];done)
  | (simp at h;done)
theorem nO {P:Program} {s d:TypeId} {x:EV}:Wo G (dL P s d x) (In P s d (vV G x)):=by
 intro c v h hc;unfold dL at h;split at h
 ·rename_i h1 h2;simp only [Option.some.injEq,Prod.mk.injEq] at h;obtain ⟨rfl,rfl⟩:=h;simp only [vV,In,h1,h2,eK]
 ·rename_i h1 h2;simp only [Option.some.injEq,Prod.mk.injEq] at h;obtain ⟨rfl,rfl⟩:=h;simp only [vV,In,h1,h2]
 ·simp at h
theorem jR {P:Program} {s:TypeId} {x:EV} {f:Nat}:Wo G (Yd P s x f) (Ik P s (vV G x) f):=by
 intro c v h hc;unfold Yd at h;split at h
 ·rename_i fs r off hu;simp only [vV,Ik,hu];split at h
  ·rename_i fd hf;simp only [hf];split at h
   ·simp at h
   ·rename_i z h0 hz;simp only [Option.some.injEq,Prod.mk.injEq] at h;obtain ⟨rfl,rfl⟩:=h;simp only [hz];cases z with
    | zero=>exact absurd rfl h0
    | succ z=>simp only [vV,G5,vN]
   ·simp at h
  ·simp at h
 ·simp at h
theorem Qi {P:Bool} {i l:EI} {z:Int} (hz:vI G l=z) (h:vB G (C1 (D9 .leq (.lit 0) i) (D9 .lss i l))=true):(decide (0≤vI G i)&&decide (vI G i<z))=true:=by
 obtain ⟨h1,h2⟩:=A9 h;rw [P0] at h1 h2;rw [hz] at h2;simp only [vI] at h1;rw [Bool.and_eq_true];exact ⟨decide_eq_true (of_decide_eq_true h1),decide_eq_true (of_decide_eq_true h2)⟩
theorem jN {P:Program} {t:TypeId} {x i:EV}:Wo G (Xp P t x i) (Ev P t (vV G x) (vV G i)):=by
 intro c v h hc;unfold Xp at h;split at h
 ·split at h
  ·rename_i len e r off hu;simp only [vV,Ev,hu];split at h
   ·rename_i z hz;simp only [Option.some.injEq,Prod.mk.injEq] at h;obtain ⟨rfl,rfl⟩:=h;simp only [hz,Qi (P:=true) (z:=len) (by simp only [vI]) hc,vV,G5,Dk,W0]
   ·simp at h
  ·rename_i e mb r off len hu;simp only [vV,Ev,hu];split at h
   ·rename_i z hz;simp only [Option.some.injEq,Prod.mk.injEq] at h;obtain ⟨rfl,rfl⟩:=h;simp only [hz,Qi (P:=true) (z:=(vN G len:Int)) (T3 _) hc,vV,G5,Dk,W0]
   ·simp at h
  ·simp at h
 ·simp at h
theorem Cs {x:Option EV} {d:EI} {e:EI} (h:Dq x d=some e):P9 (x.map (vV G)) (vI G d)=some (vI G e):=by
 unfold Dq at h;split at h
 ·simp at h;subst h;rfl
 ·simp at h;subst h;simp only [Option.map_some,vV,P9]
 ·simp at h
theorem On {a b c:EI} {z:Int} (hz:vI G c=z) (h:vB G (C1 (D9 .leq (.lit 0) a) (C1 (D9 .leq a b) (D9 .leq b c)))=true):(decide (0≤vI G a)&&(decide (vI G a≤vI G b)&&decide (vI G b≤z)))=true:=by
 obtain ⟨h1,h⟩:=A9 h;obtain ⟨h2,h3⟩:=A9 h;rw [P0] at h1 h2 h3;rw [hz] at h3;simp only [vI] at h1;rw [Bool.and_eq_true,Bool.and_eq_true];exact ⟨decide_eq_true (of_decide_eq_true h1),decide_eq_true (of_decide_eq_true h2),decide_eq_true (of_decide_eq_true h3)⟩
theorem iF {P:Program} {t:TypeId} {x:EV} {lo hi:Option EV}:Wo G (Wd P t x lo hi) (Cd P t (vV G x) (lo.map (vV G)) (hi.map (vV G))):=by
 intro c v h hc;unfold Wd at h;split at h
 ·rename_i e mb r off len hu;simp only [vV,Cd,hu];split at h
  ·rename_i z l hh hz hl hh';simp only [Option.some.injEq,Prod.mk.injEq] at h;obtain ⟨rfl,rfl⟩:=h;have e1:=Cs (G:=G) hl;have e2:=Cs (G:=G) hh';rw [T3] at e2;simp only [vI] at e1;simp only [hz,e1,e2,On (z:=(vN G len:Int)) (T3 _) hc,vV,G5,Dk,W0,hT]
  ·simp at h
 ·rename_i e hu;simp only [vV,Cd,hu];split at h
  ·rename_i z l hh hz hl hh';simp only [Option.some.injEq,Prod.mk.injEq] at h;obtain ⟨rfl,rfl⟩:=h;have e1:=Cs (G:=G) hl;have e2:=Cs (G:=G) hh';simp only [vI] at e1 e2;simp only [hz,e1,e2,On (z:=0) (by simp only [vI]) hc,vV]
  ·simp at h
 ·rename_i s hu;simp only [vV,Cd,hu];split at h
  ·rename_i l hh hl hh';simp only [Option.some.injEq,Prod.mk.injEq] at h;obtain ⟨rfl,rfl⟩:=h;have e1:=Cs (G:=G) hl;have e2:=Cs (G:=G) hh';rw [T3,V9] at e2;simp only [vI] at e1;simp only [e1,e2,On (z:=((vS G s).length:Int)) (by rw [T3,V9]) hc,vV,vS,W0]
  ·simp at h
 ·simp at h
theorem Q6 (v:EV):vL G (R7 v)=A8 (vV G v):=by
 unfold R7 A8;cases v<;>simp [vL,vVs,vV]
theorem Xk {v:EV} (h:Qk v=true):Bn (vV G v)=true:=by
 cases v<;>simp [Qk] at h<;>simp [vV,Bn]
theorem isCell_ok (v:EV):isCell (vV G v)=Nc v:=by
 cases v<;>simp [vV,isCell,Nc]
theorem Jz (l:EL):vB G (Fx l)=(vL G l).all isCell:=by
 unfold Fx;split
 ·simp only [vB,vL,L2,List.all_map];congr 1;funext x;simp [isCell_ok]
 ·simp only [vB,T0]
 ·simp only [vB,T0]
theorem Lo (v:EV):vB G (Ei v)=true→(A8 (vV G v)).all isCell=true:=by
 intro h;unfold Ei at h;split at h
 ·rw [Jz] at h;simpa only [vV,A8] using h
 ·rename_i hn;simp only [vB] at h
  have:A8 (vV G v)=[vV G v]:=by
   cases v<;>simp [vV,A8];exact absurd rfl (hn _)
  rw [this];simp [isCell_ok,h]
theorem Dl {v:EV} {z:Nat} (h:vB G (Hu v z)=true):K4 (vV G v)=z:=by
 unfold Hu at h;split at h
 ·rw [Vw,O9] at h;simp only [vN] at h;simp only [vV,K4];exact Nat.eq_of_beq_eq_true h
 ·rename_i hn;simp only [vB] at h
  have:=Nat.eq_of_beq_eq_true h
  subst this;cases v<;>simp [vV,K4];exact absurd rfl (hn _)
theorem Nh {place:Nat→Option (Nat×Nat)}:∀ (parts:List (Nat×EV)) (cells:EL) (c:EB) (r:EL),Jt place cells parts=some (c,r)→vB G c=true→
  X6 place (vL G cells) (parts.map fun p=>(p.1,vV G p.2))=some (true,vL G r)
 | [],cells,c,r,h,_=>by
  simp only [Jt,Option.some.injEq,Prod.mk.injEq] at h;obtain ⟨rfl,rfl⟩:=h;simp only [List.map_nil,X6]
 | (i,v)::rest,cells,c,r,h,hc=>by
  unfold Jt at h;simp only [List.map_cons,X6];split at h
  ·simp at h
  ·rename_i off size hp;simp only [hp];split at h
   ·simp at h
   ·rename_i c' r' hf;split at h
    ·rename_i hk;simp only [Option.some.injEq,Prod.mk.injEq] at h;obtain ⟨rfl,rfl⟩:=h;obtain ⟨g1,hc⟩:=A9 hc;obtain ⟨g2,g3⟩:=A9 hc
     have:=Nh rest _ _ _ hf g3
     rw [Fd] at this;simp only [vN] at this;rw [J7,O9] at g2;simp only [vN] at g2;have e1:=Dl g1;have e2:decide (off+size≤(vL G cells).length)=true:=g2;simp only [this,Xk hk,e1,e2,beq_self_eq_true,Bool.and_self]
    ·simp at h
theorem Ar {P:Program} {t:TypeId} {z:EV} (h:Ec P t=some z):Q4 P t=some (vV G z):=by
 unfold Ec at h;unfold Q4;split at h
 ·rename_i i hi;simp only [hi];split at h
  ·rename_i z' hz;simp at h;subst h;simp only [hz,Zq]
  ·simp at h
 ·simp at h
theorem kE {P:Program} {t:TypeId} {parts:List (Nat×EV)}:Wo G (Ys P t parts) (Ey P t (parts.map fun p=>(p.1,vV G p.2))):=by
 intro c v h hc;unfold Ys at h;split at h
 ·rename_i fs z hu hz;have hz:=Ar (G:=G) hz;simp only [vV] at hz;simp only [Ey,hu,hz];split at h
  ·rename_i ps hps;simp only [hps];split at h
   ·rename_i c' cs hf;simp only [Option.some.injEq,Prod.mk.injEq] at h;obtain ⟨rfl,rfl⟩:=h;simp only [Nh _ _ _ _ hf hc,vV]
   ·simp at h
  ·simp at h
 ·rename_i n e z hu hz;have hz:=Ar (G:=G) hz;simp only [vV] at hz;simp only [Ey,hu,hz];split at h
  ·rename_i n hn;simp only [hn];split at h
   ·rename_i c' cs hf;simp only [Option.some.injEq,Prod.mk.injEq] at h;obtain ⟨rfl,rfl⟩:=h;simp only [Nh _ _ _ _ hf hc,vV]
   ·simp at h
  ·simp at h
 ·simp at h
theorem pW {P:Program} {t:TypeId} {x:EV}:Wo G (jH P t x) (Gp P t (vV G x)):=by
 intro c v h hc;unfold jH at h;split at h
 ·rename_i s hu;simp only [Option.some.injEq,Prod.mk.injEq] at h;obtain ⟨rfl,rfl⟩:=h;simp only [vV,Gp,hu,T3,V9]
 ·rename_i n e hu;simp only [Option.some.injEq,Prod.mk.injEq] at h;obtain ⟨rfl,rfl⟩:=h;simp only [Gp,hu,vV,vI]
 ·rename_i e mb r o n hu;simp only [Option.some.injEq,Prod.mk.injEq] at h;obtain ⟨rfl,rfl⟩:=h;simp only [vV,Gp,hu,T3]
 ·rename_i e hu;simp only [Option.some.injEq,Prod.mk.injEq] at h;obtain ⟨rfl,rfl⟩:=h;simp only [vV,Gp,hu,vI]
 ·simp at h
theorem rD {P:Program} {t:TypeId} {x:EV}:Wo G (kA P t x) (Rf P t (vV G x)):=by
 intro c v h hc;unfold kA at h;split at h
 ·rename_i e hu;simp only [Option.some.injEq,Prod.mk.injEq] at h;obtain ⟨rfl,rfl⟩:=h;simp only [vV,Rf,hu,vI]
 ·simp at h
theorem pP {x y:EV}:Wo G (jF x y) (Qf (vV G x) (vV G y)):=by
 intro c v h hc;unfold jF at h;split at h
 ·split at h
  ·rename_i hk;subst hk;simp only [Option.some.injEq,Prod.mk.injEq] at h;obtain ⟨rfl,rfl⟩:=h;simp only [vV,Qf,if_pos,vI]
  ·simp at h
 ·simp at h
theorem pK {x y:EV}:Wo G (jD x y) (Qe (vV G x) (vV G y)):=by
 intro c v h hc;unfold jD at h;split at h
 ·split at h
  ·rename_i hk;subst hk;simp only [Option.some.injEq,Prod.mk.injEq] at h;obtain ⟨rfl,rfl⟩:=h;simp only [vV,Qe,if_pos,vI]
  ·simp at h
 ·simp at h
theorem mP {c a b:EV}:Wo G (cK c a b) (Kv (vV G c) (vV G a) (vV G b)):=by
 intro c' v h hc;unfold cK at h
 split at h<;>first
  | (simp only [Option.some.injEq,Prod.mk.injEq] at h;obtain ⟨rfl,rfl⟩:=h;simp only [vV,vB,Kv];done)
  | (simp at h;done)
theorem Zf {x:EV}:Wo G (Lc x) (Eg (vV G x)):=by
 intro c' v h hc;unfold Lc at h
 split at h<;>first
  | (simp only [Option.some.injEq,Prod.mk.injEq] at h;obtain ⟨rfl,rfl⟩:=h;simp only [vV,Eg];done)
  | (simp at h;done)
theorem fI {v:EV} {w:AV} (h:vV G v=w):Wo G (some (.lit true,v)) (some (true,w)):=Wo.some fun _=>by rw [h]
theorem Xe {F:DFr} (l:List Operand):(l.map (ev (vVs G F)))=vVs G (l.map (evD F)):=by
 rw [L2 (List.map (evD F) l),List.map_map];congr 1;funext x;simp [vV_evD]
theorem omap_ev {F:DFr} (x:Option Operand):x.map (ev (vVs G F))=(x.map (evD F)).map (vV G):=by
 cases x<;>simp [vV_evD]
theorem aI {P:Program} {F:DFr} {op:Op}:Wo G (Ve P F op) (D1 P (vVs G F) op):=by
 intro c v h hc;unfold Ve at h;split at h
 ·exact fI (vV_evD F _) _ _ h hc
 ·exact fI (vV_evD F _) _ _ h hc
 ·simp only [D1,←vV_evD];exact mP _ _ h hc
 ·simp only [D1,←vV_evD];exact Zf _ _ h hc
 ·simp only [D1,←vV_evD];exact rH _ _ h hc
 ·simp only [D1,←vV_evD];exact un_wo _ _ h hc
 ·simp only [D1,←vV_evD];exact nO _ _ h hc
 ·simp only [D1,←vV_evD];exact jR _ _ h hc
 ·simp only [D1,←vV_evD];exact jN _ _ h hc
 ·simp only [D1,←vV_evD,omap_ev];exact iF _ _ h hc
 ·rename_i t parts;simp only [D1]
  have:=kE _ _ h hc
  rw [List.map_map] at this;rw [←this];congr 1;refine List.map_congr_left fun p _=>?_;simp [vV_evD]
 ·simp only [D1,←vV_evD];split at h
  ·rename_i vs he;split at h
   ·rename_i v' hv;simp only [Option.some.injEq,Prod.mk.injEq] at h;obtain ⟨rfl,rfl⟩:=h;simp only [he,vV,Ro,hv,Option.map_some]
   ·simp at h
  ·simp at h
 ·rename_i f first cap;simp only [D1];split at h
  ·rename_i h0;simp only [Option.some.injEq,Prod.mk.injEq] at h;obtain ⟨rfl,rfl⟩:=h;rw [if_pos h0,Xe];simp only [vV]
  ·simp at h
 ·simp only [D1];split at h
  ·rename_i x t h1 h2;simp only [h1,h2,←vV_evD];exact pW _ _ h hc
  ·simp at h
 ·simp only [D1];split at h
  ·rename_i x t h1 h2;simp only [h1,h2,←vV_evD];exact rD _ _ h hc
  ·simp at h
 ·simp only [D1];split at h
  ·rename_i x y h1;simp only [h1,←vV_evD];exact pP _ _ h hc
  ·simp at h
 ·simp only [D1];split at h
  ·rename_i x y h1;simp only [h1,←vV_evD];exact pK _ _ h hc
  ·simp at h
 ·simp at h
end Go.Am
namespace Go.Am
variable {G:Nat→List AV}
noncomputable def J3 (G:Nat→List AV) (b:Mj):Blk:=⟨b.esz,vL G b.cells⟩
noncomputable def vHp (G:Nat→List AV) (H:DHp):Hp:=H.map (Option.map (J3 G))
noncomputable def G7 (G:Nat→List AV):DHop→Hop
 | .set i b=>.set i (J3 G b)
 | .new b=>.new (J3 G b)
 | .app j b=>.app j (J3 G b)
theorem C6 (H:DHp):(vHp G H).length=H.length:=by simp [vHp]
theorem lU (H:DHp) (i:Nat):(vHp G H)[i]?=(H[i]?).map (Option.map (J3 G)):=by simp [vHp]
theorem W2 {H:DHp} {i:Nat} {b:Mj} (h:H[i]?=some (some b)):(vHp G H)[i]?=some (some (J3 G b)):=by rw [lU,h];rfl
theorem Of (H:DHp) (h:DHop):vHp G (h.act H)=(G7 G h).act (vHp G H):=by
 cases h<;>simp [DHop.act,Hop.act,G7,vHp,List.map_set]
theorem At:∀ (hs:List DHop) (H:DHp),vHp G (Dg H hs)=acts (vHp G H) (hs.map (G7 G))
 | [],H=>rfl
 | h::hs,H=>by simp only [Dg,List.map_cons,acts,At hs,Of]
open Classical in
theorem fA {l ls:List AV}:Pn l ls=true↔∀ v∈ls,v=.agg l:=by unfold Pn;exact decide_eq_true_iff
theorem Qt (z:Nat):∀ (c j:Nat) (H:DHp) (ls:List EV),V0 z j H c=some ls→ls.length=c∧∀ i,i<c→∃ l,H[i]?=some (some ⟨z,.row l (.lit (j+i))⟩)∧ls[i]?=some (.agg l)
 | 0,j,H,ls,h=>by
  have:V0 z j H 0=some []:=by unfold V0;rfl
  rw [this] at h;simp only [Option.some.injEq] at h;subst h;exact ⟨rfl,fun i hi=>by omega⟩
 | c+1,j,[],ls,h=>by simp [V0] at h
 | c+1,j,none::H,ls,h=>by simp [V0] at h
 | c+1,j,some ⟨z',l0⟩::H,ls,h=>by
  cases l0 with
  | row l k=>cases k with
   | lit i0=>
    simp only [V0] at h;split at h
    ·rename_i hb;split at h
     ·rename_i ls' h1;simp only [Option.some.injEq] at h;subst h;rw [Bool.and_eq_true] at hb;have e1:=Nat.eq_of_beq_eq_true hb.1;have e2:=Nat.eq_of_beq_eq_true hb.2;subst e1;subst e2;obtain ⟨g1,g2⟩:=Qt z c (i0+1) H ls' h1;refine ⟨by simp [g1],fun i hi=>?_⟩;cases i with
      | zero=>exact ⟨l,by simp,by simp⟩
      | succ i=>
       obtain ⟨l2,q1,q2⟩:=g2 i (by omega);exact ⟨l2,by rw [show i0+(i+1)=i0+1+i by omega];simpa using q1,by simpa using q2⟩
     ·simp at h
    ·simp at h
   | _=>simp [V0] at h
  | _=>simp [V0] at h
theorem Ov {H:DHp} {b c z:Nat} {l:EL} {ls:List EV} (h:Nl H b c=some (z,l,ls)):Nat.beq z 4294967291=false∧ls.length=c∧∀ i,i<c→∃ l',H[b+i]?=some (some ⟨z,.row l' (.lit i)⟩)∧ls[i]?=some (.agg l'):=by
 unfold Nl at h;split at h
 ·split at h
  ·simp at h
  ·rename_i hz;split at h
   ·rename_i ls' h1;simp only [Option.some.injEq,Prod.mk.injEq] at h;obtain ⟨rfl,rfl,rfl⟩:=h;obtain ⟨g1,g2⟩:=Qt _ _ _ _ _ h1;refine ⟨hz,g1,fun i hi=>?_⟩;obtain ⟨l',q1,q2⟩:=g2 i hi;rw [List.getElem?_drop] at q1;exact ⟨l',by simpa using q1,q2⟩
   ·simp at h
 ·simp at h
theorem vVs_get? {ls:List EV} {i:Nat} {x:EV} (h:ls[i]?=some x):(vVs G ls)[i]?=some (vV G x):=by rw [L2,List.getElem?_map,h];rfl
theorem Qs {H:DHp} {b c z:Nat} {l:EL} {ls:List EV} (h:Nl H b c=some (z,l,ls)) (hr:Pn (vL G l) (vVs G ls)=true) {i:Nat} (hi:i<c):(vHp G H)[b+i]?=some (some ⟨z,Fj (vL G l) i⟩):=by
 obtain ⟨_,g1,g2⟩:=Ov h;obtain ⟨l',q1,q2⟩:=g2 i hi;have e:=fA.1 hr _ (List.mem_of_getElem? (vVs_get? (G:=G) q2));simp only [vV,AV.agg.injEq] at e;rw [W2 q1];simp only [J3,vL,vN,e]
theorem El {C:A1} (hG:C.G=G) {H:DHp} {r:ER} {c0:EB} {l:EL} (h:Cr H r=some (c0,l)) (hc:vB G c0=true):E4 C (vHp G H) (vR G r)=some (vL G l):=by
 unfold Cr at h;split at h
 ·split at h
  ·rename_i b hb;split at h
   ·simp at h
   rename_i hr;simp only [Option.some.injEq,Prod.mk.injEq] at h;obtain ⟨rfl,rfl⟩:=h;have hr:isRec (J3 G b)=false:=hr;simp only [vR,E4,W2 hb,hr];simp only [J3]
  ·simp at h
 ·simp only [Option.some.injEq,Prod.mk.injEq] at h;obtain ⟨rfl,rfl⟩:=h;simp only [vR,E4,vL,hG]
 ·rename_i b c k;split at h
  ·rename_i z l' ls hf;simp only [Option.some.injEq,Prod.mk.injEq] at h;obtain ⟨rfl,rfl⟩:=h;obtain ⟨g1,g2⟩:=A9 hc;rw [J7,G5] at g1;simp only [vN] at g1;have g1:=G1.1 g1;simp only [vB] at g2;have hr:isRec ⟨z,Fj (vL G l') (vN G k)⟩=false:=(Ov hf).1;simp only [vR,E4,Qs hf g2 (show vN G k<c by omega),hr,vL]
  ·simp at h
theorem jW (l:Lf) (cs:EL) (off:EN):vV G (cR l cs off)=Gq l (vL G cs) (vN G off):=by
 cases l<;>simp only [cR,Gq,vV,vI,vB,vS,vR,vN]
theorem Lu (cs:EL):∀ (ls:List Lf) (off:EN),vVs G (Id cs off ls)=S9 (vL G cs) (vN G off) ls
 | [],off=>by simp only [Id,S9,vVs]
 | l::ls,off=>by
  simp only [Id,S9,vVs,jW,Lu cs ls,G5,vN]
theorem iV {P:Program} {t:TypeId} {cs:EL} {off:EN}:Wo G (Wt P t cs off) (Vf P t (vL G cs) (vN G off)):=by
 intro c v h hc;unfold Wt at h;unfold Vf;split at h
 ·rename_i k hu;simp only [hu];simp only [Option.some.injEq,Prod.mk.injEq] at h;obtain ⟨rfl,rfl⟩:=h;simp only [vB] at hc;simp only [hc,vV,vI]
 ·rename_i hu;simp only [hu];simp only [Option.some.injEq,Prod.mk.injEq] at h;obtain ⟨rfl,rfl⟩:=h;simp only [vB] at hc;simp only [hc,vV,vB]
 ·rename_i hu;simp only [hu];simp only [Option.some.injEq,Prod.mk.injEq] at h;obtain ⟨rfl,rfl⟩:=h;simp only [vB] at hc;simp only [hc,vV,vS]
 ·rename_i e hu;simp only [hu];simp only [Option.some.injEq,Prod.mk.injEq] at h;obtain ⟨rfl,rfl⟩:=h;simp only [vB] at hc;simp only [hc,vV,vR,vN]
 ·rename_i fs hu;simp only [hu];split at h
  ·rename_i z ls hz hl;simp only [hz,hl];split at h
   ·rename_i hb;simp only [Option.some.injEq,Prod.mk.injEq] at h;obtain ⟨rfl,rfl⟩:=h;simp only [vB] at hc;simp only [hb,hc,vV,vL,Lu,Bool.and_self]
   ·simp at h
  ·simp at h
 ·rename_i n e hu;simp only [hu];split at h
  ·rename_i z ls hz hl;simp only [hz,hl];split at h
   ·rename_i hb;simp only [Option.some.injEq,Prod.mk.injEq] at h;obtain ⟨rfl,rfl⟩:=h;simp only [vB] at hc;simp only [hb,hc,vV,vL,Lu,Bool.and_self]
   ·simp at h
  ·simp at h
 ·simp at h
theorem aW {C:A1} (hG:C.G=G) {H:DHp} {t:TypeId} {r:ER} {off:EN}:Wo G (Vi C.P H t r off) (Eh C (vHp G H) t (vR G r) (vN G off)):=by
 intro c v h hc;unfold Vi at h;unfold Eh;split at h
 ·rename_i c0 cs hcs;split at h
  ·rename_i c1 v1 hp;simp only [Option.some.injEq,Prod.mk.injEq] at h;obtain ⟨rfl,rfl⟩:=h;obtain ⟨g1,g2⟩:=A9 hc;rw [El hG hcs g1];unfold fH at hp;split at hp
   ·simp only [vR,Gi];exact Av _ _ hp g2
   ·simp only [vR,Gi];exact iV _ _ hp g2
   ·simp only [vR,Gi];exact Av _ _ hp g2
  ·simp at h
 ·simp at h
theorem gA {b c o:Nat} {cs:List AV} (h:jL b c cs o=true):cs[o]?=some (.slice true (.rw (b+Qr b cs o)) (Ya cs o) (fnA cs o))∧Qr b cs o<c:=by
 unfold jL at h;split at h
 ·rename_i i f n he;rw [Bool.and_eq_true] at h;have h1:=Nat.le_of_ble_eq_true h.1;have h2:i<b+c:=Nat.blt_eq ▸ h.2;have e1:Qr b cs o=i - b:=by unfold Qr;rw [he]
  have e2:Ya cs o=f:=by unfold Ya;rw [he]
  have e3:fnA cs o=n:=by unfold fnA;rw [he]
  rw [e1,e2,e3,he,show b+(i - b)=i by omega];exact ⟨rfl,by omega⟩
 ·simp at h
theorem fZ {b c o:Nat} {cs:List AV} (h:jK b c cs o=true):cs[o]?=some (.ptr (.rw (b+Qr b cs o)) (Ya cs o))∧Qr b cs o<c:=by
 unfold jK at h;split at h
 ·rename_i i f he;rw [Bool.and_eq_true] at h;have h1:=Nat.le_of_ble_eq_true h.1;have h2:i<b+c:=Nat.blt_eq ▸ h.2;have e1:Qr b cs o=i - b:=by unfold Qr;rw [he]
  have e2:Ya cs o=f:=by unfold Ya;rw [he]
  rw [e1,e2,he,show b+(i - b)=i by omega];exact ⟨rfl,by omega⟩
 ·simp at h
theorem fY {cs:List AV} {o:Nat} (h:Sh cs o=true):cs[o]?=some (.slice true (.ro (A5 cs o)) (A7 cs o) (B7 cs o)):=by
 unfold Sh at h;split at h
 ·rename_i k f n he;unfold A5 A7 B7;rw [he]
 ·simp at h
theorem Zj {o:Nat} {cs:List AV} (h:Xm cs o=true):cs[o]?=some .nilp:=by
 unfold Xm at h;split at h
 ·assumption
 ·simp at h
theorem Yf {l:EL} {o:EN} {f:FL} (h:vB G (Nj l o f)=true):(vL G l)[vN G o]?=some (vV G (Nk l o f)):=by
 cases f with
 | int k=>
  simp only [Nj,vB] at h;simp only [Nk,vV,vI];exact Cm h
 | bool=>
  simp only [Nj,vB] at h;simp only [Nk,vV,vB];unfold isB at h;unfold K5;split at h
  ·rename_i b he;rw [he]
  ·simp at h
 | sl b c=>
  cases c with
  | zero=>
   have h:Sh (vL G l) ((vN G o:Nat):Int).toNat=true:=h;rw [Int.toNat_natCast] at h;exact fY h
  | succ c=>
   simp only [Nj,vB] at h;simp only [Nk,vV,vR,vN];exact (gA h).1
theorem bG:∀ (fs:List FL) {l:EL} {o:EN},vB G (Vk l o fs)=true→vVs G (Qu l o fs)=((vL G l).drop (vN G o)).take fs.length∧vN G o+fs.length≤max (vN G o) (vL G l).length
 | [],l,o,_=>by simp [Qu,vVs];omega
 | f::fs,l,o,h=>by
  simp only [Vk] at h;obtain ⟨h1,h2⟩:=A9 h;have e1:=Yf h1;obtain ⟨e2,e3⟩:=bG fs h2;rw [G5] at e2 e3;simp only [vN] at e2 e3;have hlt:vN G o<(vL G l).length:=(List.getElem?_eq_some_iff.1 e1).1;refine ⟨?_,by simp only [List.length_cons];omega⟩;simp only [Qu,vVs,e2];rw [List.drop_eq_getElem_cons hlt,List.length_cons,List.take_succ_cons];rw [List.getElem?_eq_getElem hlt] at e1;simp only [Option.some.injEq] at e1;rw [e1]
def WoF (G:Nat→List AV) (x:FamR) (p:Option (Bool×AV)):Prop:=
 match x with
 | .val c v=>vB G c=true→p=some (true,vV G v)
 | .ptr n c v=>(vB G n=true→p=some (true,.nilp))∧(vB G c=true→p=some (true,vV G v))
theorem Sp {fam:TypeId→Option (Nat×Nat)} {P:Program} {t:TypeId} {cs:EL} {off:EN} {x:FamR} (h:Ye fam P t cs off=some x):WoF G x (N9 P t (vL G cs) (vN G off)):=by
 unfold Ye at h;split at h
 ·simp at h
 ·rename_i b c hf;split at h
  ·rename_i fs hu;split at h
   ·simp at h
   ·split at h
    ·rename_i z ls hz hl;split at h
     ·rename_i hb;rw [Bool.and_eq_true] at hb;have hz1:=Nat.le_of_ble_eq_true hb.2;have hb:=Nat.eq_of_beq_eq_true hb.1;simp only [Option.some.injEq] at h;subst h;intro hc;obtain ⟨e1,e2⟩:=bG ls hc;have hle:vN G off+z≤(vL G cs).length:=by omega
      unfold N9;simp only [hu,hz,vV,vL,e1,hb];rw [decide_eq_true hle]
     ·simp at h
    ·simp at h
  ·rename_i e hu;split at h
   ·simp at h
   ·simp only [Option.some.injEq] at h;subst h;intro hc
    have:=Yf hc
    unfold N9;simp only [hu,this]
  ·rename_i e hu;split at h
   ·simp at h
   ·simp only [Option.some.injEq] at h;subst h;refine ⟨fun hc=>?_,fun hc=>?_⟩
    ·simp only [vB] at hc;unfold N9;simp only [hu,Zj hc]
    ·simp only [vB] at hc;unfold N9;simp only [hu,(fZ hc).1,vV,vR,vN]
  ·simp at h
theorem aD {C:A1} (hG:C.G=G) {F:DFr} {H:DHp} {op:Op}:Wo G (Vd C.P F H op) (H8 C (vVs G F) (vHp G H) op):=by
 intro c v h hc;unfold Vd at h;split at h
 ·simp only [H8,←vV_evD];split at h
  ·rename_i r off he;simp only [he,vV];exact aW hG _ _ h hc
  ·simp at h
 ·simp only [H8,←vV_evD];split at h
  ·rename_i fs cs hu he;simp only [hu,he,vV];split at h
   ·rename_i fd hf;simp only [hf]
    have:=Av _ _ h hc
    simpa only [vN] using this
   ·simp at h
  ·simp at h
 ·simp only [H8,←vV_evD];split at h
  ·rename_i len e cs k i hu he hi;simp only [hu,he,hi,vV];split at h
   ·rename_i z hz;simp only [hz];split at h
    ·rename_i c' v' hp;simp only [Option.some.injEq,Prod.mk.injEq] at h;obtain ⟨rfl,rfl⟩:=h;obtain ⟨g1,hc⟩:=A9 hc;obtain ⟨g2,g3⟩:=A9 hc
     have:=Av _ _ hp g3
     rw [Dk,W0] at this;rw [P0] at g1 g2;have g1:decide (0≤vI G i)=true:=decide_eq_true (by have:=of_decide_eq_true g1;simpa only [vI] using this);have g2:decide (vI G i<len)=true:=decide_eq_true (by have:=of_decide_eq_true g2;simpa only [vI] using this);simp only [this,g1,g2,Bool.and_self]
    ·simp at h
   ·simp at h
  ·simp at h
 ·simp only [H8,←vV_evD];split at h
  ·rename_i h1 he;simp only [Option.some.injEq,Prod.mk.injEq] at h;obtain ⟨rfl,rfl⟩:=h;simp only [h1,he,vV,vS]
  ·rename_i mb r off n h1 he;simp only [h1,he,vV];split at h
   ·rename_i c0 cs hcs;simp only [eP,Option.some.injEq,Prod.mk.injEq] at h;obtain ⟨rfl,rfl⟩:=h;obtain ⟨g0,hc⟩:=A9 hc;rw [El hG hcs g0];obtain ⟨g1,g2⟩:=A9 hc;rw [J7,G5,O9] at g1;simp only [vB,W1,u8s] at g2;have g1:decide (vN G off+vN G n≤(vL G cs).length)=true:=g1;simp only [bX,g1,g2,Bool.and_self,vV,vS,W1,Rr]
   ·simp at h
  ·simp at h
 ·simp at h
theorem Np {C:A1} (hG:C.G=G) {H:DHp} {z:Nat} {x:EV} {c:EB} {m:EN} {xs:EL} (h:iE H z x=some (c,m,xs)) (hc:vB G c=true) :
  Oi C (vHp G H) z (vV G x)=some (true,vN G m,vL G xs):=by
 unfold iE at h;split at h
 ·simp only [Option.some.injEq,Prod.mk.injEq] at h;obtain ⟨rfl,rfl,rfl⟩:=h;simp only [vV,Oi,vN,vL,vVs]
 ·rename_i mb r off m';split at h
  ·rename_i c0 cs hcs;simp only [Option.some.injEq,Prod.mk.injEq] at h;obtain ⟨rfl,rfl,rfl⟩:=h;obtain ⟨g0,hc⟩:=A9 hc;obtain ⟨g1,g2⟩:=A9 hc;rw [J7,G5,L0,O9] at g1;rw [Jz,W1,L0] at g2;simp only [vV,Oi,El hG hcs g0];have g1:decide (vN G off+vN G m'*z≤(vL G cs).length)=true:=g1;simp only [g1,g2,Bool.and_self,W1,L0]
  ·simp at h
 ·rename_i s;split at h
  ·rename_i hz;have hz:=Nat.eq_of_beq_eq_true hz;subst hz;simp only [Option.some.injEq,Prod.mk.injEq] at h;obtain ⟨rfl,rfl,rfl⟩:=h;simp only [vV,Oi,V9,Pg,decide_true]
  ·simp at h
 ·simp at h
theorem Jk {v:EV} {n:Nat} (h:Jl (some v) n=true):(A8 (vV G v)).length=n:=by
 unfold Jl at h;simp only at h;rw [←Q6];split at h
 ·rename_i cs he;rw [he];simp only [vL,Q5];exact Nat.eq_of_beq_eq_true h
 ·simp at h
def Ww (G:Nat→List AV) (o:Option (EB×EV×DHop)) (p:Option (Bool×AV×Hop)):Prop:=∀ c v h,o=some (c,v,h)→vB G c=true→p=some (true,vV G v,G7 G h)
theorem Uk {C:A1} (hG:C.G=G) {H:DHp} {t:TypeId} {s x:EV}:Ww G (Nt C.P H t s x) (Ct C (vHp G H) t (vV G s) (vV G x)):=by
 intro c v hp h hc;unfold Nt at h;unfold Ct;split at h
 rotate_left
 ·simp at h
 rename_i e hu;simp only [hu];split at h
 rotate_left
 ·simp at h
 rename_i i zv hi hz;have hz:=Ar (G:=G) hz;simp only [hi,hz];split at h
 ·simp at h
 rename_i hb;obtain ⟨hok,hb⟩:=K7 hb;obtain ⟨hb1,hb2⟩:=K7 hb;have hlen:((A8 (vV G zv)).length==i.size)=true:=by rw [Jk hb2];simp
 have hby:decide (1≤i.bytes)=true:=decide_eq_true (Nat.le_of_ble_eq_true hb1);split at h
 rotate_left
 ·simp at h
 rename_i c' m xs hs;split at h
 ·simp only [Option.some.injEq,Prod.mk.injEq] at h;obtain ⟨rfl,rfl,rfl⟩:=h;obtain ⟨g1,g2⟩:=A9 hc;have e1:=Np hG hs g1;rw [J7,L0] at g2;simp only [vN] at g2;have g2:decide (vN G m*i.bytes≤140737488355328)=true:=g2;simp only [e1,vV,g2,hby,hlen,hok,Bool.and_self,N0,vR,vN,here,C6,G7,J3]
 ·rename_i mb j;split at h
  ·rename_i b hj;split at h
   ·rename_i hez;have hez:=Nat.eq_of_beq_eq_true hez;simp only [Option.some.injEq,Prod.mk.injEq] at h;obtain ⟨rfl,rfl,rfl⟩:=h;obtain ⟨g1,g2⟩:=A9 hc;have e1:=Np hG hs g1;rw [J7,L0] at g2;simp only [vN] at g2;have g2:decide (vN G m*i.bytes≤140737488355328)=true:=g2;have hr:∀ l,isRec ⟨i.size,l⟩=false:=fun l=>Ch hok;have g4:decide (0*i.size≤(vL G b.cells).length)=true:=decide_eq_true (by omega)
    simp only [hr,Bool.not_false,e1,vV,vR,vN,W2 hj,J3,g2,hby,hlen,hez,beq_self_eq_true,Bool.and_self,N0,here,C6,G7,Nat.zero_add,Nat.zero_mul,List.take_zero,List.nil_append,Nat.zero_le,decide_true]
   ·simp at h
  ·simp at h
 ·rename_i mb j n;split at h
  ·rename_i b hj;split at h
   ·rename_i hez;have hez:=Nat.eq_of_beq_eq_true hez;simp only [Option.some.injEq,Prod.mk.injEq] at h;obtain ⟨rfl,rfl,rfl⟩:=h;obtain ⟨g1,hc⟩:=A9 hc;obtain ⟨g2,g3⟩:=A9 hc;have e1:=Np hG hs g1;rw [J7,L0,G5] at g2;simp only [vN] at g2;rw [J7,O9,L0] at g3;have g2:decide ((vN G n+vN G m)*i.bytes≤140737488355328)=true:=g2;have hr:∀ l,isRec ⟨i.size,l⟩=false:=fun l=>Ch hok;have g4:decide (vN G n*i.size≤(vL G b.cells).length)=true:=g3
    simp only [hr,Bool.not_false,e1,vV,vR,vN,Nat.mul_one,W2 hj,J3,g2,hby,hlen,hez,g4,beq_self_eq_true,Bool.and_self,N0,here,C6,G7,Tl,W1,G5,L0,F8,List.drop_zero]
   ·simp at h
  ·simp at h
 ·rename_i mb j n _ _;split at h
  ·rename_i b hj;split at h
   ·rename_i hez;have hez:=Nat.eq_of_beq_eq_true hez;simp only [Option.some.injEq,Prod.mk.injEq] at h;obtain ⟨rfl,rfl,rfl⟩:=h;obtain ⟨g1,hc⟩:=A9 hc;obtain ⟨g2,g3⟩:=A9 hc;have e1:=Np hG hs g1;rw [J7,L0,G5] at g2;simp only [vN] at g2;rw [Vw,O9,L0] at g3;have g3:=Nat.eq_of_beq_eq_true g3;have g2:decide ((vN G n+vN G m)*i.bytes≤140737488355328)=true:=g2;have hr:∀ l,isRec ⟨i.size,l⟩=false:=fun l=>Ch hok;have g4:decide (vN G n*i.size≤(vL G b.cells).length)=true:=decide_eq_true (by omega)
    have g5:(vL G b.cells).take (vN G n*i.size)=vL G b.cells:=List.take_of_length_le (by omega);simp only [hr,Bool.not_false,e1,vV,vR,vN,W2 hj,J3,g2,hby,hlen,hez,g4,g5,beq_self_eq_true,Bool.and_self,N0,here,C6,G7,Tl,G5]
   ·simp at h
  ·simp at h
 ·simp at h
theorem Pf {l:EL} {o:EN} {v:EV} {z:Nat} (hz:K4 (vV G v)=z):vL G (My l o v z)=E0 (vL G l) (vN G o) (vV G v):=by
 unfold My;split
 ·rename_i d;split
  ·rename_i cs _;split
   ·rename_i hb;have hb:=Nat.eq_of_beq_eq_true hb;simp only [vV,K4] at hz;simp only [vV,E0,To,vL,vN,List.take_zero,List.nil_append,Nat.zero_add];rw [List.drop_of_length_le (by rw [Q5];omega),List.append_nil]
   ·exact Fd _ _ _
  ·exact Fd _ _ _
 ·exact Fd _ _ _
theorem dQ {C:A1} {H:DHp} {t:TypeId} {s x:EV}:Ww G (Fw C.P H t s x) (Ip C (vHp G H) t (vV G s) (vV G x)):=by
 intro c v hp h hc;unfold Fw at h;unfold Ip;split at h
 rotate_left
 ·simp at h
 rename_i e n hu;simp only [hu,vV];split at h
 rotate_left
 ·simp at h
 rename_i i zv hi hz;simp only [hi,Ar (G:=G) hz];split at h
 rotate_left
 ·simp at h
 rename_i hb;obtain ⟨hok,hb⟩:=K7 hb;obtain ⟨hb0,hb⟩:=K7 hb;obtain ⟨hb1,hb2⟩:=K7 hb;simp only [Option.some.injEq,Prod.mk.injEq] at h;obtain ⟨rfl,rfl,rfl⟩:=h;obtain ⟨g1,g3⟩:=A9 hc;rw [P0] at g1 g3
 have ebig:vI G (Fw.mkBigD n i.bytes)=vI G n*i.bytes:=by
  unfold Fw.mkBigD
  split<;>simp [vI,vVs,vV,dP]
 rw [ebig] at g3;simp only [vI] at g1 g3;have g1:decide (0≤vI G n)=true:=decide_eq_true (of_decide_eq_true g1);have g3:decide (vI G n*i.bytes≤140737488355328)=true:=decide_eq_true (of_decide_eq_true g3);have g0:decide (1≤i.bytes)=true:=decide_eq_true (Nat.le_of_ble_eq_true hb0);have g5:decide ((A8 (vV G zv)).length=i.size)=true:=decide_eq_true (Jk hb1);have g6:decide (1≤i.size)=true:=decide_eq_true (Nat.le_of_ble_eq_true hb2);simp only [hok,g0,g1,g3,g5,g6,Bool.and_self,vV,N0,vR,vN,here,C6,G7,J3,Oe,Q6,W0]
theorem jX {C:A1} {H:DHp} {t:TypeId} {x:EV}:Ww G (Yk C.P H t x) (Lw C (vHp G H) t (vV G x)):=by
 intro c v hp h hc;unfold Yk at h;unfold Lw;split at h
 rotate_left
 ·simp at h
 rename_i e mb j off n hu;simp only [hu,vV,vR];split at h
 rotate_left
 ·simp at h
 rename_i z zv b hz hzv hj;split at h
 ·simp at h
 rename_i hr;rw [Bool.or_eq_false_iff] at hr;obtain ⟨hr,hb⟩:=hr;have hr:isRec (J3 G b)=false:=hr;have hb:(Jl (some zv) z&&Nat.ble 1 z)=true:=by simpa using hb
 obtain ⟨hb1,hb2⟩:=K7 hb;simp only [hz,Ar (G:=G) hzv,W2 hj,hr,Bool.not_false,Bool.true_and];simp only [Option.some.injEq,Prod.mk.injEq] at h;obtain ⟨rfl,rfl,rfl⟩:=h;obtain ⟨g1,hc⟩:=A9 hc;obtain ⟨g2,g3⟩:=A9 hc;rw [J7] at g1 g3;rw [Jz,Q6] at g2;rw [G5,L0,O9] at g3;simp only [vN] at g1;have g1:decide (1≤vN G n)=true:=g1;have g3:decide (vN G off+vN G n*z≤(vL G b.cells).length)=true:=g3;have g5:decide ((A8 (vV G zv)).length=z)=true:=decide_eq_true (Jk hb1)
 have g6:decide (1≤z)=true:=decide_eq_true (Nat.le_of_ble_eq_true hb2);simp only [g1,g2,g5,g6,J3,vV,vVs,G7,Fd,E0,Oe,Q6];have g7:=of_decide_eq_true g3;simp only [g7,decide_true,Bool.and_self]
theorem Vs {C:A1} (hG:C.G=G) {F:DFr} {H:DHp} {op:Op}:Ww G (Hn C.P F H op) (E8 C (vVs G F) (vHp G H) op):=by
 intro c v hp h hc;unfold Hn at h;split at h
 ·-- store
  simp only [E8,←vV_evD];split at h
  ·rename_i i off z he hz;simp only [he,hz,vV,vR];split at h
   ·rename_i b hb;split at h
    ·simp at h
    rename_i hr;have hr:∀ l,isRec ⟨b.esz,l⟩=false:=fun _=>hr;simp only [Option.some.injEq,Prod.mk.injEq] at h;obtain ⟨rfl,rfl,rfl⟩:=h;obtain ⟨g1,hc⟩:=A9 hc;obtain ⟨g2,g3⟩:=A9 hc;rw [J7,G5,O9] at g3;simp only [vN] at g3;have g3:decide (vN G off+z≤(vL G b.cells).length)=true:=g3;simp only [hr,Bool.not_false,W2 hb,J3,Lo _ g1,Dl g2,g3,beq_self_eq_true,Bool.and_self,vV,vVs,G7,Pf (Dl g2)]
   ·simp at h
  ·simp at h
 ·-- alloc
  simp only [E8];split at h
  ·rename_i z hz;simp only [Ar (G:=G) hz];simp only [Option.some.injEq,Prod.mk.injEq] at h;obtain ⟨rfl,rfl,rfl⟩:=h;simp only [vV,N0,vR,vN,here,C6,G7,J3,Q6]
  ·simp at h
 ·-- box
  simp only [E8,←vV_evD];split at h
  ·rename_i hk;simp only [Option.some.injEq,Prod.mk.injEq] at h;obtain ⟨rfl,rfl,rfl⟩:=h;simp only [Xk hk,vV,N0,vR,vN,here,C6,G7,J3,Q6]
  ·simp at h
 ·-- buildSlice
  rename_i t n parts;simp only [E8];split at h
  rotate_left
  ·simp at h
  rename_i e hu;simp only [hu];split at h
  rotate_left
  ·simp at h
  rename_i z zv hz hzv;simp only [hz,Ar (G:=G) hzv];split at h
  rotate_left
  ·simp at h
  rename_i cs hcs;split at h
  rotate_left
  ·simp at h
  rename_i hb;obtain ⟨hok,hb⟩:=K7 hb;obtain ⟨hb1,hb2⟩:=K7 hb;have e0:A8 (vV G zv)=vVs G cs:=by rw [←Q6,hcs];simp only [vL]
  have e1:(vVs G cs).length=z:=by rw [Q5];exact Nat.eq_of_beq_eq_true hb2
  split at h
  ·rename_i c' cs' hf;simp only [Option.some.injEq,Prod.mk.injEq] at h;obtain ⟨rfl,rfl,rfl⟩:=h
   have:=Nh _ _ _ _ hf hc
   have e2:vL G (.of (List.replicate n cs).flatten)=(List.replicate n (A8 (vV G zv))).flatten:=by
    simp only [vL,e0,L2,List.map_flatten,List.map_replicate]
   rw [e2,List.map_map] at this
   have e3:(List.map ((fun p:Nat×EV=>(p.1,vV G p.2)) ∘ fun p:Nat×Operand=>(p.1,evD F p.2)) parts.toList)=List.map (fun p=>(p.1,ev (vVs G F) p.2)) parts.toList:=by
    refine List.map_congr_left fun p _=>?_;simp [vV_evD]
   rw [e3] at this;have hb1:decide (n*z≤16777216)=true:=decide_eq_true (Nat.le_of_ble_eq_true hb1);rw [e0] at this;simp only [hok,e0,this,e1,hb1,decide_true,Bool.and_self,vV,N0,vR,vN,here,C6,G7,J3]
  ·simp at h
 ·-- makeSlice
  simp only [E8,←vV_evD];split at h
  rotate_left
  ·simp at h
  rename_i e k l k' c' hu hl hc';simp only [hu,hl,hc',vV];split at h
  rotate_left
  ·simp at h
  rename_i i zv hi hz;simp only [hi,Ar (G:=G) hz];split at h
  rotate_left
  ·simp at h
  rename_i hb;obtain ⟨hok,hb⟩:=K7 hb;obtain ⟨hb1,hb2⟩:=K7 hb;simp only [Option.some.injEq,Prod.mk.injEq] at h;obtain ⟨rfl,rfl,rfl⟩:=h;obtain ⟨g1,hc⟩:=A9 hc;obtain ⟨g2,hc⟩:=A9 hc;obtain ⟨g3,g4⟩:=A9 hc;rw [P0] at g1 g2 g3 g4
  have ebig:vI G (Hn.mkBig c' i.bytes)=vI G c'*i.bytes:=by
   unfold Hn.mkBig
   split<;>simp [vI,vVs,vV,dP]
  rw [ebig] at g3;simp only [vI] at g1 g3 g4;have g1:decide (0≤vI G l)=true:=decide_eq_true (of_decide_eq_true g1);have g2:decide (vI G l≤vI G c')=true:=decide_eq_true (of_decide_eq_true g2);have g3:decide (vI G c'*i.bytes≤140737488355328)=true:=decide_eq_true (of_decide_eq_true g3);have g4:decide (vI G c'≤140737488355328)=true:=decide_eq_true (of_decide_eq_true g4);have g5:decide ((A8 (vV G zv)).length=i.size)=true:=decide_eq_true (Jk hb1);have g6:decide (1≤i.size)=true:=decide_eq_true (Nat.le_of_ble_eq_true hb2)
  simp only [hok,g1,g2,g3,g4,g5,g6,Bool.and_self,vV,N0,vR,vN,here,C6,G7,J3,Oe,Q6,W0]
 ·-- convert
  simp only [E8,←vV_evD];split at h
  ·rename_i s h1 he;simp only [h1,he,vV];simp only [Option.some.injEq,Prod.mk.injEq] at h;obtain ⟨rfl,rfl,rfl⟩:=h;rw [J7,V9] at hc;simp only [vN] at hc;have hc:decide ((vS G s).length≤140737488355328)=true:=hc;simp only [hc,vV,N0,vR,vN,here,C6,G7,J3,V9,Pg]
  ·rename_i mb i off n h1 he;simp only [h1,he,vV,vR];split at h
   ·rename_i h2;simp only [h2];split at h
    ·rename_i b hb;split at h
     ·simp at h
     rename_i hr;have hr:isRec (J3 G b)=false:=hr;simp only [W2 hb,hr,Bool.not_false,Bool.true_and];simp only [Option.some.injEq,Prod.mk.injEq] at h;obtain ⟨rfl,rfl,rfl⟩:=h;rw [J7] at hc;simp only [vN] at hc;have hc:Nat.ble 1 (vN G n)=true:=Nat.ble_eq_true_of_le (G1.1 hc);simp only [hc,vV,vR,G7]
    ·simp at h
   ·simp at h
  ·simp at h
 ·-- append
  simp only [E8];split at h
  rotate_left
  ·simp at h
  rename_i s x t u h1 h2;simp only [h1,h2,←vV_evD];split at h
  ·rename_i e hu;simp only [hu];exact Uk hG _ _ _ h hc
  ·rename_i hu;simp only [hu];exact Uk hG _ _ _ h hc
  ·rename_i k hu;simp only [hu];exact dQ _ _ _ h hc
  ·simp at h
 ·-- clear
  simp only [E8];split at h
  rotate_left
  ·simp at h
  rename_i x t h1 h2;simp only [h1,h2,←vV_evD];exact jX _ _ _ h hc
 ·simp at h
theorem gH {C:A1} (hG:C.G=G) {fam:TypeId→Option (Nat×Nat)} {F:DFr} {H:DHp} {op:Op} {c0:EB} {x:FamR} (h:Yg fam C.P F H op=some (c0,x)) (h0:vB G c0=true):WoF G x (H8 C (vVs G F) (vHp G H) op):=by
 unfold Yg at h;split at h
 ·rename_i t a;simp only [H8,←vV_evD];split at h
  ·rename_i r off he;simp only [he,vV];split at h
   ·simp at h
   ·rename_i hr;split at h
    ·rename_i c1 cs hcs;split at h
     ·rename_i y hp;simp only [Option.some.injEq,Prod.mk.injEq] at h;obtain ⟨rfl,rfl⟩:=h
      have hl:Eh C (vHp G H) t (vR G r) (vN G off)=N9 C.P t (vL G cs) (vN G off):=by
       unfold Eh;rw [El hG hcs h0];cases r with
       | rw i=>simp only [vR,Gi]
       | ro n=>exact absurd rfl (hr n)
       | fm b c k=>simp only [vR,Gi]
      rw [hl];exact Sp hp
     ·simp at h
    ·simp at h
  ·simp at h
 ·simp only [H8,←vV_evD];split at h
  ·rename_i fs cs hu he;simp only [hu,he,vV];split at h
   ·rename_i fd hf;simp only [hf];split at h
    ·rename_i y hp;simp only [Option.some.injEq,Prod.mk.injEq] at h;obtain ⟨rfl,rfl⟩:=h
     have:=Sp (G:=G) hp
     simpa only [vN] using this
    ·simp at h
   ·simp at h
  ·simp at h
 ·simp only [H8,←vV_evD];split at h
  ·rename_i len e cs k i hu he hi;simp only [hu,he,hi,vV];split at h
   ·rename_i z hz;simp only [hz];split at h
    ·rename_i y hp;simp only [Option.some.injEq,Prod.mk.injEq] at h;obtain ⟨rfl,rfl⟩:=h;obtain ⟨g1,g2⟩:=A9 h0
     have:=Sp (G:=G) hp
     rw [Dk,W0] at this;rw [P0] at g1 g2;have g1:decide (0≤vI G i)=true:=decide_eq_true (by have:=of_decide_eq_true g1;simpa only [vI] using this);have g2:decide (vI G i<len)=true:=decide_eq_true (by have:=of_decide_eq_true g2;simpa only [vI] using this);cases y with
     | val c v=>exact fun hc=>by simp only [this hc,g1,g2,Bool.and_self]
     | ptr n c v=>exact ⟨fun hc=>by simp only [this.1 hc,g1,g2,Bool.and_self],fun hc=>by simp only [this.2 hc,g1,g2,Bool.and_self]⟩
    ·simp at h
   ·simp at h
  ·simp at h
 ·simp at h
theorem Ul (b:Nat) (f:Nat→Blk):∀ (c:Nat) (H:Hp),(acts H ((List.range c).map fun j=>Hop.set (b+j) (f j))).length=H.length∧∀ i,(acts H ((List.range c).map fun j=>Hop.set (b+j) (f j)))[i]?=if b≤i∧i<b+c∧i<H.length then some (some (f (i - b))) else H[i]?
 | 0,H=>⟨by simp [acts],fun i=>by rw [if_neg (by omega)];simp [acts]⟩
 | c+1,H=>by
  have app:∀ (hs ks:List Hop) (H:Hp),acts H (hs++ks)=acts (acts H hs) ks:=by
   intro hs
   induction hs with
   | nil=>intro ks H;rfl
   | cons h hs ih=>intro ks H;exact ih ks _
  obtain ⟨h1,h2⟩:=Ul b f c H;rw [List.range_succ,List.map_append,app];simp only [List.map_cons,List.map_nil,acts,Hop.act];refine ⟨by rw [List.length_set,h1],fun i=>?_⟩;rw [List.getElem?_set,h1];by_cases e:b+c=i
  ·subst e;rw [if_pos rfl];by_cases hl:b+c<H.length
   ·rw [if_pos hl,if_pos (by omega),show b+c - b=c by omega]
   ·rw [if_neg hl,if_neg (by omega),List.getElem?_eq_none (by omega)]
  ·rw [if_neg e,h2];by_cases hi:b≤i∧i<b+c∧i<H.length
   ·rw [if_pos hi,if_pos (by omega)]
   ·rw [if_neg hi,if_neg (by omega)]
theorem dA {H:DHp} {b c z:Nat} {l l2:EL} {ls:List EV} {k:Nat} {N:List AV} (hf:Nl H b c=some (z,l,ls)) (hr:Pn (vL G l) (vVs G ls)=true) (hk:k<c) (hkl:k<(vL G l).length) (h2:vL G l2=Rz (vL G l) k N) :
  acts (vHp G H) ((Ni b c z l2).map (G7 G))=(vHp G H).set (b+k) (some ⟨z,N⟩):=by
 have e0:(Ni b c z l2).map (G7 G)=(List.range c).map fun j=>Hop.set (b+j) ⟨z,Fj (Rz (vL G l) k N) j⟩:=by
  unfold Ni;rw [List.map_map];refine List.map_congr_left fun j _=>?_;simp only [Function.comp,G7,J3,vL,vN,h2]
 rw [e0];obtain ⟨h1,h3⟩:=Ul b (fun j=>⟨z,Fj (Rz (vL G l) k N) j⟩) c (vHp G H);refine List.ext_getElem? fun i=>?_;rw [h3,List.getElem?_set]
 have hput:∀ j,Fj (Rz (vL G l) k N) j=if k=j then N else Fj (vL G l) j:=fun j=>by
  unfold Fj Rz;rw [List.getElem?_set];by_cases e:k=j
  ·subst e;rw [if_pos rfl,if_pos rfl,if_pos hkl]
  ·rw [if_neg e,if_neg e]
 by_cases hi:b≤i∧i<b+c∧i<(vHp G H).length
 ·rw [if_pos hi,hput];by_cases e:b+k=i
  ·subst e;rw [if_pos rfl,if_pos (by omega),if_pos hi.2.2]
  ·rw [if_neg e,if_neg (by omega)]
   have:=Qs hf hr (i:=i - b) (by omega)
   rw [show b+(i - b)=i by omega] at this;rw [this]
 ·rw [if_neg hi];by_cases e:b+k=i
  ·subst e
   have:=Qs hf hr hk
   have:=(List.getElem?_eq_some_iff.1 this).1
   omega
  ·rw [if_neg e]
theorem eB {C:A1} (hG:C.G=G) {F:DFr} {H:DHp} {op:Op} {c:EB} {hs:List DHop} (h:Rn C.P F H op=some (c,hs)) (hc:vB G c=true) :
  ∃ hp,E8 C (vVs G F) (vHp G H) op=some (true,.tup [],hp)∧hp.act (vHp G H)=acts (vHp G H) (hs.map (G7 G)):=by
 unfold Rn at h;split at h
 ·rename_i t a x;simp only [E8,←vV_evD];split at h
  ·rename_i b cc k off z he hz;simp only [he,hz,vV,vR];split at h
   ·rename_i z0 l ls hf;simp only [Option.some.injEq,Prod.mk.injEq] at h;obtain ⟨rfl,rfl⟩:=h;obtain ⟨g1,hc⟩:=A9 hc;obtain ⟨g2,hc⟩:=A9 hc;obtain ⟨g3,hc⟩:=A9 hc;obtain ⟨g4,hc⟩:=A9 hc;obtain ⟨g5,g6⟩:=A9 hc;rw [J7,G5] at g1 g3;simp only [vN] at g1 g3;have g1:=G1.1 g1;have g3:=G1.1 g3;simp only [vB] at g2;rw [J7,G5,O9] at g6;simp only [vN,vL] at g6;have g6:decide (vN G off+z≤(Fj (vL G l) (vN G k)).length)=true:=g6;have hr:∀ l',isRec ⟨z0,l'⟩=false:=fun _=>(Ov hf).1
    refine ⟨.set (b+vN G k) ⟨z0,E0 (Fj (vL G l) (vN G k)) (vN G off) (vV G (evD F x))⟩,?_,?_⟩
    ·simp only [Qs hf g2 (show vN G k<cc by omega),hr,Bool.not_false,Lo _ g4,Dl g5,g6,beq_self_eq_true,Bool.and_self]
    ·rw [dA (k:=vN G k) (N:=E0 (Fj (vL G l) (vN G k)) (vN G off) (vV G (evD F x))) hf g2 (by omega) (by omega) (by simp only [vL,Pf (Dl g5)])];rfl
   ·simp at h
  ·simp at h
 ·simp at h
theorem bJ {F:DFr} {op:Op} {f:FuncId} {args:List EV} (h:Ns F op=some (f,args)):callOp (vVs G F) op=some (f,vVs G args):=by
 unfold Ns at h;split at h
 ·simp only [callOp,←vV_evD];split at h
  ·rename_i g cap he;simp only [Option.some.injEq,Prod.mk.injEq] at h;obtain ⟨rfl,rfl⟩:=h;simp only [he,vV,Iu,Xe]
  ·simp at h
 ·simp at h
theorem dW {F:DFr} {op:Op} {i:Nat} {args:List EV} (h:Rm F op=some (i,args)):yldOp (vVs G F) op=some (i,vVs G args):=by
 unfold Rm at h;split at h
 ·simp only [yldOp,←vV_evD];split at h
  ·rename_i g he;simp only [Option.some.injEq,Prod.mk.injEq] at h;obtain ⟨rfl,rfl⟩:=h;simp only [he,vV,Xe]
  ·simp at h
 ·simp at h
theorem fC {C:A1} (hG:C.G=G) {F:DFr} {H:DHp} (x:ResultVar):Wo G (Rv C.P F H x) (Kr C (vVs G F) (vHp G H) x):=by
 intro c v h hc;unfold Rv at h;unfold Kr;split at h
 ·simp only [Option.some.injEq,Prod.mk.injEq] at h;obtain ⟨rfl,rfl⟩:=h;simp only [Cn,V8]
 ·simp only [V8];simp only [Cn] at h;split at h
  ·rename_i r off he;simp only [he,vV];exact aW hG _ _ h hc
  ·simp at h
theorem Kt {C:A1} (hG:C.G=G) {F:DFr} {H:DHp}:∀ (xs:List ResultVar) (c:EB) (vs:List EV),Hy C.P F H xs=some (c,vs)→vB G c=true→Bh C (vVs G F) (vHp G H) xs=some (true,vVs G vs)
 | [],c,vs,h,_=>by
  simp only [Hy,Option.some.injEq,Prod.mk.injEq] at h;obtain ⟨rfl,rfl⟩:=h;simp only [Bh,vVs]
 | x::xs,c,vs,h,hc=>by
  unfold Hy at h;split at h
  ·rename_i c1 v h1;split at h
   ·rename_i d r h2;simp only [Option.some.injEq,Prod.mk.injEq] at h;obtain ⟨rfl,rfl⟩:=h;obtain ⟨g1,g2⟩:=A9 hc;simp only [Bh,fC hG x _ _ h1 g1,Kt hG xs _ _ h2 g2,Bool.and_self,vVs]
   ·simp at h
  ·simp at h
theorem Pp {C:A1} (hG:C.G=G) {fn:Func} {F:DFr} {H:DHp}:Wo G (iO C.P fn F H) (Rw C fn (vVs G F) (vHp G H)):=by
 intro c v h hc;unfold iO at h;unfold Rw;split at h
 ·rename_i c' v' hr;simp only [Option.some.injEq,Prod.mk.injEq] at h;obtain ⟨rfl,rfl⟩:=h;simp only [Kt hG _ _ _ hr hc,vVs]
 ·rename_i c' vs hn hr;simp only [Option.some.injEq,Prod.mk.injEq] at h;obtain ⟨rfl,rfl⟩:=h;rw [Kt hG _ _ _ hr hc];cases vs with
  | nil=>simp only [vVs,vV]
  | cons x l=>cases l with
   | nil=>exact absurd rfl (hn _)
   | cons y l=>simp only [vVs,vV]
 ·simp at h
end Go.Am
namespace Go.Am
variable {G:Nat→List AV}
def vT (G:Nat→List AV) (Q:Ex→List AV→Hp→Prop) (R:AV→Hp→Prop):T→Prop
 | .fail=>False
 | .chk b t=>vB G b=true∧vT G Q R t
 | .tst b x y=>(vB G b=true→vT G Q R x)∧(vB G b=false→vT G Q R y)
 | .imp b t=>vB G b=true→vT G Q R t
 | .allI _ k=>∀ x,vT G Q R (k x)
 | .allN _ k=>∀ x,vT G Q R (k x)
 | .allB _ k=>∀ x,vT G Q R (k x)
 | .allL _ k=>∀ x,vT G Q R (k x)
 | .namI _ e k=>∀ x,x=vI G e→vT G Q R (k x)
 | .namN _ e k=>∀ x,x=vN G e→vT G Q R (k x)
 | .namB _ e k=>∀ x,x=vB G e→vT G Q R (k x)
 | .namL _ e k=>∀ x,x=vL G e→vT G Q R (k x)
 | .leaf e F H=>Q e (vVs G F) (vHp G H)
 | .ret v H=>R (vV G v) (vHp G H)
section
variable {Q:Ex→List AV→Hp→Prop} {R:AV→Hp→Prop}
theorem P8:∀ (b:EB) {t:T},vT G Q R (Z6 b t)→vB G b=true∧vT G Q R t
 | .lit true,t,h=>⟨rfl,h⟩
 | .lit false,t,h=>h.elim
 | .and a b,t,h=>by
  simp only [Z6] at h;obtain ⟨h1,h⟩:=P8 a h;obtain ⟨h2,h⟩:=P8 b h;exact ⟨by simp [vB,h1,h2],h⟩
 | .var ..,t,h=>h
 | .cmp ..,t,h=>h
 | .not ..,t,h=>h
 | .eqB ..,t,h=>h
 | .eqS ..,t,h=>h
 | .isI ..,t,h=>h
 | .isB ..,t,h=>h
 | .isT ..,t,h=>h
 | .isR ..,t,h=>h
 | .get ..,t,h=>h
 | .leN ..,t,h=>h
 | .eqN ..,t,h=>h
 | .leaf ..,t,h=>h
 | .u8s ..,t,h=>h
 | .cells ..,t,h=>h
 | .isF ..,t,h=>h
 | .isP ..,t,h=>h
 | .isNil ..,t,h=>h
 | .rows ..,t,h=>h
 | .uf ..,t,h=>h
def Bran (G:Nat→List AV) (Q:Ex→List AV→Hp→Prop) (R:AV→Hp→Prop) (n:Nat) (b:EB) (x y:Facts→T):Prop:=
 (vB G b=true∧∃ fs':Facts,fs'.n=n∧vT G Q R (x fs'))∨(vB G b=false∧∃ fs':Facts,fs'.n=n∧vT G Q R (y fs'))
theorem L7 {fs:Facts} {b:EB} {x y:Facts→T} (h:vT G Q R (match dec fs b with | some true=>.chk b (x fs) | some false=>.chk (.not b) (y fs) | none=>.tst b (x (Da fs b true)) (y (Da fs b false)))):Bran G Q R fs.n b x y:=by
 have hl:∀ v,(Da fs b v).n=fs.n:=fun v=>by unfold Da;rfl
 split at h
 ·exact .inl ⟨h.1,fs,rfl,h.2⟩
 ·refine .inr ⟨?_,fs,rfl,h.2⟩
  have:=h.1
  simpa [vB] using this
 ·cases hb:vB G b with
  | true=>exact .inl ⟨hb,_,hl _,h.1 hb⟩
  | false=>exact .inr ⟨hb,_,hl _,h.2 hb⟩
theorem S2:∀ (b:EB) (fs:Facts) (x y:Facts→T),vT G Q R (T4 fs b x y)→Bran G Q R fs.n b x y
 | .lit true,fs,x,y,h=>.inl ⟨rfl,fs,rfl,h⟩
 | .lit false,fs,x,y,h=>.inr ⟨rfl,fs,rfl,h⟩
 | .not b,fs,x,y,h=>by
  simp only [T4] at h;rcases S2 b fs y x h with ⟨h1,h2⟩ | ⟨h1,h2⟩
  ·exact .inr ⟨by simp [vB,h1],h2⟩
  ·exact .inl ⟨by simp [vB,h1],h2⟩
 | .and a b,fs,x,y,h=>by
  simp only [T4] at h;rcases S2 a fs _ _ h with ⟨h1,fs1,e1,h2⟩ | ⟨h1,h2⟩
  ·rcases S2 b fs1 _ _ h2 with ⟨h3,h4⟩ | ⟨h3,h4⟩
   ·rw [e1] at h4;exact .inl ⟨by simp [vB,h1,h3],h4⟩
   ·rw [e1] at h4;exact .inr ⟨by simp [vB,h1,h3],h4⟩
  ·exact .inr ⟨by simp [vB,h1],h2⟩
 | .eqB a b,fs,x,y,h=>by
  simp only [T4] at h;rcases S2 a fs _ _ h with ⟨h1,fs1,e1,h2⟩ | ⟨h1,fs1,e1,h2⟩
  ·rcases S2 b fs1 _ _ h2 with ⟨h3,h4⟩ | ⟨h3,h4⟩
   ·rw [e1] at h4;exact .inl ⟨by simp [vB,h1,h3],h4⟩
   ·rw [e1] at h4;exact .inr ⟨by simp [vB,h1,h3],h4⟩
  ·rcases S2 b fs1 _ _ h2 with ⟨h3,h4⟩ | ⟨h3,h4⟩
   ·rw [e1] at h4;exact .inr ⟨by simp [vB,h1,h3],h4⟩
   ·rw [e1] at h4;exact .inl ⟨by simp [vB,h1,h3],h4⟩
 | .var ..,fs,x,y,h=>L7 h
 | .cmp ..,fs,x,y,h=>L7 h
 | .eqS ..,fs,x,y,h=>L7 h
 | .isI ..,fs,x,y,h=>L7 h
 | .isB ..,fs,x,y,h=>L7 h
 | .isT ..,fs,x,y,h=>L7 h
 | .isR ..,fs,x,y,h=>L7 h
 | .get ..,fs,x,y,h=>L7 h
 | .leN ..,fs,x,y,h=>L7 h
 | .eqN ..,fs,x,y,h=>L7 h
 | .leaf ..,fs,x,y,h=>L7 h
 | .u8s ..,fs,x,y,h=>L7 h
 | .cells ..,fs,x,y,h=>L7 h
 | .isF ..,fs,x,y,h=>L7 h
 | .isP ..,fs,x,y,h=>L7 h
 | .isNil ..,fs,x,y,h=>L7 h
 | .rows ..,fs,x,y,h=>L7 h
 | .uf ..,fs,x,y,h=>L7 h
theorem Dj {o:Option (EB×EV)} {k:EV→T} (h:vT G Q R (Px o k)):∃ c v,o=some (c,v)∧vB G c=true∧vT G Q R (k v):=by
 unfold Px at h;split at h
 ·rename_i c v;obtain ⟨h1,h2⟩:=P8 c h;exact ⟨c,v,rfl,h1,h2⟩
 ·exact h.elim
end
def X3 (G:Nat→List AV) (P:EV→List DHop→Prop):Outs→Prop
 | .one v hs=>P v hs
 | .chk b x=>vB G b=true→X3 G P x
 | .tst b x y=>(vB G b=true→X3 G P x)∧(vB G b=false→X3 G P y)
 | .namI e f=>∀ j,X3 G P (f (.var j (vI G e)))
 | .namN e f=>∀ j,X3 G P (f (.var j (vN G e)))
 | .namB e f=>∀ j,X3 G P (f (.var j (vB G e)))
 | .namL e f=>∀ j,X3 G P (f (.var j (vL G e)))
theorem S3 {Q:Ex→List AV→Hp→Prop} {R:AV→Hp→Prop} {P:EV→List DHop→Prop} {k:Facts→EV→List DHop→T}:∀ (o:Outs) (fs:Facts),vT G Q R (X1 fs o k)→X3 G P o→∃ fs' v hs,P v hs∧vT G Q R (k fs' v hs)
 | .one v hs,fs,h,ho=>⟨fs,v,hs,ho,h⟩
 | .chk b x,fs,h,ho=>by
  simp only [X1] at h;obtain ⟨h1,h2⟩:=P8 b h;exact S3 x fs h2 (ho h1)
 | .tst b x y,fs,h,ho=>by
  simp only [X1] at h;rcases S2 b fs _ _ h with ⟨h1,fs1,_,h2⟩ | ⟨h1,fs1,_,h2⟩
  ·exact S3 x fs1 h2 (ho.1 h1)
  ·exact S3 y fs1 h2 (ho.2 h1)
 | .namI e f,fs,h,ho=>S3 (f (.var fs.n (vI G e))) (fresh fs) (h _ rfl) (ho _)
 | .namN e f,fs,h,ho=>S3 (f (.var fs.n (vN G e))) (fresh fs) (h _ rfl) (ho _)
 | .namB e f,fs,h,ho=>S3 (f (.var fs.n (vB G e))) (fresh fs) (h _ rfl) (ho _)
 | .namL e f,fs,h,ho=>S3 (f (.var fs.n (vL G e))) (fresh fs) (h _ rfl) (ho _)
def G2 (G:Nat→List AV) (Q:Ex→DFr→DHp→Prop):Nat→LOut→Prop
 | _,.one e F H=>Q e F H
 | n,.chk b x=>vB G b=true∧G2 G Q n x
 | n,.tst b x y=>(vB G b=true→G2 G Q n x)∧(vB G b=false→G2 G Q n y)
 | n,.imp b x=>vB G b=true→G2 G Q n x
 | n,.allI f=>∀ x,G2 G Q (n+1) (f (.var n x))
 | n,.allN f=>∀ x,G2 G Q (n+1) (f (.var n x))
 | n,.allB f=>∀ x,G2 G Q (n+1) (f (.var n x))
 | n,.allL f=>∀ x,G2 G Q (n+1) (f (.var n x))
 | n,.namI e f=>G2 G Q (n+1) (f (.var n (vI G e)))
 | n,.namN e f=>G2 G Q (n+1) (f (.var n (vN G e)))
 | n,.namB e f=>G2 G Q (n+1) (f (.var n (vB G e)))
 | n,.namL e f=>G2 G Q (n+1) (f (.var n (vL G e)))
theorem K9 {Q:Ex→List AV→Hp→Prop} {R:AV→Hp→Prop} {k:Facts→Ex→DFr→DHp→T}:∀ (o:LOut) (fs:Facts),vT G Q R (Q8 fs o k)→G2 G (fun e F H=>∃ fs',vT G Q R (k fs' e F H)) fs.n o
 | .one e F H,fs,h=>⟨fs,h⟩
 | .chk b x,fs,h=>by
  simp only [Q8] at h;obtain ⟨h1,h2⟩:=P8 b h;exact ⟨h1,K9 x fs h2⟩
 | .tst b x y,fs,h=>by
  simp only [Q8] at h;rcases S2 b fs _ _ h with ⟨h1,fs1,e1,h2⟩ | ⟨h1,fs1,e1,h2⟩
  ·have:=K9 x fs1 h2
   rw [e1] at this;exact ⟨fun _=>this,fun hb=>by rw [h1] at hb;simp at hb⟩
  ·have:=K9 y fs1 h2
   rw [e1] at this;exact ⟨fun hb=>by rw [h1] at hb;simp at hb,fun _=>this⟩
 | .imp b x,fs,h=>fun hb=>K9 x (Da fs b true) (h hb)
 | .allI f,fs,h=>fun x=>K9 (f (.var fs.n x)) (fresh fs) (h x)
 | .allN f,fs,h=>fun x=>K9 (f (.var fs.n x)) (fresh fs) (h x)
 | .allB f,fs,h=>fun x=>K9 (f (.var fs.n x)) (fresh fs) (h x)
 | .allL f,fs,h=>fun x=>K9 (f (.var fs.n x)) (fresh fs) (h x)
 | .namI e f,fs,h=>K9 (f (.var fs.n _)) (fresh fs) (h _ rfl)
 | .namN e f,fs,h=>K9 (f (.var fs.n _)) (fresh fs) (h _ rfl)
 | .namB e f,fs,h=>K9 (f (.var fs.n _)) (fresh fs) (h _ rfl)
 | .namL e f,fs,h=>K9 (f (.var fs.n _)) (fresh fs) (h _ rfl)
def G9 (C:A1) (f:FuncId) (args:List EV) (H:DHp) (v:EV) (hs:List DHop):Prop:=
 ACalls C f (vVs C.G args) (vHp C.G H) fun v' H'=>v'=vV C.G v∧H'=acts (vHp C.G H) (hs.map (G7 C.G))
def dV (C:A1) (i:Nat) (args:List EV) (H:DHp) (v:EV) (hs:List DHop):Prop:=
 AYld C i (vVs C.G args) (vHp C.G H) fun v' H'=>v'=vV C.G v∧H'=acts (vHp C.G H) (hs.map (G7 C.G))
structure Y7 (C:A1) (K:DCfg) (lps:List Code):Prop where
 hP:K.P=C.P
 mix:C.P.follows .mixedOrders=true
 calls:∀ f args H o,K.sum f args H=some o→X3 C.G (G9 C f args H) o
 loops:∀ m c F H o,m≤K.M→c∈lps→K.loop c F H=some o→∀ n (Q:Post),G2 C.G (fun e F' H'=>Q e (vVs C.G F') (vHp C.G H')) n o→C2 C m (.loop c) (vVs C.G F) (vHp C.G H) Q
 inl:∀ f fn c,K.inl f=true→C.P.funcs[f]?=some fn→fn.body=some c→∀ b∈A3 c,b∈lps
 rngs:∀ m c F H o,m≤K.M→c∈lps→K.rng c F H=some o→∀ n (Q:Post),G2 C.G (fun e F' H'=>Q e (vVs C.G F') (vHp C.G H')) n o→C2 C m c (vVs C.G F) (vHp C.G H) Q
 ylds:∀ i args H o,K.ysum i args H=some o→X3 C.G (dV C i args H) o
def K0 (C:A1):Cfg:={ C:=C,inl:=fun _=>false,strict:=.lazy,unr:=false,sum:=fun _ _ _=>none,loop:=fun _ _ _=>none,M:=0 }
theorem nB {C:A1} (h:C.P.follows .mixedOrders=true) (lps:List Code):Ke (K0 C) lps:=⟨h,fun f args H v hs h=>by simp [K0] at h,fun m c F H e F' H' _ _ h=>by simp [K0] at h⟩
noncomputable def hJ (G:Nat→List AV):DTrK→TrK
 | .still=>.still
 | .read r=>.read (vR G r)
 | .write=>.write
noncomputable def Tk (G:Nat→List AV) (t:Rl):Tr:=⟨hJ G t.kd,t.len,t.hs.map (G7 G)⟩
noncomputable def vWk (G:Nat→List AV):DWk→Wk
 | .code c=>.code c
 | .ops all l=>.ops all l
 | .dr all l trs=>.dr all l (trs.map (Tk G))
theorem Vz (i:Nat):∀ (hs:List DHop) (len:Nat),Cx i len (hs.map (G7 G))=Hr i len hs
 | [],_=>rfl
 | h::hs,len=>by cases h<;>simp only [List.map_cons,G7,Cx,Hr,Vz i hs]
theorem Tm (r:ER) (hs:List DHop) (len:Nat) (h:Hq r len hs=false):Fe (vR G r) len (hs.map (G7 G))=false:=by
 cases r with
 | rw i=>simp only [Hq] at h;simp only [vR,Fe,Vz,h]
 | ro n=>simp only [vR,Fe]
 | fm b c k=>simp [Hq] at h
theorem gQ (x y:Rl) (h:Td x y=true):U6 (Tk G x) (Tk G y)=true:=by
 obtain ⟨kx,lx,hx⟩:=x;obtain ⟨ky,ly,hy⟩:=y;cases kx<;>cases ky<;>simp only [Tk,hJ,U6,Td] at h ⊢
 ·rw [Tm _ _ _ (by simpa using h)];rfl
 ·rw [Tm _ _ _ (by simpa using h)];rfl
 ·cases h
theorem gJ (all:List Oper) (trs:List Rl) (h:Sv all trs=true):U4 all (trs.map (Tk G))=true:=by
 unfold Sv at h;unfold U4;simp only [Bool.and_eq_true,List.all_eq_true,Bool.or_eq_true] at h ⊢;refine ⟨h.1,fun j hj i hi=>?_⟩;rcases h.2 j hj i hi with h1 | h1
 ·exact .inl h1
 ·refine .inr ?_;simp only [List.getElem?_map]
  revert h1
  cases all[i]?<;>cases all[j]?<;>cases trs[i]?<;>cases trs[j]?<;>simp;intro g1 g2;exact ⟨g1,gQ _ _ g2⟩
theorem Fq:∀ (H':DHp) (p:Bool) (i:Nat) (hs:List DHop),U5 p i H'=some hs→P6 p i (vHp G H')=some (hs.map (G7 G))
 | [],false,i,hs,h=>by simp [U5] at h;subst h;rfl
 | [],true,i,hs,h=>by simp [U5] at h
 | some b::H',false,i,hs,h=>by
  simp only [U5] at h;split at h
  ·rename_i hs' h1;simp at h;subst h
   have:=Fq H' false (i+1) hs' h1
   simp only [vHp] at this;simp only [vHp,List.map_cons,Option.map_some,P6,this,G7]
  ·simp at h
 | some b::H',true,i,hs,h=>by
  simp only [U5] at h;split at h
  ·rename_i hs' h1;simp at h;subst h
   have:=Fq H' false (i+1) hs' h1
   simp only [vHp] at this;simp only [vHp,List.map_cons,Option.map_some,P6,this,G7]
  ·simp at h
 | none::H',false,i,hs,h=>by
  simp only [U5] at h;split at h
  ·rename_i hs' h1;simp at h;subst h
   have:=Fq H' true (i+1) hs' h1
   simp only [vHp] at this;simp only [vHp,List.map_cons,Option.map_none,P6,this,G7,J3,vL,vVs]
  ·simp at h
 | none::H',true,i,hs,h=>by
  simp only [U5] at h;split at h
  ·rename_i hs' h1;simp at h;subst h
   have:=Fq H' true (i+1) hs' h1
   simp only [vHp] at this;simp only [vHp,List.map_cons,Option.map_none,P6,this,G7,J3,vL,vVs]
  ·simp at h
theorem Sw:∀ (H H':DHp) (i:Nat) (hs:List DHop),De i H H'=some hs→S1 false i (vHp G H) (vHp G H')=some (hs.map (G7 G))
 | [],H',i,hs,h=>by
  simp only [De] at h
  have:=Fq (G:=G) H' false i hs h
  simp only [vHp,List.map_nil,S1] at this ⊢;exact this
 | x::H,some b::H',i,hs,h=>by
  cases x<;>simp only [De] at h
  all_goals
   split at h
   ·rename_i hs' h1;simp at h;subst h
    have:=Sw H H' (i+1) hs' h1
    simp only [vHp] at this;simp only [vHp,List.map_cons,Option.map_some,Option.map_none,S1,Bool.false_and,this,G7]
   ·simp at h
 | none::H,none::H',i,hs,h=>by
  simp only [De] at h
  have:=Sw H H' (i+1) hs h
  simp only [vHp] at this;simp only [vHp,List.map_cons,Option.map_none,S1,this]
 | some _::H,none::H',i,hs,h=>by simp [De] at h
 | some _::H,[],i,hs,h=>by simp [De] at h
 | none::H,[],i,hs,h=>by simp [De] at h
theorem Js (fn:Func) (args:List EV):vVs G (Ab fn args)=P4 fn (vVs G args):=by
 unfold Ab P4;rw [Iu,Q5];congr 1;rw [L2,List.map_replicate];simp only [vV,vVs]
theorem U2 (F:DFr) (d:Option Tmp) (v:EV):vVs G (H7 F d v)=put (vVs G F) d (vV G v):=by
 cases d<;>simp only [H7,Iy,put,Zp]
theorem Tu {K:DCfg} {r1 r2:Code→Bool} (h:∀ c,r1 c=true→r2 c=true):∀ c,L6 K r1 c=true→L6 K r2 c=true:=by
 have op:∀ o,V2 K r1 o=true→V2 K r2 o=true:=fun o ho=>by
  unfold V2 at ho ⊢
  split at ho<;>first
   | rfl
   | (simp at ho;done)
   | skip
  split at ho
  ·rename_i g _ _;obtain ⟨h1,h2⟩:=K7 ho;rw [h1];simp only [Bool.true_and];split at h2
   ·split at h2
    ·exact h _ h2
    ·rfl
   ·rfl
  ·simp at ho
 intro c
 induction c with
 | region id ops d=>simp only [L6,List.all_eq_true];exact fun h o ho=>op o (h o ho)
 | seq a b iha ihb=>simp only [L6,Bool.and_eq_true];exact fun h=>⟨iha h.1,ihb h.2⟩
 | cond x a b iha ihb=>simp only [L6,Bool.and_eq_true];exact fun h=>⟨iha h.1,ihb h.2⟩
 | block id c ih=>exact ih
 | scope c ih=>exact ih
 | _=>intro h;simp_all [L6]
theorem Nx {K:DCfg}:∀ d c,K6 K d c=true→K6 K (d+1) c=true
 | 0,c,h=>by simp [K6] at h
 | d+1,c,h=>Tu (Nx d) c h
def D8 (H:DHp):T→Prop
 | .fail=>True
 | .chk _ t=>D8 H t
 | .tst _ x y=>D8 H x∧D8 H y
 | .imp _ t=>D8 H t
 | .allI _ k=>∀ x,D8 H (k x)
 | .allN _ k=>∀ x,D8 H (k x)
 | .allB _ k=>∀ x,D8 H (k x)
 | .allL _ k=>∀ x,D8 H (k x)
 | .namI _ _ k=>∀ x,D8 H (k x)
 | .namN _ _ k=>∀ x,D8 H (k x)
 | .namB _ _ k=>∀ x,D8 H (k x)
 | .namL _ _ k=>∀ x,D8 H (k x)
 | .leaf ..=>True
 | .ret _ H'=>H'=H
theorem Ax {H:DHp}:∀ (b:EB) {t:T},D8 H t→D8 H (Z6 b t)
 | .lit true,t,h=>h
 | .lit false,t,h=>trivial
 | .and a b,t,h=>by simp only [Z6];exact Ax a (Ax b h)
 | .var ..,t,h=>h
 | .cmp ..,t,h=>h
 | .not ..,t,h=>h
 | .eqB ..,t,h=>h
 | .eqS ..,t,h=>h
 | .isI ..,t,h=>h
 | .isB ..,t,h=>h
 | .isT ..,t,h=>h
 | .isR ..,t,h=>h
 | .get ..,t,h=>h
 | .leN ..,t,h=>h
 | .eqN ..,t,h=>h
 | .leaf ..,t,h=>h
 | .u8s ..,t,h=>h
 | .cells ..,t,h=>h
 | .isF ..,t,h=>h
 | .isP ..,t,h=>h
 | .isNil ..,t,h=>h
 | .rows ..,t,h=>h
 | .uf ..,t,h=>h
theorem L8 {H:DHp} {fs:Facts} {b:EB} {x y:Facts→T} (hx:∀ fs,D8 H (x fs)) (hy:∀ fs,D8 H (y fs)) :
  D8 H (match dec fs b with | some true=>.chk b (x fs) | some false=>.chk (.not b) (y fs) | none=>.tst b (x (Da fs b true)) (y (Da fs b false))):=by
 split
 ·exact hx _
 ·exact hy _
 ·exact ⟨hx _,hy _⟩
theorem U9 {H:DHp}:∀ (b:EB) (fs:Facts) (x y:Facts→T),(∀ fs,D8 H (x fs))→(∀ fs,D8 H (y fs))→D8 H (T4 fs b x y)
 | .lit true,fs,x,y,hx,hy=>hx _
 | .lit false,fs,x,y,hx,hy=>hy _
 | .not b,fs,x,y,hx,hy=>by simp only [T4];exact U9 b fs y x hy hx
 | .and a b,fs,x,y,hx,hy=>by simp only [T4];exact U9 a fs _ _ (fun fs=>U9 b fs x y hx hy) hy
 | .eqB a b,fs,x,y,hx,hy=>by simp only [T4];exact U9 a fs _ _ (fun fs=>U9 b fs x y hx hy) (fun fs=>U9 b fs y x hy hx)
 | .var ..,fs,x,y,hx,hy=>L8 hx hy
 | .cmp ..,fs,x,y,hx,hy=>L8 hx hy
 | .eqS ..,fs,x,y,hx,hy=>L8 hx hy
 | .isI ..,fs,x,y,hx,hy=>L8 hx hy
 | .isB ..,fs,x,y,hx,hy=>L8 hx hy
 | .isT ..,fs,x,y,hx,hy=>L8 hx hy
 | .isR ..,fs,x,y,hx,hy=>L8 hx hy
 | .get ..,fs,x,y,hx,hy=>L8 hx hy
 | .leN ..,fs,x,y,hx,hy=>L8 hx hy
 | .eqN ..,fs,x,y,hx,hy=>L8 hx hy
 | .leaf ..,fs,x,y,hx,hy=>L8 hx hy
 | .u8s ..,fs,x,y,hx,hy=>L8 hx hy
 | .cells ..,fs,x,y,hx,hy=>L8 hx hy
 | .isF ..,fs,x,y,hx,hy=>L8 hx hy
 | .isP ..,fs,x,y,hx,hy=>L8 hx hy
 | .isNil ..,fs,x,y,hx,hy=>L8 hx hy
 | .rows ..,fs,x,y,hx,hy=>L8 hx hy
 | .uf ..,fs,x,y,hx,hy=>L8 hx hy
theorem aY {H:DHp} {fs:Facts} {o:EB×FamR} {k:Facts→EV→T} (h:∀ fs v,D8 H (k fs v)):D8 H (So fs o k):=by
 obtain ⟨c0,x⟩:=o;cases x with
 | val c v=>exact Ax c0 (Ax c (h _ _))
 | ptr n c v=>exact Ax c0 (U9 n fs _ _ (fun fs=>h _ _) (fun fs=>Ax c (h _ _)))
theorem Ih {H:DHp} {o:Option (EB×EV)} {k:EV→T} (h:∀ v,D8 H (k v)):D8 H (Px o k):=by
 unfold Px;split
 ·exact Ax _ (h _)
 ·trivial
def Py:Outs→Prop
 | .one _ hs=>hs=[]
 | .chk _ x=>Py x
 | .tst _ x y=>Py x∧Py y
 | .namI _ f=>∀ x,Py (f x)
 | .namN _ f=>∀ x,Py (f x)
 | .namB _ f=>∀ x,Py (f x)
 | .namL _ f=>∀ x,Py (f x)
theorem Aw {H:DHp} {k:Facts→EV→List DHop→T} (hk:∀ fs v,D8 H (k fs v [])):∀ (o:Outs) (fs:Facts),Py o→D8 H (X1 fs o k)
 | .one v hs,fs,ho=>by have:hs=[]:=ho;subst this;exact hk _ _
 | .chk b x,fs,ho=>Ax b (Aw hk x fs ho)
 | .tst b x y,fs,ho=>U9 b fs _ _ (fun fs=>Aw hk x fs ho.1) (fun fs=>Aw hk y fs ho.2)
 | .namI e f,fs,ho=>fun x=>Aw hk _ _ (ho _)
 | .namN e f,fs,ho=>fun x=>Aw hk _ _ (ho _)
 | .namB e f,fs,ho=>fun x=>Aw hk _ _ (ho _)
 | .namL e f,fs,ho=>fun x=>Aw hk _ _ (ho _)
theorem Mt {H:DHp}:∀ (t:T) (o:Outs),E1 true H t=some o→Py o
 | .ret v H',o,h=>by simp [E1] at h;subst h;rfl
 | .chk b t,o,h=>by
  simp only [E1] at h;split at h
  ·rename_i o' h1;simp at h;subst h;exact Mt t o' h1
  ·simp at h
 | .tst b x y,o,h=>by
  simp only [E1] at h;split at h
  ·rename_i o1 o2 h1 h2;simp at h;subst h;exact ⟨Mt x o1 h1,Mt y o2 h2⟩
  ·simp at h
 | .fail,o,h=>by simp [E1] at h
 | .allI ..,o,h=>by simp [E1] at h
 | .allN ..,o,h=>by simp [E1] at h
 | .allB ..,o,h=>by simp [E1] at h
 | .allL ..,o,h=>by simp [E1] at h
 | .leaf ..,o,h=>by simp [E1] at h
 | .imp ..,o,h=>by simp [E1] at h
 | .namI ..,o,h=>by simp [E1] at h
 | .namN ..,o,h=>by simp [E1] at h
 | .namB ..,o,h=>by simp [E1] at h
 | .namL ..,o,h=>by simp [E1] at h
def Vc (K:DCfg):DWk→Bool
 | .code c=>K6 K 20 c
 | .ops _ l=>l.all (V2 K (K6 K 20))
 | .dr _ l _=>l.all (V2 K (K6 K 20))
theorem Tt {K:DCfg} {o:Oper} {F:DFr} {f:FuncId} {args:List EV} (hk:kdOf K.P o.op=.call) (hr:V2 K (K6 K 20) o=true) (hc:Ns F o.op=some (f,args)) :
  K.inl f=true∧∀ fn c,K.P.funcs[f]?=some fn→fn.body=some c→K6 K 20 c=true:=by
 unfold V2 at hr;rw [hk] at hr;simp only at hr;split at hr
 ·rename_i g args' ts hop;rw [hop] at hc;simp only [Ns,evD,Option.some.injEq,Prod.mk.injEq] at hc;obtain ⟨rfl,_⟩:=hc;obtain ⟨h1,h2⟩:=K7 hr;refine ⟨h1,fun fn c hf hb=>?_⟩;rw [hf] at h2;simp only [hb] at h2;exact h2
 ·simp at hr
theorem Wj {K:DCfg} {o:Oper} {F:DFr} {i:Nat} {args:List EV} (hk:kdOf K.P o.op=.call) (hr:V2 K (K6 K 20) o=true) (hc:Rm F o.op=some (i,args)):False:=by
 unfold V2 at hr;rw [hk] at hr;simp only at hr;split at hr
 ·rename_i g args' ts hop;rw [hop] at hc;simp [Rm,evD] at hc
 ·simp at hr
theorem dx_ro {K:DCfg}:∀ n m wk F H fs q,Vc K wk=true→(∀ e F fs,D8 H (q e F H fs))→D8 H (dx K n m wk F H fs q):=by
  intro n
  induction n with
  | zero => intro m wk F H fs q _ _; trivial
  | succ n ih=>
    intro m wk F H fs q hr hq
    have guard:∀ {all:List Oper} {g:Option (Nat×Bool)} {go skip:DFr→Facts→T},(∀ F fs,D8 H (go F fs))→(∀ F fs,D8 H (skip F fs))→D8 H (Ii fs all g F go skip):=by
      intro all g go skip h1 h2;unfold Ii;split
      · exact h1 _ _
      · split
        · split
          · refine U9 _ _ _ _ (fun fs=>?_) (fun fs=>?_)<;>split<;>first | exact h1 _ _ | exact h2 _ _
          · exact h2 _ _
          · trivial
        · trivial
    cases wk with
    | ops all l=>
      show D8 H (Fg K (dx K n) m all l F H fs q);cases l with
      | nil=>exact hq _ _ _
      | cons o l=>
        obtain ⟨dst,op,ty,pos,after,g⟩:=o;simp only [Vc,List.all_cons,Bool.and_eq_true] at hr;obtain ⟨ho,hl⟩:=hr;simp only [Fg];refine guard (fun F fs=>?_) (fun F fs=>ih _ _ _ _ _ _ hl hq);unfold Rs;split
        · exact Ih fun v=>ih _ (.ops all l) _ _ _ _ hl hq
        · split
          · exact aY fun fs v=>ih _ (.ops all l) _ _ _ _ hl hq
          · exact Ih fun v=>ih _ (.ops all l) _ _ _ _ hl hq
        · rename_i hk;simp [V2,hk] at ho
        · rename_i hk;split
          · rename_i f args hc;obtain ⟨hi,hb⟩:=Tt hk ho hc;rw [hi];simp only;split
            · rename_i fn hf;split
              · rename_i c hbody;split
                · trivial
                · refine ih _ (.code c) _ _ _ _ (hb fn c hf hbody) fun e F fs=>?_;unfold He;split
                  · trivial
                  · exact Ih fun v=>ih _ _ _ _ _ _ hl hq
              · trivial
            · trivial
          · split
            · rename_i i args hy;exact (Wj hk ho hy).elim
            · trivial
    | dr all l trs=>
      show D8 H (Cc K (dx K n) m all l trs F H fs q);cases l with
      | nil=>
        simp only [Cc];split
        · exact hq _ _ _
        · trivial
      | cons o l=>
        obtain ⟨dst,op,ty,pos,after,g⟩:=o;simp only [Vc,List.all_cons,Bool.and_eq_true] at hr;obtain ⟨ho,hl⟩:=hr;simp only [Cc];refine guard (fun F fs=>?_) (fun F fs=>ih _ (.dr all l _) _ _ _ _ hl hq);unfold Km;split
        · exact Ih fun v=>ih _ (.dr all l _) _ _ _ _ hl hq
        · split
          · exact aY fun fs v=>ih _ (.dr all l _) _ _ _ _ hl hq
          · exact Ih fun v=>ih _ (.dr all l _) _ _ _ _ hl hq
        · rename_i hk;simp [V2,hk] at ho
        · rename_i hk;split
          · rename_i f args hc;obtain ⟨hi,hb⟩:=Tt hk ho hc;rw [hi];simp only;split
            · rename_i fn hf;split
              · rename_i c hbody;split
                · trivial
                · split
                  · rename_i o' ho';rw [hb fn c hf hbody] at ho';exact Aw (fun fs v=>ih _ (.dr all l _) _ _ _ _ hl hq) o' fs (Mt _ _ ho')
                  · trivial
              · trivial
            · trivial
          · split
            · rename_i i args hy;exact (Wj hk ho hy).elim
            · trivial
    | code c=>
      have sub:∀ {c':Code},L6 K (K6 K 19) c'=true→Vc K (.code c')=true:=fun h=>h;show D8 H (W4 K (dx K n) m c F H fs q);have hr:L6 K (K6 K 19) c=true:=hr
      have opsOk:∀ {l:List Oper},l.all (V2 K (K6 K 19))=true→l.all (V2 K (K6 K 20))=true:=fun {l} h=>by
        have:=Tu (K:=K) (r1:=K6 K 19) (r2:=K6 K 20) (fun c=>Nx 19 c) (.region 0 l.toArray false) (by simpa [L6] using h)
        simpa [L6] using this
      cases c with
      | skip=>exact hq _ _ _
      | region id ops draw=>
        simp only [L6] at hr;cases draw with
        | true=>exact ih _ (.dr _ _ _) _ _ _ _ (opsOk hr) hq
        | false=>exact ih _ (.ops _ _) _ _ _ _ (opsOk hr) hq
      | seq a b=>
        simp only [L6,Bool.and_eq_true] at hr;refine ih _ (.code a) _ _ _ _ (sub hr.1) fun e F fs=>?_;unfold bV;split
        · exact ih _ (.code b) _ _ _ _ (sub hr.2) hq
        · exact hq _ _ _
      | cond x a b=>
        simp only [L6,Bool.and_eq_true] at hr;obtain ⟨ra,rb⟩:=hr;simp only [W4,Kn];split
        · split
          · exact U9 _ _ _ _ (fun fs=>ih _ (.code a) _ _ _ _ (sub ra) hq) (fun fs=>ih _ (.code b) _ _ _ _ (sub rb) hq)
          · trivial
        · split
          · exact ih _ (.code a) _ _ _ _ (sub ra) hq
          · exact ih _ (.code b) _ _ _ _ (sub rb) hq
        · trivial
      | block id c=>
        refine ih _ (.code c) _ _ _ _ (sub hr) fun e F fs=>?_;unfold Rg;split
        · split
          · exact hq _ _ _
          · exact hq _ _ _
        · exact hq _ _ _
      | loop c=>simp [L6] at hr
      | exit i=>exact hq _ _ _
      | scope c=>exact ih _ (.code c) _ _ _ _ (sub hr) hq
      | label i=>exact hq _ _ _
      | ret=>exact hq _ _ _
      | _=>simp [L6] at hr
theorem Mu {C:A1} {f:FuncId} {args:List EV} {H:DHp} {ro:Bool}:∀ (t:T) (o:Outs),E1 ro H t=some o→(ro=true→D8 H t)→
  (∀ R:AV→Hp→Prop,vT C.G (fun _ _ _=>False) R t→ACalls C f (vVs C.G args) (vHp C.G H) R)→X3 C.G (G9 C f args H) o
 | .ret v H',o,h,hro,hc=>by
  simp only [E1] at h;split at h
  ·simp at h;subst h
   have:=hro rfl
   simp only [D8] at this;subst this;exact hc _ ⟨rfl,rfl⟩
  ·split at h
   ·rename_i hs hd;simp at h;subst h;have e:=Dt 0 [] _ _ _ rfl (Sw (G:=C.G) _ _ _ _ hd);simp only [List.nil_append] at e;exact hc _ ⟨rfl,e.symm⟩
   ·simp at h
 | .chk b t,o,h,hro,hc=>by
  simp only [E1] at h;split at h
  ·rename_i o' h1;simp at h;subst h;exact fun hb=>Mu t o' h1 hro fun R hR=>hc R ⟨hb,hR⟩
  ·simp at h
 | .tst b x y,o,h,hro,hc=>by
  simp only [E1] at h;split at h
  ·rename_i o1 o2 h1 h2;simp at h;subst h
   exact ⟨fun hb=>Mu x o1 h1 (fun hr=>(hro hr).1) fun R hR=>hc R ⟨fun _=>hR,fun hb'=>by rw [hb] at hb';simp at hb'⟩,
    fun hb=>Mu y o2 h2 (fun hr=>(hro hr).2) fun R hR=>hc R ⟨fun hb'=>by rw [hb] at hb';simp at hb',fun _=>hR⟩⟩
  ·simp at h
 | .fail,o,h,_,_=>by simp [E1] at h
 | .allI ..,o,h,_,_=>by simp [E1] at h
 | .allN ..,o,h,_,_=>by simp [E1] at h
 | .allB ..,o,h,_,_=>by simp [E1] at h
 | .allL ..,o,h,_,_=>by simp [E1] at h
 | .leaf ..,o,h,_,_=>by simp [E1] at h
 | .imp ..,o,h,_,_=>by simp [E1] at h
 | .namI ..,o,h,_,_=>by simp [E1] at h
 | .namN ..,o,h,_,_=>by simp [E1] at h
 | .namB ..,o,h,_,_=>by simp [E1] at h
 | .namL ..,o,h,_,_=>by simp [E1] at h
theorem bF {C:A1} {K:DCfg} {Q:Ex→List AV→Hp→Prop} {R:AV→Hp→Prop} (hG:C.G=C.G) {F:DFr} {H:DHp} {op:Op} {o:EB×FamR} {fs:Facts} {k:Facts→EV→T} (ho:Yg K.fam C.P F H op=some o) (h:vT C.G Q R (So fs o k)) :
  ∃ fs2 v,H8 C (vVs C.G F) (vHp C.G H) op=some (true,vV C.G v)∧vT C.G Q R (k fs2 v):=by
 obtain ⟨c0,x⟩:=o;cases x with
 | val c v=>
  simp only [So] at h;obtain ⟨h0,h⟩:=P8 c0 h;obtain ⟨h1,h⟩:=P8 c h;exact ⟨fs,v,gH hG ho h0 h1,h⟩
 | ptr n c v=>
  simp only [So] at h;obtain ⟨h0,h⟩:=P8 c0 h;have hw:=gH hG ho h0;rcases S2 n fs _ _ h with ⟨h1,fs1,_,h2⟩ | ⟨h1,fs1,_,h2⟩
  ·exact ⟨fs1,.nilp,by rw [hw.1 h1];simp only [vV],h2⟩
  ·obtain ⟨h3,h4⟩:=P8 c h2;exact ⟨fs1,v,hw.2 h3,h4⟩
theorem mA {F:DFr} {op:Op}:Fi (vVs G F) op=(Mn F op).map (vR G):=by
 unfold Fi Mn;cases op<;>simp only [Option.map_none]
 ·simp only [←vV_evD];generalize evD F _=x;cases x<;>simp only [vV,Option.map_some,Option.map_none]
 ·simp only [←vV_evD];generalize evD F _=x;cases x<;>simp only [vV,Option.map_some,Option.map_none]
theorem F6 {P P':Ex→DFr→DHp→Prop} (hp:∀ e F H,P e F H→P' e F H):∀ (o:LOut) (n:Nat),G2 G P n o→G2 G P' n o
 | .one e F H,n,h=>hp _ _ _ h
 | .chk b x,n,h=>⟨h.1,F6 hp x n h.2⟩
 | .tst b x y,n,h=>⟨fun hb=>F6 hp x n (h.1 hb),fun hb=>F6 hp y n (h.2 hb)⟩
 | .imp b x,n,h=>fun hb=>F6 hp x n (h hb)
 | .allI f,n,h=>fun x=>F6 hp (f (.var n x)) (n+1) (h x)
 | .allN f,n,h=>fun x=>F6 hp (f (.var n x)) (n+1) (h x)
 | .allB f,n,h=>fun x=>F6 hp (f (.var n x)) (n+1) (h x)
 | .allL f,n,h=>fun x=>F6 hp (f (.var n x)) (n+1) (h x)
 | .namI e f,n,h=>F6 hp (f (.var n _)) (n+1) h
 | .namN e f,n,h=>F6 hp (f (.var n _)) (n+1) h
 | .namB e f,n,h=>F6 hp (f (.var n _)) (n+1) h
 | .namL e f,n,h=>F6 hp (f (.var n _)) (n+1) h
def LpD (K:DCfg) (lps:List Code) (wk:DWk):Prop:=
 match wk with
 | .code c=>∀ b∈A3 c,b∈lps
 | _=>True
theorem Xs {Q:Ex→List AV→Hp→Prop} {R:AV→Hp→Prop} {fs:Facts} {all:List Oper} {g:Option (Nat×Bool)} {F:DFr} {go skip:DFr→Facts→T} (h:vT G Q R (Ii fs all g F go skip)) :
  ∃ F' fs',vVs G F'=vVs G F∧F'.length=F.length∧((wantA all g (vVs G F)=some true∧vT G Q R (go F' fs'))∨(wantA all g (vVs G F)=some false∧vT G Q R (skip F' fs'))):=by
 unfold Ii at h;unfold wantA;split at h
 ·exact ⟨F,fs,rfl,rfl,.inl ⟨rfl,h⟩⟩
 ·rename_i j want;simp only;split at h
  ·rename_i t ht;simp only [ht,V8];rw [Cn] at h;split at h
   ·rename_i b hb
    have hv:∀ x:Bool,vB G b=x→vVs G (H7 F (some t) (.bool (.lit x)))=vVs G F:=fun x hx=>by
     rw [U2];simp only [put,vV,vB];refine R2 ?_ (by simp);rw [V8,hb];simp only [vV,hx]
    rw [hb];simp only [vV];rcases S2 b fs _ _ h with ⟨h1,fs1,_,h2⟩ | ⟨h1,fs1,_,h2⟩
    ·refine ⟨H7 F (some t) (.bool (.lit true)),fs1,hv _ h1,by simp [H7,Iy],?_⟩;rw [h1];cases want
     ·exact .inr ⟨rfl,h2⟩
     ·exact .inl ⟨rfl,h2⟩
    ·refine ⟨H7 F (some t) (.bool (.lit false)),fs1,hv _ h1,by simp [H7,Iy],?_⟩;rw [h1];cases want
     ·exact .inl ⟨rfl,h2⟩
     ·exact .inr ⟨rfl,h2⟩
   ·rename_i hb;rw [hb];simp only [vV,vVs];exact ⟨F,fs,rfl,rfl,.inr ⟨trivial,h⟩⟩
   ·exact h.elim
  ·exact h.elim
theorem Ox {C:A1} {K:DCfg} {lps:List Code} (hK:Y7 C K lps):∀ n m wk F H fs q (Q:Post) (QQ:Ex→List AV→Hp→Prop) (RR:AV→Hp→Prop),
    (∀ e F H fs,vT C.G QQ RR (q e F H fs)→Q e (vVs C.G F) (vHp C.G H))→LpD K lps wk→vT C.G QQ RR (dx K n m wk F H fs q)→Snd (K0 C) m (vWk C.G wk) (vVs C.G F) (vHp C.G H) Q:=by
  have hG:C.G=C.G:=rfl;have hP:=hK.hP;intro n
  induction n with
  | zero => intro m wk F H fs q Q QQ RR _ _ h; exact h.elim
  | succ n ih=>
    intro m wk F H fs q Q QQ RR hq hlp h;have g0:=nB (C:=C) hK.mix lps;cases wk with
    | ops all l=>
      change vT C.G QQ RR (Fg K (dx K n) m all l F H fs q) at h;cases l with
      | nil=>exact fun r ρ a w hm hH hF=>⟨.normal,ρ,_,_,rfl,hq _ _ _ _ h,P7.refl m ρ,hH,hF,Frm.refl ρ w⟩
      | cons o l=>
        obtain ⟨dst,op,ty,pos,after,guard⟩:=o;simp only [Fg] at h;obtain ⟨F',fs',hFe,_,h⟩:=Xs h;rw [← hFe];rw [← hFe] at h;rcases h with ⟨hw,h⟩ | ⟨hw,h⟩
        · unfold Rs at h;rw [hP] at h;split at h
          · rename_i hk;obtain ⟨c,v,h1,h2,h3⟩:=Dj h
            have:=ih m (.ops all l) _ _ _ _ _ _ _ hq trivial h3
            rw [U2] at this;exact L3 (lps:=lps) g0 (.pure hw hk (aI _ _ h1 h2)) this
          · rename_i hk;split at h
            · rename_i o ho;obtain ⟨fs2,v,h1,h3⟩:=bF hG (o:=o) ho h
              have:=ih m (.ops all l) _ _ _ _ _ _ _ hq trivial h3
              rw [U2] at this;exact L3 (lps:=lps) g0 (.read hw hk h1) this
            · obtain ⟨c,v,h1,h2,h3⟩:=Dj h
              have:=ih m (.ops all l) _ _ _ _ _ _ _ hq trivial h3
              rw [U2] at this;exact L3 (lps:=lps) g0 (.read hw hk (aD hG _ _ h1 h2)) this
          · rename_i hk;split at h
            · rename_i c v x hx;obtain ⟨h2,h3⟩:=P8 c h
              have:=ih m (.ops all l) _ _ _ _ _ _ _ hq trivial h3
              rw [U2,Of] at this;exact L3 (lps:=lps) g0 (.write hw hk (Vs hG _ _ _ hx h2)) this
            · split at h
              · rename_i c hs hx;obtain ⟨h2,h3⟩:=P8 c h;obtain ⟨hp,e1,e2⟩:=eB hG hx h2
                have:=ih m (.ops all l) _ _ _ _ _ _ _ hq trivial h3
                rw [U2,At,←e2] at this;simp only [vV,vVs] at this;exact L3 (lps:=lps) g0 (.write hw hk e1) this
              · exact h.elim
          · rename_i hk;split at h
            · rename_i f args hc;have hc:=bJ (G:=C.G) hc;split at h
              · rename_i hi;split at h
                · rename_i fn hfn;split at h
                  · rename_i c hb;split at h
                    · exact h.elim
                    · rename_i hnm
                      have hbody:∀ (r:Option Nat),V4 r c=true→∀ (ρ:Env) (a:Act) (w:World),(vHp C.G H).length≤(vHp C.G H).length→A4 C ρ (vHp C.G H) w→D6 ρ (P4 fn (vVs C.G args)) a→
                          c.wpIn (W r) 0 C.P (AP C (vHp C.G H).length ρ w (M6 C fn fun v' H'=>∃ v H1 fs,v'=vV C.G v∧H'=vHp C.G H1∧vT C.G QQ RR (dx K n m (.ops all l) (H7 F' dst v) H1 fs q))) a w:=by
                        have:=ih H.length (.code c) (Ab fn args) H fs' _ (M6 C fn fun v' H'=>∃ v H1 fs,v'=vV C.G v∧H'=vHp C.G H1∧vT C.G QQ RR (dx K n m (.ops all l) (H7 F' dst v) H1 fs q)) QQ RR (fun e F1 H1 fs1 ht=>by
                          unfold He at ht;split at ht
                          · exact ht.elim
                          · rename_i hne;obtain ⟨cc,v,q1,q2,q3⟩:=Dj ht;have e1:=Pp hG _ _ q1 q2;cases e with
                            | exit i=>exact absurd rfl (hne i)
                            | normal=>simp only [M6];rw [e1];exact ⟨v,H1,fs1,rfl,rfl,q3⟩
                            | ret=>simp only [M6];rw [e1];exact ⟨v,H1,fs1,rfl,rfl,q3⟩) (fun b hb'=>hK.inl f fn c hi hfn hb b hb') h
                        rw [Js] at this;rw [← C6 (G := C.G) H] at this;exact this
                      have hcall:=acalls_of (f:=f) (C:=C) (fn:=fn) (K:=fun v' H'=>∃ v H1 fs,v'=vV C.G v∧H'=vHp C.G H1∧vT C.G QQ RR (dx K n m (.ops all l) (H7 F' dst v) H1 fs q)) hfn hb hnm (fun r hr ρ a w hH hF=>hbody r hr ρ a w (Nat.le_refl _) hH hF);intro r ρ a w hm hH hF;unfold wpListIn;rw [O5 hF hw,if_pos rfl];obtain ⟨cargs,hv,h1⟩:=Hk (w:=w) (o:=⟨dst,op,ty,pos,after,guard⟩) hF hc hcall.1;refine Aj (Sc hc) ?_;have h1:(execOp a.eval ⟨dst,op,ty,pos,after,guard⟩).run (K0 C).C.P w=.ok (.enter f cargs.toArray) w:=h1;rw [h1]
                      refine ⟨fun h=>by simp [W,Fence.wide] at h,Gv.2 ((hcall.2 ρ w cargs hH hv).mono ?_)⟩;rintro e w' ⟨v',cv,ρ',H',rfl,⟨v,H1,fs1,rfl,rfl,g1⟩,g2,g3,g4,g5⟩;have hp:=P7.of_le hH g2 hm
                      have:=ih m (.ops all l) _ _ _ _ _ _ _ hq trivial g1
                      rw [U2] at this;exact L9 (fun e a w h=>AP.link hp g5 h) l _ _ (this r ρ' _ w' (U8 hm hH g3 hp) g3 ((hF.mono g2).put _ _ _ g4))
                  · exact h.elim
                · exact h.elim
              · split at h
                · rename_i o ho;obtain ⟨fs1,v,hs,h1,h2⟩:=S3 o fs' h (hK.calls _ _ _ _ ho)
                  have:=ih m (.ops all l) _ _ _ _ _ _ _ hq trivial h2
                  rw [U2,At] at this;exact L3 (lps:=lps) g0 (.call hw hk hc h1) this
                · exact h.elim
            · split at h
              · rename_i i args hy;have hy:=dW (G:=C.G) hy;split at h
                · rename_i o ho;obtain ⟨fs1,v,hs,h1,h2⟩:=S3 o fs' h (hK.ylds _ _ _ _ ho)
                  have:=ih m (.ops all l) _ _ _ _ _ _ _ hq trivial h2
                  rw [U2,At] at this;intro r ρ a w hm hH hF;unfold wpListIn;rw [O5 hF hw,if_pos rfl];refine h1 ρ _ w a ⟨dst,op,ty,pos,after,guard⟩ r _ _ hH hF hy ?_;rintro v' H' ρ' cv w' ⟨rfl,rfl⟩ g3 g4 g2 g5;have hp:=P7.of_le hH g2 hm;exact L9 (fun e a w h=>AP.link hp g5 h) l _ _ (this r ρ' _ w' (U8 hm hH g3 hp) g3 ((hF.mono g2).put _ _ _ g4))
                · exact h.elim
              · exact h.elim
        · have:=ih m (.ops all l) _ _ _ _ _ _ _ hq trivial h
          rw [U2] at this;simp only [vV,vVs] at this;exact L3 (lps:=lps) g0 (.skip hw) this
    | dr all l trs=>
      change vT C.G QQ RR (Cc K (dx K n) m all l trs F H fs q) at h;cases l with
      | nil=>
        simp only [Cc] at h;split at h
        · rename_i hd;exact ⟨[],_,_,.nil _ _,by have:=gJ (G:=C.G) all trs hd;simpa using this,hq _ _ _ _ h⟩
        · exact h.elim
      | cons o l=>
        obtain ⟨dst,op,ty,pos,after,guard⟩:=o;simp only [Cc] at h;obtain ⟨F',fs',hFe,_,h⟩:=Xs h;rw [← hFe];rw [← hFe] at h
        have go:∀ {tr:Rl} {v:EV} {H':DHp} {fs1:Facts},St (K0 C) all ⟨dst,op,ty,pos,after,guard⟩ (vVs C.G F') (vHp C.G H) (Tk C.G tr) (vV C.G v) (vHp C.G H')→
            vT C.G QQ RR (dx K n m (.dr all l (trs++[tr])) (H7 F' dst v) H' fs1 q)→Snd (K0 C) m (vWk C.G (.dr all (⟨dst,op,ty,pos,after,guard⟩::l) trs)) (vVs C.G F') (vHp C.G H) Q:=by
          intro tr v H' fs1 hst hrec
          have:=ih m (.dr all l (trs++[tr])) _ _ _ _ _ _ _ hq trivial hrec
          rw [U2] at this;obtain ⟨trs',F1,H1,g1,g2,g3⟩:=this;exact ⟨Tk C.G tr::trs',F1,H1,.cons hst g1,by simpa using g2,g3⟩
        rcases h with ⟨hw,h⟩ | ⟨hw,h⟩
        · unfold Km at h;rw [hP] at h;split at h
          · rename_i hk;obtain ⟨c,v,h1,h2,h3⟩:=Dj h;refine go (tr:=⟨.still,H.length,[]⟩) ?_ h3
            have:=St.pure (K:=K0 C) (all:=all) (o:=⟨dst,op,ty,pos,after,guard⟩) (H:=vHp C.G H) hw hk (aI _ _ h1 h2)
            rw [C6] at this;exact this
          · rename_i hk
            obtain ⟨fs2,v,h1,h3⟩:∃ fs2 v,H8 C (vVs C.G F') (vHp C.G H) op=some (true,vV C.G v)∧vT C.G QQ RR (dx K n m (.dr all l (trs++[⟨(match Mn F' op with | some r=>.read r | none=>.still),H.length,[]⟩])) (H7 F' dst v) H fs2 q):=by
              split at h
              · rename_i o ho;exact bF hG (o:=o) ho h
              · obtain ⟨c,v,h1,h2,h3⟩:=Dj h;exact ⟨_,v,aD hG _ _ h1 h2,h3⟩
            refine go ?_ h3
            have:=St.read (K:=K0 C) (all:=all) (o:=⟨dst,op,ty,pos,after,guard⟩) (H:=vHp C.G H) hw hk h1
            rw [C6] at this;refine cast (congrArg (fun tr=>St (K0 C) all ⟨dst,op,ty,pos,after,guard⟩ (vVs C.G F') (vHp C.G H) tr (vV C.G v) (vHp C.G H)) ?_) this;simp only [Tk,List.map_nil];congr 1;rw [mA];cases Mn F' op<;>simp only [Option.map_some,Option.map_none,hJ]
          · rename_i hk;split at h
            · rename_i c v x hx;obtain ⟨h2,h3⟩:=P8 c h;refine go ?_ h3
              have:=St.write (K:=K0 C) (all:=all) (o:=⟨dst,op,ty,pos,after,guard⟩) hw hk (Vs hG _ _ _ hx h2)
              rw [C6,←Of] at this;exact this
            · exact h.elim
          · rename_i hk;split at h
            · rename_i f args hc;have hc:=bJ (G:=C.G) hc
              have fin:∀ {o:Outs} {fs1:Facts},X3 C.G (G9 C f args H) o→vT C.G QQ RR (X1 fs1 o fun fs v hs=>dx K n m (.dr all l (trs++[⟨.write,H.length,hs⟩])) (H7 F' dst v) (Dg H hs) fs q)→
                  Snd (K0 C) m (vWk C.G (.dr all (⟨dst,op,ty,pos,after,guard⟩::l) trs)) (vVs C.G F') (vHp C.G H) Q:=by
                intro o fs1 ho ht;obtain ⟨fs2,v,hs,h1,h2⟩:=S3 o fs1 ht ho;refine go ?_ h2
                have:=St.call (K:=K0 C) (all:=all) (o:=⟨dst,op,ty,pos,after,guard⟩) hw hk hc h1
                rw [C6,←At] at this;exact this
              split at h
              · rename_i hi;split at h
                · rename_i fn hfn;split at h
                  · rename_i c hb;split at h
                    · exact h.elim
                    · rename_i hnm;split at h
                      · rename_i o ho;refine fin (Mu _ _ ho (fun hr=>?_) fun R hR=>?_) h
                        · refine dx_ro n _ (.code c) _ _ _ _ hr fun e F fs=>?_;unfold He;split
                          · trivial
                          · exact Ih fun v=>rfl
                        · refine acalls_of (f:=f) (C:=C) (fn:=fn) hfn hb hnm fun r hr ρ a w hH hF=>?_
                          have:=ih H.length (.code c) (Ab fn args) H fs' _ (M6 C fn R) (fun _ _ _=>False) R (fun e F1 H1 fs1 ht=>by
                            unfold He at ht;split at ht
                            · exact ht.elim
                            · rename_i hne;obtain ⟨cc,v,q1,q2,q3⟩:=Dj ht;have e1:=Pp hG _ _ q1 q2;cases e with
                              | exit i=>exact absurd rfl (hne i)
                              | normal=>simp only [M6];rw [e1];exact q3
                              | ret=>simp only [M6];rw [e1];exact q3) (fun b hb'=>hK.inl f fn c hi hfn hb b hb') hR
                          rw [Js,←C6 (G:=C.G) H] at this;exact this r hr ρ a w (Nat.le_refl _) hH hF
                      · exact h.elim
                  · exact h.elim
                · exact h.elim
              · split at h
                · rename_i o ho;exact fin (hK.calls _ _ _ _ ho) h
                · exact h.elim
            · split at h
              · rename_i i args hy;have hy:=dW (G:=C.G) hy;split at h
                · rename_i o ho;obtain ⟨fs2,v,hs,h1,h2⟩:=S3 o fs' h (hK.ylds _ _ _ _ ho);refine go ?_ h2
                  have:=St.yld (K:=K0 C) (all:=all) (o:=⟨dst,op,ty,pos,after,guard⟩) hw hy h1
                  rw [C6,←At] at this;exact this
                · exact h.elim
              · exact h.elim
        · refine go (tr:=⟨.still,H.length,[]⟩) (v:=.tup []) ?_ h
          have:=St.skip (K:=K0 C) (all:=all) (o:=⟨dst,op,ty,pos,after,guard⟩) (H:=vHp C.G H) hw
          rw [C6] at this;simp only [vV,vVs];exact this
    | code c=>
      change vT C.G QQ RR (W4 K (dx K n) m c F H fs q) at h;intro r hr ρ a w hm hH hF;have here:∀ ae,Q ae (vVs C.G F) (vHp C.G H)→AP C m ρ w Q (Ph ae) a w:=fun ae hq=>⟨ae,ρ,_,_,rfl,hq,P7.refl m ρ,hH,hF,Frm.refl ρ w⟩;cases c with
      | skip=>exact wpIn_skip (here .normal (hq _ _ _ _ h))
      | region id ops draw=>
        cases draw with
        | true=>
          obtain ⟨trs',F',H',g1,g2,g3⟩:=ih m (.dr ops.toList ops.toList []) F H fs q Q QQ RR hq trivial h
          have:=Qz (id:=id) (r:=r) (Q:=AP C m ρ w Q) (lps:=lps) g0 g1 (by simpa using g2) hH hF fun ρ' a' w' q1 q2 q3 q4=>⟨.normal,ρ',F',H',rfl,g3,P7.of_le hH q3 hm,q1,q2,q4⟩
          rwa [Array.toArray_toList] at this
        | false=>
          have:=ih m (.ops ops.toList ops.toList) F H fs q Q QQ RR hq trivial h r ρ a w hm hH hF
          rw [Array.toArray_toList] at this;exact wpIn_region_list this
      | seq x y=>
        have hx:LpD K lps (.code x):=fun b hb=>hlp b (List.mem_append.2 (.inl hb));have hy:LpD K lps (.code y):=fun b hb=>hlp b (List.mem_append.2 (.inr hb))
        have key:=ih m (.code x) F H fs (bV (dx K n) m y q) (fun e F1 H1=>match e with
          | .normal=>∀ ρ' a' w',m≤H1.length→A4 C ρ' H1 w'→D6 ρ' F1 a'→y.wpIn (W r) 0 C.P (AP C m ρ' w' Q) a' w'
          | e=>Q e F1 H1) QQ RR (fun e F1 H1 fs1 ht=>by
            cases e with
            | normal=>exact fun ρ' a' w' q1 q2 q3=>ih m (.code y) F1 H1 fs1 q Q QQ RR hq hy ht r (Mv hr).2 ρ' a' w' q1 q2 q3
            | exit i=>exact hq _ _ _ _ ht
            | ret=>exact hq _ _ _ _ ht) hx h r (Mv hr).1 ρ a w hm hH hF
        refine wpIn_seq (Code.wpIn_mono ?_ key);rintro e a' w' ⟨ae,ρ',F',H',rfl,h2,h3,h4,h5,h6⟩;cases ae with
        | normal=>exact Code.wpIn_mono (fun e a w h=>AP.link h3 h6 h) (h2 ρ' a' w' (U8 hm hH h4 h3) h4 h5)
        | exit i=>exact ⟨.exit i,ρ',F',H',rfl,h2,h3,h4,h5,h6⟩
        | ret=>exact ⟨.ret,ρ',F',H',rfl,h2,h3,h4,h5,h6⟩
      | cond c x y=>
        have hx:LpD K lps (.code x):=fun b hb=>hlp b (List.mem_append.2 (.inl hb));have hy:LpD K lps (.code y):=fun b hb=>hlp b (List.mem_append.2 (.inr hb));simp only [W4,Kn] at h;split at h
        · rename_i t;rw [Cn] at h;split at h
          · rename_i b hb;have hv:=hF.at t;rw [V8,hb] at hv;simp only [vV,VR] at hv
            have hs:∀ x:Bool,vB C.G b=x→vVs C.G (H7 F (some t) (.bool (.lit x)))=vVs C.G F:=fun x hx=>by
              rw [U2];simp only [put,vV,vB];refine R2 ?_ (by simp);rw [V8,hb];simp only [vV,hx]
            rcases S2 b fs _ _ h with ⟨h1,fs1,_,h2⟩ | ⟨h1,fs1,_,h2⟩
            · rw [h1] at hv
              have:=ih m (.code x) _ H fs1 q Q QQ RR hq hx h2 r (X2 hr).1 ρ a w hm hH
              rw [hs _ h1] at this;exact wpIn_cond_true hv (this hF)
            · rw [h1] at hv
              have:=ih m (.code y) _ H fs1 q Q QQ RR hq hy h2 r (X2 hr).2 ρ a w hm hH
              rw [hs _ h1] at this;exact wpIn_cond_false hv (this hF)
          · exact h.elim
        · rename_i b;cases b with
          | true=>exact wpIn_cond_true rfl (ih m (.code x) F H fs q Q QQ RR hq hx h r (X2 hr).1 ρ a w hm hH hF)
          | false=>exact wpIn_cond_false rfl (ih m (.code y) F H fs q Q QQ RR hq hy h r (X2 hr).2 ρ a w hm hH hF)
        · exact h.elim
      | block id c=>
        have key:=ih m (.code c) F H fs (Rg id q) (Ds id Q) QQ RR (fun e F1 H1 fs1 ht=>by
          cases e with
          | normal=>exact hq _ _ _ _ ht
          | ret=>exact hq _ _ _ _ ht
          | exit i=>
            simp only [Rg] at ht;simp only [Ds];cases hb:(i==id) with
            | true=>rw [hb] at ht;exact hq _ _ _ _ ht
            | false=>rw [hb] at ht;exact hq _ _ _ _ ht) (fun b hb=>hlp b hb) h r (Ua hr) ρ a w hm hH hF
        refine wpIn_block (Code.wpIn_mono ?_ key);rintro e a' w' ⟨ae,ρ',F',H',rfl,h2,h3⟩;cases ae with
        | normal=>exact ⟨.normal,ρ',F',H',rfl,h2,h3⟩
        | ret=>exact ⟨.ret,ρ',F',H',rfl,h2,h3⟩
        | exit i=>
          simp only [Ds] at h2;show (if i=id then AP C m ρ w Q .normal a' w' else AP C m ρ w Q (.exit i) a' w');split at h2
          · rename_i hi;rw [if_pos (by simpa using hi)];exact ⟨.normal,ρ',F',H',rfl,h2,h3⟩
          · rename_i hi;rw [if_neg (by simpa using hi)];exact ⟨.exit i,ρ',F',H',rfl,h2,h3⟩
      | loop c=>
        simp only [W4] at h;split at h
        · rename_i hm';split at h
          · rename_i o ho;have hmem:c∈lps:=hlp c (List.mem_cons_self ..);exact hK.loops m c F H o (Nat.le_of_ble_eq_true hm') hmem ho fs.n Q (F6 (fun e F' H' ⟨fs',ht⟩=>hq _ _ _ _ ht) o fs.n (K9 o fs h)) r hr ρ a w hH hF
          · exact h.elim
        · exact h.elim
      | rangeFunc g ps as bd=>
        simp only [W4] at h;split at h
        · rename_i hm';split at h
          · rename_i o ho;have hmem:Code.rangeFunc g ps as bd∈lps:=hlp _ (List.mem_cons_self ..);exact hK.rngs m _ F H o (Nat.le_of_ble_eq_true hm') hmem ho fs.n Q (F6 (fun e F' H' ⟨fs',ht⟩=>hq _ _ _ _ ht) o fs.n (K9 o fs h)) r hr ρ a w hH hF
          · exact h.elim
        · exact h.elim
      | exit i=>exact wpIn_exit (here (.exit i) (hq _ _ _ _ h))
      | scope c=>
        refine Bu (Code.wpIn_mono ?_ (ih m (.code c) F H fs q Q QQ RR hq (fun b hb=>hlp b hb) h r (Tz hr) ρ a w hm hH hF));rintro e a' w' h;obtain ⟨ae,ρ',F',H',rfl,h2⟩:=h;cases ae with
        | normal=>exact ⟨.normal,ρ',F',H',rfl,h2⟩
        | ret=>exact ⟨.ret,ρ',F',H',rfl,h2⟩
        | exit i=>exact ⟨.exit i,ρ',F',H',rfl,h2⟩
      | label i=>exact wpIn_label (here .normal (hq _ _ _ _ h))
      | ret=>exact wpIn_ret (here .ret (hq _ _ _ _ h))
      | _=>exact h.elim
end Go.Am
namespace Go.Am
variable {C:A1}
def f0 (n:Nat):Facts:=⟨n,[]⟩
noncomputable def H5 (K:DCfg) (fuel n0:Nat) (fn:Func) (args:List EV) (H:DHp) (keep:Nat):T:=
 dx K fuel H.length (.code (E3 fn)) (Ab fn args) H (f0 n0) (He K.P fn fun v H' _=>.ret v (H'.take keep))
noncomputable def dlaw (K:DCfg) (fuel n0:Nat) (fn:Func) (args:List EV) (H:DHp):T:=
 dx K fuel H.length (.code (E3 fn)) (Ab fn args) H (f0 n0) (He K.P fn fun v _ _=>.ret v [])
def Wm (live:List Nat) (F:DFr):List EV:=live.map fun i=>F.getD i .undef
def flD (N:Nat) (live:List Nat) (vs:List EV):DFr:=(List.range N).map fun i=>(((live.zip vs).find? fun p=>Nat.beq p.1 i).map (·.2)).getD .undef
def finL (N:Nat) (live:List Nat):DK:=fun e F H _=>match Nat.beq F.length N with
 | true=>.leaf e (Wm live F) H
 | false=>.fail
noncomputable def I0 (K:DCfg) (fuel n0 m:Nat) (c:Code) (N:Nat) (live:List Nat) (vs:List EV) (H:DHp):T:=
 dx K fuel m (.code c) (flD N live vs) H (f0 n0) (finL N live)
theorem Vu {G:Nat→List AV} (N:Nat) (live:List Nat) (vs:List EV):vVs G (flD N live vs)=fl N live (vVs G vs):=by
 unfold flD fl fr;rw [L2,List.map_map];refine List.map_congr_left fun i _=>?_;simp only [Function.comp]
 induction live generalizing vs with
 | nil=>simp [vV]
 | cons x live ih=>
  cases vs with
  | nil=>simp [vV,vVs]
  | cons v vs=>
   simp only [vVs,List.zip_cons_cons,List.find?_cons];split
   ·rename_i h;simp only [Option.map_some,Option.getD_some]
   ·rename_i h;exact ih vs
theorem Vt {G:Nat→List AV} (live:List Nat) (F:DFr):vVs G (Wm live F)=rdF live (vVs G F):=by
 unfold Wm rdF;rw [L2,List.map_map];refine List.map_congr_left fun i _=>?_;simp only [Function.comp,V8]
theorem B8 {K : DCfg} {fuel n0 : Nat} {f : FuncId} {fn : Func} {args : List EV} {H : DHp} {keep : Nat} {R : AV → Hp → Prop} (hK : Y7 C K (A3 (E3 fn))) (hf : C.P.funcs[f]? = some fn) (hb : fn.body = some (E3 fn)) (hn : (fn.name == "runtime.NumGoroutine") = false)
  (h:vT C.G (fun _ _ _=>False) R (H5 K fuel n0 fn args H keep)):ACalls C f (vVs C.G args) (vHp C.G H) fun v H'=>R v (H'.take keep):=by
 refine acalls_of hf hb hn fun r hr ρ a w hH hF=>?_
 have:=Ox hK fuel H.length (.code (E3 fn)) (Ab fn args) H (f0 n0) _ (M6 C fn fun v H'=>R v (H'.take keep)) (fun _ _ _=>False) R (fun e F1 H1 fs1 ht=>by
  unfold He at ht;split at ht
  ·exact ht.elim
  ·rename_i hne;obtain ⟨cc,v,q1,q2,q3⟩:=Dj ht;rw [hK.hP] at q1;have e1:=Pp rfl _ _ q1 q2;have e2:vHp C.G (H1.take keep)=(vHp C.G H1).take keep:=by simp only [vHp,List.map_take]
   simp only [vT,e2] at q3;cases e with
   | exit i=>exact absurd rfl (hne i)
   | normal=>simp only [M6];rw [e1];exact q3
   | ret=>simp only [M6];rw [e1];exact q3) (fun b hb=>hb) h
 simp only [vWk,Js] at this
 have:=this r hr ρ a w (by simp [C6]) hH hF
 rw [←C6 (G:=C.G) H] at this;exact this
theorem bI {K : DCfg} {fuel n0 : Nat} {f : FuncId} {fn : Func} {args : List EV} {H : DHp} {R : AV → Hp → Prop} (hK : Y7 C K (A3 (E3 fn))) (hf : C.P.funcs[f]? = some fn) (hb : fn.body = some (E3 fn)) (hn : (fn.name == "runtime.NumGoroutine") = false)
  (h:vT C.G (fun _ _ _=>False) R (dlaw K fuel n0 fn args H)):ACalls C f (vVs C.G args) (vHp C.G H) fun v _=>R v []:=by
 refine acalls_of hf hb hn fun r hr ρ a w hH hF=>?_
 have:=Ox hK fuel H.length (.code (E3 fn)) (Ab fn args) H (f0 n0) _ (M6 C fn fun v H'=>R v []) (fun _ _ _=>False) R (fun e F1 H1 fs1 ht=>by
  unfold He at ht;split at ht
  ·exact ht.elim
  ·rename_i hne;obtain ⟨cc,v,q1,q2,q3⟩:=Dj ht;rw [hK.hP] at q1;have e1:=Pp rfl _ _ q1 q2;cases e with
   | exit i=>exact absurd rfl (hne i)
   | normal=>simp only [M6];rw [e1];exact q3
   | ret=>simp only [M6];rw [e1];exact q3) (fun b hb=>hb) h
 simp only [vWk,Js] at this
 have:=this r hr ρ a w (by simp [C6]) hH hF
 rw [←C6 (G:=C.G) H] at this;exact this
theorem C4 {K:DCfg} {fuel n0 m:Nat} {c:Code} {N:Nat} {live:List Nat} {vs:List EV} {H:DHp} {Q:Ex→List AV→Hp→Prop} (hK:Y7 C K (A3 c)) (hm:m≤H.length)
  (h:vT C.G Q (fun _ _=>False) (I0 K fuel n0 m c N live vs H)):C2 C m c (fl N live (vVs C.G vs)) (vHp C.G H) (lv N live Q):=by
 have:=Ox hK fuel m (.code c) (flD N live vs) H (f0 n0) _ (lv N live Q) Q (fun _ _=>False) (fun e F1 H1 fs1 ht=>by
  unfold finL at ht;split at ht
  ·rename_i hb;simp only [vT,Vt] at ht;simp only [lv,Q5,hb];exact ht
  ·exact ht.elim) (fun b hb=>hb) h
 rw [Vu] at this;exact fun r hr ρ a w hH hF=>this r hr ρ a w (by simpa [C6] using hm) hH hF
abbrev DSum:=List EV→DHp→Option Outs
def No:List (Nat×DSum)→FuncId→List EV→DHp→Option Outs
 | [],_,_,_=>none
 | (g,s)::l,f,args,H=>match Nat.beq g f with
  | true=>s args H
  | false=>No l f args H
def C9 (C:A1) (f:FuncId) (s:DSum):Prop:=∀ args H o,s args H=some o→X3 C.G (G9 C f args H) o
def Q3 (C:A1) (l:List (Nat×DSum)):Prop:=∀ f args H o,No l f args H=some o→X3 C.G (G9 C f args H) o
theorem Q3.nil:Q3 C []:=fun f args H o h=>by simp [No] at h
theorem Q3.cons {g:Nat} {s:DSum} {l:List (Nat×DSum)} (h:C9 C g s) (k:Q3 C l):Q3 C ((g,s)::l):=by
 intro f args H o ho;simp only [No] at ho;split at ho
 ·rename_i hg
  have:=Nat.eq_of_beq_eq_true hg
  subst this;exact h args H o ho
 ·exact k f args H o ho
abbrev DLoop:=List EV→DHp→Option LOut
def X5 (N:Nat) (live:List Nat):LOut→LOut
 | .one e vs H=>.one e (flD N live vs) H
 | .chk b x=>.chk b (X5 N live x)
 | .tst b x y=>.tst b (X5 N live x) (X5 N live y)
 | .imp b x=>.imp b (X5 N live x)
 | .allI k=>.allI fun x=>X5 N live (k x)
 | .allN k=>.allN fun x=>X5 N live (k x)
 | .allB k=>.allB fun x=>X5 N live (k x)
 | .allL k=>.allL fun x=>X5 N live (k x)
 | .namI e k=>.namI e fun x=>X5 N live (k x)
 | .namN e k=>.namN e fun x=>X5 N live (k x)
 | .namB e k=>.namB e fun x=>X5 N live (k x)
 | .namL e k=>.namL e fun x=>X5 N live (k x)
structure DL where
 ex:Nat
 N:Nat
 live:List Nat
 S:DLoop
def N7:List DL→Code→DFr→DHp→Option LOut
 | [],_,_,_=>none
 | d::l,c,F,H=>match Fp c with
  | some i=>match Nat.beq i d.ex with
   | true=>match Nat.beq F.length d.N with
    | true=>match d.S (Wm d.live F) H with
     | some o=>some (X5 d.N d.live o)
     | none=>none
    | false=>none
   | false=>N7 l c F H
  | none=>none
theorem H9 {G:Nat→List AV} {Q:Ex→DFr→DHp→Prop} {N:Nat} {live:List Nat}:∀ (o:LOut) (n:Nat),G2 G Q n (X5 N live o)→G2 G (fun e vs H=>Q e (flD N live vs) H) n o
 | .one e F H,n,h=>h
 | .chk b x,n,h=>⟨h.1,H9 x n h.2⟩
 | .tst b x y,n,h=>⟨fun hb=>H9 x n (h.1 hb),fun hb=>H9 y n (h.2 hb)⟩
 | .imp b x,n,h=>fun hb=>H9 x n (h hb)
 | .allI f,n,h=>fun x=>H9 (f (.var n x)) (n+1) (h x)
 | .allN f,n,h=>fun x=>H9 (f (.var n x)) (n+1) (h x)
 | .allB f,n,h=>fun x=>H9 (f (.var n x)) (n+1) (h x)
 | .allL f,n,h=>fun x=>H9 (f (.var n x)) (n+1) (h x)
 | .namI e f,n,h=>H9 (f (.var n _)) (n+1) h
 | .namN e f,n,h=>H9 (f (.var n _)) (n+1) h
 | .namB e f,n,h=>H9 (f (.var n _)) (n+1) h
 | .namL e f,n,h=>H9 (f (.var n _)) (n+1) h
def Lp (m:Nat) (Q:Ex→List AV→Hp→Prop) (e:Ex) (vs'':List AV) (H'':Hp):Prop:=(∃ vs',wk vs' vs''∧Q e vs' H'')∨∃ vs' H',B4 m vs' H' vs'' H''∧Q e vs' H'
def G4 (C:A1) (M:Nat) (c:Code) (d:DL):Prop:=
 ∀ m vs H o,m≤M→d.S vs H=some o→∀ n (Q:Ex→List AV→Hp→Prop),G2 C.G (fun e vs' H'=>Q e (vVs C.G vs') (vHp C.G H')) n o→
  C2 C m (.loop c) (fl d.N d.live (vVs C.G vs)) (vHp C.G H) (lv d.N d.live (Lp m Q))
def I6 (C:A1) (M:Nat) (cs:List Code) (ls:Code→DFr→DHp→Option LOut):Prop:=∀ m c F H o,m≤M→c∈cs→ls c F H=some o→∀ n (Q:Post),G2 C.G (fun e F' H'=>Q e (vVs C.G F') (vHp C.G H')) n o→C2 C m (.loop c) (vVs C.G F) (vHp C.G H) Q
theorem I6.nil {M:Nat} {ls:Code→DFr→DHp→Option LOut}:I6 C M [] ls:=fun m c F H o _ h=>by simp at h
theorem C2.wkd {m:Nat} {c:Code} {F:Fr} {H:Hp} {N:Nat} {live:List Nat} {Q:Ex→List AV→Hp→Prop} {Q':Post} (h:C2 C m c F H (lv N live (Lp m Q))) (hq:∀ e vs H',Q e vs H'→Q' e (fl N live vs) H'):C2 C m c F H Q':=by
 intro r hr ρ a w hH hF;refine Code.wpIn_mono ?_ (h r hr ρ a w hH hF);rintro e a' w' ⟨ae,ρ',F',H',rfl,h2,h3,h4,h5,h6⟩;obtain ⟨h7,h8⟩:=Ap h2;have hN:F'.length=N:=Nat.eq_of_beq_eq_true h7;rcases h8 with ⟨vs',h8,h9⟩ | ⟨vs',H1,h8,h9⟩
 ·exact ⟨ae,ρ',_,H',rfl,hq _ _ _ h9,h3,h4,nU h5 hN h8,h6⟩
 ·obtain ⟨ρ2,g1,g2,g3,g4⟩:=h8.live (N:=N) (live:=live) h4 h5.nod (by rw [←h5.len,hN]) (by simp [rdF]) (fun j i v q1 q2=>by
   simp only [rdF,List.getElem?_map,q1,Option.map_some,Option.some.injEq] at q2;subst q2;by_cases hi:i<F'.length
   ·exact h5.val i _ (by simp [List.getD,hi])
   ·simp [List.getD,hi,VR])
  exact ⟨ae,ρ2,_,H1,rfl,hq _ _ _ h9,h3.trans g3,g1,g2,h6.trans g4⟩
def Gt (i:Nat):List DL→Option DL
 | []=>none
 | d::l=>match Nat.beq i d.ex with
  | true=>some d
  | false=>Gt i l
theorem Hj {c:Code} {F:DFr} {H:DHp} {o:LOut} {i:Nat} (he:Fp c=some i):∀ (l:List DL),N7 l c F H=some o→∃ d,Gt i l=some d∧F.length=d.N∧∃ o',d.S (Wm d.live F) H=some o'∧o=X5 d.N d.live o'
 | [],h=>by simp [N7] at h
 | d::l,h=>by
  simp only [N7,he] at h;simp only [Gt];split at h
  ·rename_i hi;split at h
   ·rename_i hN;split at h
    ·rename_i o' ho;simp at h;subst h;exact ⟨d,rfl,Nat.eq_of_beq_eq_true hN,o',ho,rfl⟩
    ·simp at h
   ·simp at h
  ·exact Hj he l h
theorem I6.cons {M:Nat} {c:Code} {cs:List Code} {l:List DL} {d:DL} {i:Nat} (he:Fp c=some i) (hp:Gt i l=some d) (h:G4 C M c d) (k:I6 C M cs (N7 l)):I6 C M (c::cs) (N7 l):=by
 intro m c' F H o hm hc ho n Q hQ;rcases List.mem_cons.1 hc with rfl | hc
 ·obtain ⟨d',h1,h2,o',h3,rfl⟩:=Hj he l ho;rw [hp] at h1;simp at h1;subst h1
  have:=h m _ _ _ hm h3 n (fun e vs H'=>Q e (fl d.N d.live vs) H') (by
   have:=H9 o' n hQ
   refine F6 (fun e vs H' hq=>?_) o' n this;rw [Vu] at hq
   exact hq)
  have:=this.wkd (Q':=Q) fun e vs H' h=>h
  intro r hr ρ a w hH hF;refine this r hr ρ a w hH ?_
  have:=Pq (live:=d.live) (N:=d.N) hF (by rw [Q5];exact h2)
  rw [Vt];exact this
 ·exact k m c' F H o hm hc ho n Q hQ
theorem I6.cast {M:Nat} {cs ds:List Code} {ls:Code→DFr→DHp→Option LOut} (h:I6 C M ds ls) (e:cs=ds):I6 C M cs ls:=by rw [e];exact h
theorem B4.pin {m m':Nat} (hm:m'≤m) {F F':Fr} {H H':Hp} (h:B4 m F H F' H'):B4 m' F H F' H':=by
 obtain ⟨θ,g1,g2,g3,g4⟩:=h.ex;exact ⟨θ,g1,by omega,fun i hi=>g3 i (by omega),g4⟩
theorem Lp.pin {m m':Nat} (hm:m'≤m) {Q:Ex→List AV→Hp→Prop} {e:Ex} {vs:List AV} {H:Hp} (h:Lp m Q e vs H):Lp m' Q e vs H:=by
 rcases h with h | ⟨vs',H',h1,h2⟩
 ·exact .inl h
 ·exact .inr ⟨vs',H',h1.pin hm,h2⟩
def Tf (C:A1) (M:Nat) (c:Code) (d:DL):Prop:=
 ∀ m vs H o,m≤M→d.S vs H=some o→∀ n (Q:Ex→List AV→Hp→Prop),G2 C.G (fun e vs' H'=>Q e (vVs C.G vs') (vHp C.G H')) n o→
  C2 C m c (fl d.N d.live (vVs C.G vs)) (vHp C.G H) (lv d.N d.live (Lp m Q))
def cD:Code→Option Nat
 | .rangeFunc _ ps _ _=>some (ps.toList.headD 0)
 | _=>none
def Dd:List DL→Code→DFr→DHp→Option LOut
 | [],_,_,_=>none
 | d::l,c,F,H=>match cD c with
  | some i=>match Nat.beq i d.ex with
   | true=>match Nat.beq F.length d.N with
    | true=>match d.S (Wm d.live F) H with
     | some o=>some (X5 d.N d.live o)
     | none=>none
    | false=>none
   | false=>Dd l c F H
  | none=>none
def Ba (C:A1) (M:Nat) (cs:List Code) (ls:Code→DFr→DHp→Option LOut):Prop:=∀ m c F H o,m≤M→c∈cs→ls c F H=some o→∀ n (Q:Post),G2 C.G (fun e F' H'=>Q e (vVs C.G F') (vHp C.G H')) n o→C2 C m c (vVs C.G F) (vHp C.G H) Q
theorem Ba.none {M:Nat} {cs:List Code}:Ba C M cs (Dd []):=fun m c F H o _ _ h=>by simp [Dd] at h
theorem Ba.nil {M:Nat} {ls:Code→DFr→DHp→Option LOut}:Ba C M [] ls:=fun m c F H o _ h=>by simp at h
theorem Qy {c:Code} {F:DFr} {H:DHp} {o:LOut} {i:Nat} (he:cD c=some i):∀ (l:List DL),Dd l c F H=some o→∃ d,Gt i l=some d∧F.length=d.N∧∃ o',d.S (Wm d.live F) H=some o'∧o=X5 d.N d.live o'
 | [],h=>by simp [Dd] at h
 | d::l,h=>by
  simp only [Dd,he] at h;simp only [Gt];split at h
  ·rename_i hi;split at h
   ·rename_i hN;split at h
    ·rename_i o' ho;simp at h;subst h;exact ⟨d,rfl,Nat.eq_of_beq_eq_true hN,o',ho,rfl⟩
    ·simp at h
   ·simp at h
  ·exact Qy he l h
theorem Ba.cons {M:Nat} {c:Code} {cs:List Code} {l:List DL} {d:DL} {i:Nat} (he:cD c=some i) (hp:Gt i l=some d) (h:Tf C M c d) (k:Ba C M cs (Dd l)):Ba C M (c::cs) (Dd l):=by
 intro m c' F H o hm hc ho n Q hQ;rcases List.mem_cons.1 hc with rfl | hc
 ·obtain ⟨d',h1,h2,o',h3,rfl⟩:=Qy he l ho;rw [hp] at h1;simp at h1;subst h1
  have:=h m _ _ _ hm h3 n (fun e vs H'=>Q e (fl d.N d.live vs) H') (by
   have:=H9 o' n hQ
   refine F6 (fun e vs H' hq=>?_) o' n this;rw [Vu] at hq
   exact hq)
  have:=this.wkd (Q':=Q) fun e vs H' h=>h
  intro r hr ρ a w hH hF;refine this r hr ρ a w hH ?_
  have:=Pq (live:=d.live) (N:=d.N) hF (by rw [Q5];exact h2)
  rw [Vt];exact this
 ·exact k m c' F H o hm hc ho n Q hQ
theorem I6.skip {M:Nat} {c:Code} {cs:List Code} {l:List DL} (he:Fp c=Option.none) (k:I6 C M cs (N7 l)):I6 C M (c::cs) (N7 l):=by
 intro m c' F H o hm hc ho n Q hQ;rcases List.mem_cons.1 hc with rfl | hc
 ·cases l<;>simp [N7,he] at ho
 ·exact k m c' F H o hm hc ho n Q hQ
def Dc (P:Program) (inl:List Nat) (sums:List (Nat×DSum)) (ls:List DL) (M:Nat):DCfg:={ P:=P,inl:=Ue inl,sum:=No sums,loop:=N7 ls,M:=M }
theorem C8 {P:Program} {G:Nat→List AV} {B:Nat} {inl:List Nat} {sums:List (Nat×DSum)} {ls:List DL} {M:Nat} {cs:List Code} (hm:P.follows .mixedOrders=true) (hp:Hz P inl=true) (hs:Q3 ⟨P,G,B⟩ sums) (hl:I6 ⟨P,G,B⟩ M cs (N7 ls)) :
  Y7 ⟨P,G,B⟩ (Dc P inl sums ls M) cs:=
 ⟨rfl,hm,hs,hl,Ku hp,fun m c F H o _ _ h=>by simp [Dc] at h,fun i args H o h=>by simp [Dc] at h⟩
abbrev Df (P:Program) (fam:List (TypeId×Nat×Nat)) (inl:List Nat) (sums:List (Nat×DSum)) (ls:List DL) (M:Nat):DCfg:={ Dc P inl sums ls M with fam:=fun t=>(fam.find? fun x=>Nat.beq x.1 t).map (·.2) }
theorem gK {P:Program} {fam:List (TypeId×Nat×Nat)} {G:Nat→List AV} {B:Nat} {inl:List Nat} {sums:List (Nat×DSum)} {ls:List DL} {M:Nat} {cs:List Code} (hm:P.follows .mixedOrders=true) (hp:Hz P inl=true) (hs:Q3 ⟨P,G,B⟩ sums) (hl:I6 ⟨P,G,B⟩ M cs (N7 ls)) :
  Y7 ⟨P,G,B⟩ (Df P fam inl sums ls M) cs:=
 ⟨rfl,hm,hs,hl,Ku hp,fun m c F H o _ _ h=>by simp [Df,Dc] at h,fun i args H o h=>by simp [Df,Dc] at h⟩
abbrev DYsum:=Nat→List EV→DHp→Option Outs
def Fa (C:A1) (y:DYsum):Prop:=∀ i args H o,y i args H=some o→X3 C.G (dV C i args H) o
def noY:DYsum:=fun _ _ _=>none
theorem Kz:Fa C noY:=fun i args H o h=>by simp [noY] at h
def Dr (P:Program) (inl:List Nat) (sums:List (Nat×DSum)) (ls rs:List DL) (y:DYsum) (M:Nat):DCfg:={ P:=P,inl:=Ue inl,sum:=No sums,loop:=N7 ls,M:=M,rng:=Dd rs,ysum:=y }
theorem Bq {P:Program} {G:Nat→List AV} {B:Nat} {inl:List Nat} {sums:List (Nat×DSum)} {ls rs:List DL} {y:DYsum} {M:Nat} {cs:List Code} (hm:P.follows .mixedOrders=true) (hp:Hz P inl=true) (hs:Q3 ⟨P,G,B⟩ sums) (hl:I6 ⟨P,G,B⟩ M cs (N7 ls)) (hr:Ba ⟨P,G,B⟩ M cs (Dd rs)) (hy:Fa ⟨P,G,B⟩ y) :
  Y7 ⟨P,G,B⟩ (Dr P inl sums ls rs y M) cs:=
 ⟨rfl,hm,hs,hl,Ku hp,hr,hy⟩
end Go.Am
