/-
  Written terms: what the abstract machine over them says of values, and their values.
-/
import Derived.Test.YtopenjkaifbnmaaAmPin
namespace Go.Am

mutual
/-- whole numbers -/
inductive EI
  | lit (n : Int)
  | var (j : Nat) (x : Int)
  | bin (o : BinOp) (k : IntKind) (a b : EI)
  | conv (k : IntKind) (a : EI)
  | neg (k : IntKind) (a : EI)
  | cpl (k : IntKind) (a : EI)
  | ofN (n : EN)
  | mx (a b : EI)
  | mn (a b : EI)
  | get (l : EL) (o : EN)
  | uf (j : Nat) (f : List AV → Int) (as : List EV)
/-- counts -/
inductive EN
  | lit (n : Nat)
  | var (j : Nat) (x : Nat)
  | toN (a : EI)
  | add (a b : EN)
  | mul (a : EN) (z : Nat)
  | sub (a b : EN)
  | len (l : EL)
  | slen (s : ES)
  | rk (l : EL) (o : EN)
  | ro (l : EL) (o : EN)
  | rn (l : EL) (o : EN)
  | uf (j : Nat) (f : List AV → Nat) (as : List EV)
/-- truth values -/
inductive EB
  | lit (b : Bool)
  | var (j : Nat) (x : Bool)
  | cmp (o : BinOp) (a b : EI)
  | not (b : EB)
  | and (a b : EB)
  | eqB (a b : EB)
  | eqS (a b : ES)
  | isI (k : IntKind) (l : EL) (o : EN)
  | isB (l : EL) (o : EN)
  | isT (l : EL) (o : EN)
  | isR (l : EL) (o : EN)
  | get (l : EL) (o : EN)
  | leN (a b : EN)
  | eqN (a b : EN)
  | leaf (l : EL) (o : EN) (ls : List Lf)
  | u8s (l : EL)
  | cells (l : EL)
  | uf (j : Nat) (f : List AV → Bool) (as : List EV)
/-- texts -/
inductive ES
  | lit (s : List UInt8)
  | var (j : Nat) (x : List UInt8)
  | app (a b : ES)
  | sub (s : ES) (lo hi : EN)
  | get (l : EL) (o : EN)
  | ofL (l : EL)
  | uf (j : Nat) (f : List AV → List UInt8) (as : List EV)
/-- cells -/
inductive EL
  | of (cs : List EV)
  | var (j : Nat) (x : List AV)
  | ro (n : EN)
  | set (l : EL) (o : EN) (v : EV)
  | app (a b : EL)
  | sub (l : EL) (o n : EN)
  | bytes (s : ES)
  | rep (n : EN) (l : EL)
  | uf (j : Nat) (f : List AV → List AV) (as : List EV)
/-- values -/
inductive EV
  | undef
  | bool (b : EB)
  | int (k : IntKind) (n : EI)
  | str (s : ES)
  | nilp
  | ptr (r : ER) (o : EN)
  | nils
  | slice (mb : Bool) (r : ER) (o n : EN)
  | nilf
  | func (f : FuncId) (cap : List EV)
  | agg (l : EL)
  | tup (vs : List EV)
/-- places -/
inductive ER
  | rw (i : Nat)
  | ro (n : EN)
end

def binI (o : BinOp) (k : IntKind) (x y : Int) : Int :=
  match o with
  | .add => k.wrap (x + y)
  | .sub => k.wrap (x - y)
  | .mul => k.wrap (x * y)
  | .quo => k.wrap (x.tdiv y)
  | .rem => x.tmod y
  | .and => kAnd k x y
  | .or => kOr k x y
  | .xor => kXor k x y
  | .andNot => kAndNot k x y
  | .shl => kShl k x y
  | .shr => kShr k x y
  | _ => 0
def cmpI (o : BinOp) (x y : Int) : Bool :=
  match o with
  | .eql => x == y
  | .neq => x != y
  | .lss => decide (x < y)
  | .leq => decide (x ≤ y)
  | .gtr => decide (x > y)
  | .geq => decide (x ≥ y)
  | _ => false
def leB (x y : Nat) : Bool := decide (x ≤ y)
def u8s (cs : List AV) : Bool := cs.all isU8
def cellsB (cs : List AV) : Bool := cs.all isCell
def strL (cs : List AV) : List UInt8 := cs.map toByte
def bytesL (s : List UInt8) : List AV := s.map fun b => .int .u8 b.toNat
def subL (cs : List AV) (o n : Nat) : List AV := (cs.drop o).take n
def repL (n : Nat) (cs : List AV) : List AV := (List.replicate n cs).flatten

section
variable (G : Nat → List AV)
mutual
def vI : EI → Int
  | .lit n => n
  | .var _ x => x
  | .bin o k a b => binI o k (vI a) (vI b)
  | .conv k a => k.wrap (vI a)
  | .neg k a => k.wrap (0 - vI a)
  | .cpl k a => kNot k (vI a)
  | .ofN n => (vN n : Int)
  | .mx a b => if vI b > vI a then vI b else vI a
  | .mn a b => if vI b < vI a then vI b else vI a
  | .get l o => getI (vL l) (vN o)
  | .uf _ f as => f (vVs as)
termination_by structural x => x
def vN : EN → Nat
  | .lit n => n
  | .var _ x => x
  | .toN a => (vI a).toNat
  | .add a b => vN a + vN b
  | .mul a z => vN a * z
  | .sub a b => vN a - vN b
  | .len l => (vL l).length
  | .slen s => (vS s).length
  | .rk l o => roK (vL l) (vN o)
  | .ro l o => roO (vL l) (vN o)
  | .rn l o => roN (vL l) (vN o)
  | .uf _ f as => f (vVs as)
termination_by structural x => x
def vB : EB → Bool
  | .lit b => b
  | .var _ x => x
  | .cmp o a b => cmpI o (vI a) (vI b)
  | .not b => !(vB b)
  | .and a b => vB a && vB b
  | .eqB a b => vB a == vB b
  | .eqS a b => vS a == vS b
  | .isI k l o => isI k (vL l) (vN o)
  | .isB l o => isB (vL l) (vN o)
  | .isT l o => isStr (vL l) (vN o)
  | .isR l o => isRS (vL l) (vN o)
  | .get l o => getB (vL l) (vN o)
  | .leN a b => leB (vN a) (vN b)
  | .eqN a b => Nat.beq (vN a) (vN b)
  | .leaf l o ls => leafsOk (vL l) (vN o) ls
  | .u8s l => u8s (vL l)
  | .cells l => cellsB (vL l)
  | .uf _ f as => f (vVs as)
termination_by structural x => x
def vS : ES → List UInt8
  | .lit s => s
  | .var _ x => x
  | .app a b => vS a ++ vS b
  | .sub s lo hi => ((vS s).take (vN hi)).drop (vN lo)
  | .get l o => getStr (vL l) (vN o)
  | .ofL l => strL (vL l)
  | .uf _ f as => f (vVs as)
termination_by structural x => x
def vL : EL → List AV
  | .of cs => vVs cs
  | .var _ x => x
  | .ro n => G (vN n)
  | .set l o v => setPart (vL l) (vN o) (vV v)
  | .app a b => vL a ++ vL b
  | .sub l o n => subL (vL l) (vN o) (vN n)
  | .bytes s => bytesL (vS s)
  | .rep n l => repL (vN n) (vL l)
  | .uf _ f as => f (vVs as)
termination_by structural x => x
def vV : EV → AV
  | .undef => .undef
  | .bool b => .bool (vB b)
  | .int k n => .int k (vI n)
  | .str s => .str (vS s)
  | .nilp => .nilp
  | .ptr r o => .ptr (vR r) (vN o)
  | .nils => .nils
  | .slice mb r o n => .slice mb (vR r) (vN o) (vN n)
  | .nilf => .nilf
  | .func f cap => .func f (vVs cap)
  | .agg l => .agg (vL l)
  | .tup vs => .tup (vVs vs)
termination_by structural x => x
def vVs : List EV → List AV
  | [] => []
  | x :: l => vV x :: vVs l
termination_by structural x => x
def vR : ER → Ref
  | .rw i => .rw i
  | .ro n => .ro (vN n)
termination_by structural x => x
end
end

/-! Are two written terms the same? (Nothing hangs on it: what it says is owed.) -/
def eqO (a b : BinOp) : Bool := a == b
mutual
def eqI : EI → EI → Bool
  | .lit a, .lit b => a == b
  | .var j _, .var i _ => Nat.beq j i
  | .bin o k a b, .bin o' k' a' b' => o == o' && (k == k' && (eqI a a' && eqI b b'))
  | .conv k a, .conv k' a' => k == k' && eqI a a'
  | .neg k a, .neg k' a' => k == k' && eqI a a'
  | .cpl k a, .cpl k' a' => k == k' && eqI a a'
  | .ofN a, .ofN b => eqN a b
  | .mx a b, .mx a' b' => eqI a a' && eqI b b'
  | .mn a b, .mn a' b' => eqI a a' && eqI b b'
  | .get l o, .get l' o' => eqN o o' && eqL l l'
  | .uf j _ a, .uf j' _ a' => Nat.beq j j' && eqVs a a'
  | _, _ => false
termination_by structural x => x
def eqN : EN → EN → Bool
  | .lit a, .lit b => Nat.beq a b
  | .var j _, .var i _ => Nat.beq j i
  | .toN a, .toN b => eqI a b
  | .add a b, .add a' b' => eqN a a' && eqN b b'
  | .mul a z, .mul a' z' => Nat.beq z z' && eqN a a'
  | .sub a b, .sub a' b' => eqN a a' && eqN b b'
  | .len a, .len b => eqL a b
  | .slen a, .slen b => eqS a b
  | .rk l o, .rk l' o' => eqN o o' && eqL l l'
  | .ro l o, .ro l' o' => eqN o o' && eqL l l'
  | .rn l o, .rn l' o' => eqN o o' && eqL l l'
  | .uf j _ a, .uf j' _ a' => Nat.beq j j' && eqVs a a'
  | _, _ => false
termination_by structural x => x
def eqB : EB → EB → Bool
  | .lit a, .lit b => a == b
  | .var j _, .var i _ => Nat.beq j i
  | .cmp o a b, .cmp o' a' b' => o == o' && (eqI a a' && eqI b b')
  | .not a, .not b => eqB a b
  | .and a b, .and a' b' => eqB a a' && eqB b b'
  | .eqB a b, .eqB a' b' => eqB a a' && eqB b b'
  | .eqS a b, .eqS a' b' => eqS a a' && eqS b b'
  | .isI k l o, .isI k' l' o' => k == k' && (eqN o o' && eqL l l')
  | .isB l o, .isB l' o' => eqN o o' && eqL l l'
  | .isT l o, .isT l' o' => eqN o o' && eqL l l'
  | .isR l o, .isR l' o' => eqN o o' && eqL l l'
  | .get l o, .get l' o' => eqN o o' && eqL l l'
  | .leN a b, .leN a' b' => eqN a a' && eqN b b'
  | .eqN a b, .eqN a' b' => eqN a a' && eqN b b'
  | .leaf l o _, .leaf l' o' _ => eqN o o' && eqL l l'
  | .u8s l, .u8s l' => eqL l l'
  | .cells l, .cells l' => eqL l l'
  | .uf j _ a, .uf j' _ a' => Nat.beq j j' && eqVs a a'
  | _, _ => false
termination_by structural x => x
def eqS : ES → ES → Bool
  | .lit a, .lit b => a == b
  | .var j _, .var i _ => Nat.beq j i
  | .app a b, .app a' b' => eqS a a' && eqS b b'
  | .sub s l h, .sub s' l' h' => eqS s s' && (eqN l l' && eqN h h')
  | .get l o, .get l' o' => eqN o o' && eqL l l'
  | .ofL l, .ofL l' => eqL l l'
  | .uf j _ a, .uf j' _ a' => Nat.beq j j' && eqVs a a'
  | _, _ => false
termination_by structural x => x
def eqL : EL → EL → Bool
  | .of a, .of b => eqVs a b
  | .var j _, .var i _ => Nat.beq j i
  | .ro a, .ro b => eqN a b
  | .set l o v, .set l' o' v' => eqN o o' && (eqV' v v' && eqL l l')
  | .app a b, .app a' b' => eqL a a' && eqL b b'
  | .sub l a b, .sub l' a' b' => eqL l l' && (eqN a a' && eqN b b')
  | .bytes a, .bytes b => eqS a b
  | .rep n l, .rep n' l' => eqN n n' && eqL l l'
  | .uf j _ a, .uf j' _ a' => Nat.beq j j' && eqVs a a'
  | _, _ => false
termination_by structural x => x
def eqV' : EV → EV → Bool
  | .undef, .undef => true
  | .bool a, .bool b => eqB a b
  | .int k a, .int k' b => k == k' && eqI a b
  | .str a, .str b => eqS a b
  | .nilp, .nilp => true
  | .ptr r o, .ptr r' o' => eqR r r' && eqN o o'
  | .nils, .nils => true
  | .slice _ r o n, .slice _ r' o' n' => eqR r r' && (eqN o o' && eqN n n')
  | .nilf, .nilf => true
  | .func f c, .func f' c' => Nat.beq f f' && eqVs c c'
  | .agg a, .agg b => eqL a b
  | .tup a, .tup b => eqVs a b
  | _, _ => false
termination_by structural x => x
def eqVs : List EV → List EV → Bool
  | [], [] => true
  | x :: l, y :: m => eqV' x y && eqVs l m
  | _, _ => false
termination_by structural x => x
def eqR : ER → ER → Bool
  | .rw i, .rw j => Nat.beq i j
  | .ro a, .ro b => eqN a b
  | _, _ => false
termination_by structural x => x
end

/-! Terms in a short form -/
def mkAnd (a b : EB) : EB :=
  match a with
  | .lit true => b
  | .lit false => .lit false
  | a => match b with
    | .lit true => a
    | .lit false => .lit false
    | b => .and a b
def mkNot : EB → EB
  | .lit b => .lit (!b)
  | .not b => b
  | b => .not b
def mkEqB (a b : EB) : EB :=
  match a, b with
  | .lit true, b => b
  | .lit false, b => mkNot b
  | a, .lit true => a
  | a, .lit false => mkNot a
  | a, b => .eqB a b
def mkCmp (o : BinOp) (a b : EI) : EB :=
  match a, b with
  | .lit x, .lit y => .lit (cmpI o x y)
  | a, b => .cmp o a b
def mkBin (o : BinOp) (k : IntKind) (a b : EI) : EI :=
  match a, b with
  | .lit x, .lit y => .lit (binI o k x y)
  | a, b => .bin o k a b
def mkConv (k : IntKind) : EI → EI
  | .lit x => .lit (k.wrap x)
  | a => .conv k a
def mkNeg (k : IntKind) : EI → EI
  | .lit x => .lit (k.wrap (0 - x))
  | a => .neg k a
def mkCpl (k : IntKind) : EI → EI
  | .lit x => .lit (kNot k x)
  | a => .cpl k a
def mkOfN : EN → EI
  | .lit n => .lit n
  | n => .ofN n
def mkToN : EI → EN
  | .lit n => .lit n.toNat
  | .ofN n => n
  | a => .toN a
def mkAdd (a b : EN) : EN :=
  match a, b with
  | .lit x, .lit y => .lit (x + y)
  | a, .lit 0 => a
  | .lit 0, b => b
  | .add a (.lit x), .lit y => .add a (.lit (x + y))
  | a, b => .add a b
def mkMul (a : EN) (z : Nat) : EN :=
  match z with
  | 1 => a
  | z => match a with
    | .lit x => .lit (x * z)
    | a => .mul a z
def mkSub (a b : EN) : EN :=
  match a, b with
  | .lit x, .lit y => .lit (x - y)
  | a, .lit 0 => a
  | a, b => .sub a b
def mkLe (a b : EN) : EB :=
  match a, b with
  | .lit x, .lit y => .lit (Nat.ble x y)
  | .lit 0, _ => .lit true
  | a, b => .leN a b
def mkEqN (a b : EN) : EB :=
  match a, b with
  | .lit x, .lit y => .lit (Nat.beq x y)
  | a, b => .eqN a b
def mkEqS (a b : ES) : EB :=
  match a, b with
  | .lit x, .lit y => .lit (x == y)
  | a, b => .eqS a b
def mkApp (a b : ES) : ES :=
  match a, b with
  | .lit x, .lit y => .lit (x ++ y)
  | .lit [], b => b
  | a, .lit [] => a
  | a, b => .app a b
/-- how many cells there are -/
def mkLen : EL → EN
  | .of cs => .lit cs.length
  | .bytes s => .slen s
  | .sub l o n => .len (.sub l o n)
  | l => .len l
def isAggV : EV → Bool
  | .agg _ => true
  | _ => false
/-- a part is laid -/
def mkSet (l : EL) (o : EN) (v : EV) : EL :=
  match l, o with
  | .of cs, .lit n => match v with
    | .agg (.of ds) => .of (cs.take n ++ (ds ++ cs.drop (n + ds.length)))
    | .agg d => .set (.of cs) (.lit n) (.agg d)
    | v => .of (cs.set n v)
  | l, o => .set l o v
def mkSubL (l : EL) (o n : EN) : EL :=
  match l, o, n with
  | .of cs, .lit a, .lit b => .of ((cs.drop a).take b)
  | l, o, n => .sub l o n
def mkAppL (a b : EL) : EL :=
  match a, b with
  | .of cs, .of ds => .of (cs ++ ds)
  | .of [], b => b
  | a, .of [] => a
  | a, b => .app a b
def mkBytes : ES → EL
  | .lit s => .of (s.map fun b => .int .u8 (.lit b.toNat))
  | s => .bytes s
def mkRep (n : EN) (l : EL) : EL :=
  match n, l with
  | .lit k, .of cs => .of ((List.replicate k cs).flatten)
  | n, l => .rep n l

def litN : EN → Option Nat
  | .lit n => some n
  | _ => none
/-- a cell, where it is known -/
def rdAny : EL → Nat → Option (EB × EV)
  | .of cs, n => match cs[n]? with
    | some v => some (.lit true, v)
    | none => none
  | .set l o v, n => match litN o, isAggV v with
    | some m, false => match Nat.beq m n with
      | true => some (mkLe (.lit (n + 1)) (mkLen l), v)
      | false => rdAny l n
    | _, _ => none
  | _, _ => none
/-- an integer cell -/
def rdI (k : IntKind) (l : EL) (o : EN) : Option (EB × EI) :=
  match litN o with
  | some n => match rdAny l n with
    | some (c, .int k' e) => if k = k' then some (c, e) else none
    | some _ => none
    | none => some (.isI k l o, .get l o)
  | none => some (.isI k l o, .get l o)
def rdB (l : EL) (o : EN) : Option (EB × EB) :=
  match litN o with
  | some n => match rdAny l n with
    | some (c, .bool e) => some (c, e)
    | some _ => none
    | none => some (.isB l o, .get l o)
  | none => some (.isB l o, .get l o)
end Go.Am
