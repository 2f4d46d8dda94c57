/-
  The machine over written terms: a piece of code becomes a tree.
-/
import Derived.Test.YtopenjkaifbnmaaAmDeep
namespace Go.Am

structure DBlk where
  esz : Nat
  cells : EL
abbrev DHp := List (Option DBlk)
abbrev DFr := List EV
/-- what is known on the way, and the next name -/
structure Facts where
  n : Nat
  l : List (EB × Bool)

/-- what a piece of code does, written out -/
inductive T
  | fail
  | chk (b : EB) (t : T)
  | tst (b : EB) (x y : T)
  | imp (b : EB) (t : T)
  | allI (j : Nat) (k : Int → T)
  | allN (j : Nat) (k : Nat → T)
  | allB (j : Nat) (k : Bool → T)
  | allL (j : Nat) (k : List AV → T)
  | namI (j : Nat) (e : EI) (k : Int → T)
  | namN (j : Nat) (e : EN) (k : Nat → T)
  | namB (j : Nat) (e : EB) (k : Bool → T)
  | namL (j : Nat) (e : EL) (k : List AV → T)
  | leaf (e : Ex) (F : List EV) (H : DHp)
  | ret (v : EV) (H : DHp)

inductive DHop
  | set (i : Nat) (b : DBlk)
  | new (b : DBlk)
  | app (j : Nat) (b : DBlk)
def DHop.act (H : DHp) : DHop → DHp
  | .set i b => H.set i (some b)
  | .new b => H ++ [some b]
  | .app j b => H.set j none ++ [some b]
def dacts (H : DHp) : List DHop → DHp
  | [] => H
  | h :: hs => dacts (h.act H) hs

/-- what a call comes to -/
inductive Outs
  | one (v : EV) (hs : List DHop)
  | chk (b : EB) (x : Outs)
  | tst (b : EB) (x y : Outs)
  | namI (e : EI) (k : EI → Outs)
  | namN (e : EN) (k : EN → Outs)
  | namB (e : EB) (k : EB → Outs)
  | namL (e : EL) (k : EL → Outs)
/-- what a loop comes to -/
inductive LOut
  | one (e : Ex) (F : DFr) (H : DHp)
  | chk (b : EB) (x : LOut)
  | tst (b : EB) (x y : LOut)
  | imp (b : EB) (x : LOut)
  | allI (k : EI → LOut)
  | allN (k : EN → LOut)
  | allB (k : EB → LOut)
  | allL (k : EL → LOut)
  | namI (e : EI) (k : EI → LOut)
  | namN (e : EN) (k : EN → LOut)
  | namB (e : EB) (k : EB → LOut)
  | namL (e : EL) (k : EL → LOut)

/-! ### what is known on the way (nothing hangs on it: what it says is owed) -/
def nf : EB → EB × Bool
  | .not b => match nf b with | (b, s) => (b, !s)
  | .cmp .neq a b => (.cmp .eql a b, false)
  | .cmp .geq a b => (.cmp .lss a b, false)
  | .cmp .gtr a b => (.cmp .lss b a, true)
  | .cmp .leq a b => (.cmp .lss b a, false)
  | b => (b, true)
def look (b : EB) : List (EB × Bool) → Option Bool
  | [] => none
  | (c, v) :: fs => match eqB b c with
    | true => some v
    | false => look b fs
def maxO : Option Int → Int → Option Int
  | none, b => some b
  | some a, b => some (if a < b then b else a)
def minO : Option Int → Int → Option Int
  | none, b => some b
  | some a, b => some (if b < a then b else a)
/-- between what a number lies -/
def range (a : EI) : List (EB × Bool) → Option Int × Option Int
  | [] => match a with
    | .ofN _ => (some 0, none)
    | _ => (none, none)
  | (.cmp .eql b (.lit m), true) :: fs => match eqI a b with
    | true => (some m, some m)
    | false => range a fs
  | (.cmp .lss b (.lit m), v) :: fs => match eqI a b, v, range a fs with
    | true, true, (lo, hi) => (lo, minO hi (m - 1))
    | true, false, (lo, hi) => (maxO lo m, hi)
    | _, _, r => r
  | (.cmp .lss (.lit m) b, v) :: fs => match eqI a b, v, range a fs with
    | true, true, (lo, hi) => (maxO lo (m + 1), hi)
    | true, false, (lo, hi) => (lo, minO hi m)
    | _, _, r => r
  | _ :: fs => range a fs
def decR (o : BinOp) (r : Option Int × Option Int) (s : Option Int × Option Int) : Option Bool :=
  match o with
  | .lss => match r, s with
    | (lo, hi), (lo', hi') => match hi, lo' with
      | some a, some b => match decide (a < b), lo, hi' with
        | true, _, _ => some true
        | false, some c, some d => if d ≤ c then some false else none
        | false, _, _ => none
      | _, _ => match lo, hi' with
        | some c, some d => if d ≤ c then some false else none
        | _, _ => none
  | .eql => match r, s with
    | (lo, hi), (lo', hi') => match (match hi, lo' with | some a, some b => decide (a < b) | _, _ => false) || (match hi', lo with | some a, some b => decide (a < b) | _, _ => false) with
      | true => some false
      | false => match lo, hi, lo', hi' with
        | some a, some b, some c, some d => if a = b ∧ c = d ∧ a = c then some true else none
        | _, _, _, _ => none
  | _ => none
def rangeOf (fs : List (EB × Bool)) : EI → Option Int × Option Int
  | .lit n => (some n, some n)
  | a => range a fs
/-- another number it is known not to be -/
def notNum (a : EI) (n : Int) : List (EB × Bool) → Bool
  | [] => false
  | (.cmp .eql b (.lit m), false) :: fs => (eqI a b && m == n) || notNum a n fs
  | _ :: fs => notNum a n fs
def decN (fs : List (EB × Bool)) (b : EB) : Option Bool :=
  match look b fs with
  | some v => some v
  | none => match b with
    | .cmp .eql x y => match eqI x y with
      | true => some true
      | false => decR .eql (rangeOf fs x) (rangeOf fs y)
    | .cmp .lss x y => match eqI x y with
      | true => some false
      | false => decR .lss (rangeOf fs x) (rangeOf fs y)
    | .eqS x y => match eqS x y with
      | true => some true
      | false => none
    | .leN x y => match eqN x y with
      | true => some true
      | false => none
    | .eqN x y => match eqN x y with
      | true => some true
      | false => none
    | _ => none
def dec (fs : Facts) (b : EB) : Option Bool :=
  match nf b with
  | (b, s) => match decN fs.l b with
    | some v => some (v == s)
    | none => none
def learn (fs : Facts) (b : EB) (v : Bool) : Facts :=
  match nf b with
  | (b, s) => ⟨fs.n, (b, v == s) :: fs.l⟩
def fresh (fs : Facts) : Facts := ⟨fs.n + 1, fs.l⟩

def chkT (b : EB) (t : T) : T :=
  match b with
  | .lit true => t
  | .lit false => .fail
  | .and a b => chkT a (chkT b t)
  | b => .chk b t
def tstT (fs : Facts) (b : EB) (x y : Facts → T) : T :=
  match b with
  | .lit true => x fs
  | .lit false => y fs
  | .not b => tstT fs b y x
  | .and a b => tstT fs a (fun fs => tstT fs b x y) y
  | .eqB a b => tstT fs a (fun fs => tstT fs b x y) (fun fs => tstT fs b y x)
  | b => match dec fs b with
    | some true => .chk b (x fs)
    | some false => .chk (.not b) (y fs)
    | none => .tst b (x (learn fs b true)) (y (learn fs b false))
def opT (o : Option (EB × EV)) (k : EV → T) : T := match o with | some (c, v) => chkT c (k v) | none => .fail

/-! ### operations -/
def dCell : Value → EV
  | .bool b => .bool (.lit b)
  | .int k n => .int k (.lit n)
  | .string s => .str (.lit s.data.toList)
  | .pointer none => .nilp
  | .slice none 0 0 => .nils
  | .nilFunc => .nilf
  | _ => .undef
def dVal : Value → EV
  | .agg cs => .agg (.of (cs.toList.map dCell))
  | v => dCell v
def evD (F : DFr) : Operand → EV
  | .tmp t => F.getD t .undef
  | .const v => dVal v
  | .global _ => .undef
  | .func f => .func f []

def binIntD (op : BinOp) (k : IntKind) (x y : EI) : Option (EB × EV) :=
  match op with
  | .add => some (.lit true, .int k (mkBin .add k x y))
  | .sub => some (.lit true, .int k (mkBin .sub k x y))
  | .mul => some (.lit true, .int k (mkBin .mul k x y))
  | .quo => some (mkNot (mkCmp .eql y (.lit 0)), .int k (mkBin .quo k x y))
  | .rem => some (mkNot (mkCmp .eql y (.lit 0)), .int k (mkBin .rem k x y))
  | .and => some (.lit true, .int k (mkBin .and k x y))
  | .or => some (.lit true, .int k (mkBin .or k x y))
  | .xor => some (.lit true, .int k (mkBin .xor k x y))
  | .andNot => some (.lit true, .int k (mkBin .andNot k x y))
  | .eql => some (.lit true, .bool (mkCmp .eql x y))
  | .neq => some (.lit true, .bool (mkNot (mkCmp .eql x y)))
  | .lss => some (.lit true, .bool (mkCmp .lss x y))
  | .leq => some (.lit true, .bool (mkCmp .leq x y))
  | .gtr => some (.lit true, .bool (mkCmp .gtr x y))
  | .geq => some (.lit true, .bool (mkCmp .geq x y))
  | _ => none
def binShiftD (op : BinOp) (k : IntKind) (x y : EI) : Option (EB × EV) :=
  match op with
  | .shl => some (mkCmp .leq (.lit 0) y, .int k (mkBin .shl k x y))
  | .shr => some (mkCmp .leq (.lit 0) y, .int k (mkBin .shr k x y))
  | _ => none
def slenD : ES → EN
  | .lit s => .lit s.length
  | s => .slen s
def binStrD (op : BinOp) (x y : ES) : Option (EB × EV) :=
  match op with
  | .add => some (mkLe (mkAdd (slenD x) (slenD y)) (.lit 9223372036854775807), .str (mkApp x y))
  | .eql => some (.lit true, .bool (mkEqS x y))
  | .neq => some (.lit true, .bool (mkNot (mkEqS x y)))
  | _ => none
def eqOpD (op : BinOp) (c : Bool) (b : EB) : Option (EB × EV) :=
  match op with
  | .eql => some (.lit c, .bool b)
  | .neq => some (.lit c, .bool (mkNot b))
  | _ => none

/-- a part of some cells, read at a type -/
def partD (P : Program) (t : TypeId) (l : EL) (o : EN) : Option (EB × EV) :=
  match P.underlying t with
  | some (.int k) => match rdI k l o with
    | some (c, e) => some (c, .int k e)
    | none => none
  | some .bool => match rdB l o with
    | some (c, e) => some (c, .bool e)
    | none => none
  | some (.struct _) => match sizeT P t with
    | some z => some (mkLe (mkAdd o (.lit z)) (mkLen l), .agg (mkSubL l o (.lit z)))
    | none => none
  | some (.array _ _) => match sizeT P t with
    | some z => some (mkLe (mkAdd o (.lit z)) (mkLen l), .agg (mkSubL l o (.lit z)))
    | none => none
  | some _ => match litN o with
    | some n => rdAny l n
    | none => none
  | none => none

def eqFsD (P : Program) (rec : TypeId → EV → EV → Option (EB × EB)) (xs ys : EL) : List Field → Option (EB × EB)
  | [] => some (.lit true, .lit true)
  | f :: fs =>
    if f.name ≠ "_" then
      match partD P f.type xs (.lit f.offset), partD P f.type ys (.lit f.offset) with
      | some (c1, a), some (c2, b) =>
        match rec f.type a b, eqFsD P rec xs ys fs with
        | some (c3, r), some (c4, s) => some (mkAnd c1 (mkAnd c2 (mkAnd c3 c4)), mkAnd r s)
        | _, _ => none
      | _, _ => none
    else eqFsD P rec xs ys fs
def eqIsD (P : Program) (rec : TypeId → EV → EV → Option (EB × EB)) (e : TypeId) (z : Nat) (xs ys : EL) : List Nat → Option (EB × EB)
  | [] => some (.lit true, .lit true)
  | i :: is =>
      match partD P e xs (.lit (i * z)), partD P e ys (.lit (i * z)) with
      | some (c1, a), some (c2, b) =>
        match rec e a b, eqIsD P rec e z xs ys is with
        | some (c3, r), some (c4, s) => some (mkAnd c1 (mkAnd c2 (mkAnd c3 c4)), mkAnd r s)
        | _, _ => none
      | _, _ => none
def eqVD (P : Program) : Nat → TypeId → EV → EV → Option (EB × EB)
  | 0, _, _, _ => none
  | n + 1, t, x, y =>
    match P.underlying t with
    | some (.int _) => match x, y with
      | .int k a, .int k' b => if k = k' then some (.lit true, mkCmp .eql a b) else none
      | _, _ => none
    | some .bool => match x, y with
      | .bool a, .bool b => some (.lit true, mkEqB a b)
      | _, _ => none
    | some .string => match x, y with
      | .str a, .str b => some (.lit true, mkEqS a b)
      | _, _ => none
    | some (.struct fs) => match x, y with
      | .agg xs, .agg ys => match P.stoodInHeld t with
        | true => none
        | false => eqFsD P (eqVD P n) xs ys fs.toList
      | _, _ => none
    | some (.array m e) => match x, y with
      | .agg xs, .agg ys => match sizeT P e with
        | some z => eqIsD P (eqVD P n) e z xs ys (List.range m)
        | none => none
      | _, _ => none
    | _ => none
/-- great ones are not looked through: the tag says that it is the question of a type -/
def eqA1 (P : Program) (t : TypeId) (as : List AV) : Bool := match as with
  | [x, y] => match eqV P 10 t x y with
    | some (c, _) => c
    | none => false
  | _ => false
def eqA2 (P : Program) (t : TypeId) (as : List AV) : Bool := match as with
  | [x, y] => match eqV P 10 t x y with
    | some (_, b) => b
    | none => false
  | _ => false
def isOf : EL → Bool
  | .of _ => true
  | _ => false
def eqAD (P : Program) (t : TypeId) (xs ys : EL) : Option (EB × EB) :=
  match isOf xs || isOf ys || (match sizeT P t with | some z => Nat.ble z 8 | none => false) with
  | true => eqVD P 10 t (.agg xs) (.agg ys)
  | false => some (.uf (100000 + t) (eqA1 P t) [.agg xs, .agg ys], .uf (200000 + t) (eqA2 P t) [.agg xs, .agg ys])

def binD (P : Program) (op : BinOp) (t : TypeId) (x y : EV) : Option (EB × EV) :=
  match x, y with
  | .int k a, .int k' b =>
    match op with
    | .shl | .shr => binShiftD op k a b
    | _ => if k = k' then binIntD op k a b else none
  | .str a, .str b => binStrD op a b
  | .bool a, .bool b => eqOpD op (isBoolT (P.underlying t)) (mkEqB a b)
  | .ptr _ _, .nilp => eqOpD op (isPtrT (P.underlying t)) (.lit false)
  | .nilp, .ptr _ _ => eqOpD op (isPtrT (P.underlying t)) (.lit false)
  | .nilp, .nilp => eqOpD op (isPtrT (P.underlying t)) (.lit true)
  | .slice false _ _ _, .nils => eqOpD op (isSliceT (P.underlying t)) (.lit false)
  | .nils, .nils => eqOpD op (isSliceT (P.underlying t)) (.lit true)
  | .func _ _, .nilf => eqOpD op (isFuncT (P.underlying t)) (.lit false)
  | .nilf, .nilf => eqOpD op (isFuncT (P.underlying t)) (.lit true)
  | .agg xs, .agg ys =>
    match P.eqGuardType P.depth t with
    | true => none
    | false => match eqAD P t xs ys with
      | some (c, b) => match op with
        | .eql => some (c, .bool b)
        | .neq => some (c, .bool (mkNot b))
        | _ => none
      | none => none
  | _, _ => none

def unD (op : UnOp) (x : EV) : Option (EB × EV) :=
  match op, x with
  | .neg, .int k n => some (.lit true, .int k (mkNeg k n))
  | .xor, .int k n => some (.lit true, .int k (mkCpl k n))
  | .not, .bool b => some (.lit true, .bool (mkNot b))
  | _, _ => none
def convD (P : Program) (src dst : TypeId) (x : EV) : Option (EB × EV) :=
  match P.underlying src, P.underlying dst, x with
  | some _, some (.int k), .int _ n => some (.lit true, .int k (mkConv k n))
  | some _, some .string, .str s => some (.lit true, .str s)
  | _, _, _ => none
def fieldD (P : Program) (s : TypeId) (x : EV) (f : Nat) : Option (EB × EV) :=
  match P.underlying s, x with
  | some (.struct fs), .ptr r off =>
    match fs[f]? with
    | some fd =>
      match sizeT P fd.type with
      | some 0 => none
      | some _ => some (.lit true, .ptr r (mkAdd off (.lit fd.offset)))
      | none => none
    | none => none
  | _, _ => none
def indexD (P : Program) (t : TypeId) (x i : EV) : Option (EB × EV) :=
  match i with
  | .int _ i =>
    match P.underlying t, x with
    | some (.array len e), .ptr r off =>
      match sizeT P e with
      | some z => some (mkAnd (mkCmp .leq (.lit 0) i) (mkCmp .lss i (.lit len)), .ptr r (mkAdd (mkMul (mkToN i) z) off))
      | none => none
    | some (.slice e), .slice _ r off len =>
      match sizeT P e with
      | some z => some (mkAnd (mkCmp .leq (.lit 0) i) (mkCmp .lss i (mkOfN len)), .ptr r (mkAdd (mkMul (mkToN i) z) off))
      | none => none
    | _, _ => none
  | _ => none
def boundD (x : Option EV) (d : EI) : Option EI :=
  match x with
  | none => some d
  | some (.int _ i) => some i
  | some _ => none
def sliceD (P : Program) (t : TypeId) (x : EV) (lo hi : Option EV) : Option (EB × EV) :=
  match P.underlying t, x with
  | some (.slice e), .slice mb r off len =>
    match sizeT P e, boundD lo (.lit 0), boundD hi (mkOfN len) with
    | some z, some l, some h => some (mkAnd (mkCmp .leq (.lit 0) l) (mkAnd (mkCmp .leq l h) (mkCmp .leq h (mkOfN len))), .slice mb r (mkAdd (mkMul (mkToN l) z) off) (mkSub (mkToN h) (mkToN l)))
    | _, _, _ => none
  | some (.slice e), .nils =>
    match sizeT P e, boundD lo (.lit 0), boundD hi (.lit 0) with
    | some _, some l, some h => some (mkAnd (mkCmp .leq (.lit 0) l) (mkAnd (mkCmp .leq l h) (mkCmp .leq h (.lit 0))), .nils)
    | _, _, _ => none
  | some .string, .str s =>
    match boundD lo (.lit 0), boundD hi (mkOfN (slenD s)) with
    | some l, some h => some (mkAnd (mkCmp .leq (.lit 0) l) (mkAnd (mkCmp .leq l h) (mkCmp .leq h (mkOfN (slenD s)))), .str (.sub s (mkToN l) (mkToN h)))
    | _, _ => none
  | _, _ => none

def cellsOfD : EV → EL
  | .agg cs => cs
  | v => .of [v]
def knownD : EV → Bool
  | .undef => false
  | _ => true
def isCellD : EV → Bool
  | .undef | .agg _ | .tup _ => false
  | _ => true
def allCellD : EL → EB
  | .of cs => .lit (cs.all isCellD)
  | .sub l o n => .cells (.sub l o n)
  | l => .cells l
/-- is it what a cell, or so many cells, may hold? -/
def goodCellsD (v : EV) : EB :=
  match v with
  | .agg l => allCellD l
  | v => .lit (isCellD v)
def sizeIsD (v : EV) (z : Nat) : EB :=
  match v with
  | .agg l => mkEqN (mkLen l) (.lit z)
  | _ => .lit (Nat.beq 1 z)

def fillD (place : Nat → Option (Nat × Nat)) (cells : EL) : List (Nat × EV) → Option (EB × EL)
  | [] => some (.lit true, cells)
  | (i, v) :: rest =>
    match place i with
    | none => none
    | some (off, size) =>
      match fillD place (mkSet cells (.lit off) v) rest with
      | none => none
      | some (c, r) => match knownD v with
        | true => some (mkAnd (sizeIsD v size) (mkAnd (mkLe (.lit (off + size)) (mkLen cells)) c), r)
        | false => none
def zeroD (P : Program) (t : TypeId) : Option EV :=
  match P.info? t with
  | some i => match i.zero with
    | some z => some (dVal z)
    | none => none
  | none => none
def buildD (P : Program) (t : TypeId) (parts : List (Nat × EV)) : Option (EB × EV) :=
  match P.underlying t, zeroD P t with
  | some (.struct fs), some (.agg z) =>
    match placesOf P fs.toList with
    | some ps =>
      match fillD (fun i => ps[i]?) z parts with
      | some (c, cs) => some (c, .agg cs)
      | none => none
    | none => none
  | some (.array _ e), some (.agg z) =>
    match sizeT P e with
    | some n =>
      match fillD (fun i => some (i * n, n)) z parts with
      | some (c, cs) => some (c, .agg cs)
      | none => none
    | none => none
  | _, _ => none
def lenD (P : Program) (t : TypeId) (x : EV) : Option (EB × EV) :=
  match P.underlying t, x with
  | some .string, .str s => some (.lit true, .int .i64 (mkOfN (slenD s)))
  | some (.array n _), _ => some (.lit true, .int .i64 (.lit n))
  | some (.slice _), .slice _ _ _ n => some (.lit true, .int .i64 (mkOfN n))
  | some (.slice _), .nils => some (.lit true, .int .i64 (.lit 0))
  | _, _ => none
def maxD (x y : EV) : Option (EB × EV) :=
  match x, y with
  | .int k a, .int k' b => if k = k' then some (.lit true, .int k (.mx a b)) else none
  | _, _ => none
def minD (x y : EV) : Option (EB × EV) :=
  match x, y with
  | .int k a, .int k' b => if k = k' then some (.lit true, .int k (.mn a b)) else none
  | _, _ => none
def pickD (c a b : EV) : Option (EB × EV) :=
  match c with
  | .bool (.lit true) => some (.lit true, a)
  | .bool (.lit false) => some (.lit true, b)
  | _ => none
def nilCheckD (x : EV) : Option (EB × EV) :=
  match x with
  | .ptr r o => some (.lit true, .ptr r o)
  | .func f c => some (.lit true, .func f c)
  | .slice m r o n => some (.lit true, .slice m r o n)
  | _ => none

def pureD (P : Program) (F : DFr) (op : Op) : Option (EB × EV) :=
  match op with
  | .move x => some (.lit true, evD F x)
  | .assign x => some (.lit true, evD F x)
  | .pick c a b => pickD (evD F c) (evD F a) (evD F b)
  | .nilCheck x => nilCheckD (evD F x)
  | .binOp op t x y _ => binD P op t (evD F x) (evD F y)
  | .unOp op _ x => unD op (evD F x)
  | .convert s d x => convD P s d (evD F x)
  | .fieldAddr s x f => fieldD P s (evD F x) f
  | .indexAddr t x i => indexD P t (evD F x) (evD F i)
  | .slice t x lo hi none => sliceD P t (evD F x) (lo.map (evD F)) (hi.map (evD F))
  | .build t parts => buildD P t (parts.toList.map fun p => (p.1, evD F p.2))
  | .extract x i => match evD F x with
    | .tup vs => match vs[i]? with
      | some v => some (.lit true, v)
      | none => none
    | _ => none
  | .makeFunc (.func f) first cap => if first.size = 0 then some (.lit true, .func f (cap.toList.map (evD F))) else none
  | .call { callee := .builtin .len, args, argTypes } =>
    match args.toList, argTypes.toList with
    | [x], [t] => lenD P t (evD F x)
    | _, _ => none
  | .call { callee := .builtin .max, args, .. } =>
    match args.toList with
    | [x, y] => maxD (evD F x) (evD F y)
    | _ => none
  | .call { callee := .builtin .min, args, .. } =>
    match args.toList with
    | [x, y] => minD (evD F x) (evD F y)
    | _ => none
  | _ => none

/-! ### the heap -/
def cellsAtD (H : DHp) : ER → Option EL
  | .rw i => match H[i]? with
    | some (some b) => some b.cells
    | _ => none
  | .ro n => some (.ro n)
def leafD (l : Lf) (cs : EL) (off : EN) : EV :=
  match l with
  | .int k => .int k (.get cs off)
  | .bool => .bool (.get cs off)
  | .str => .str (.get cs off)
  | .sl => .slice true (.ro (.rk cs off)) (.ro cs off) (.rn cs off)
def leafsD (cs : EL) : EN → List Lf → List EV
  | _, [] => []
  | off, l :: ls => leafD l cs off :: leafsD cs (mkAdd off (.lit 1)) ls
def partRD (P : Program) (t : TypeId) (cs : EL) (off : EN) : Option (EB × EV) :=
  match P.underlying t with
  | some (.int k) => some (.isI k cs off, .int k (.get cs off))
  | some .bool => some (.isB cs off, .bool (.get cs off))
  | some .string => some (.isT cs off, .str (.get cs off))
  | some (.slice _) => some (.isR cs off, .slice true (.ro (.rk cs off)) (.ro cs off) (.rn cs off))
  | some (.struct _) => match sizeT P t, leafs P 10 t with
    | some z, some ls => match Nat.beq ls.length z with
      | true => some (.leaf cs off ls, .agg (.of (leafsD cs off ls)))
      | false => none
    | _, _ => none
  | some (.array _ _) => match sizeT P t, leafs P 10 t with
    | some z, some ls => match Nat.beq ls.length z with
      | true => some (.leaf cs off ls, .agg (.of (leafsD cs off ls)))
      | false => none
    | _, _ => none
  | _ => none
def partLD (P : Program) (r : ER) (t : TypeId) (cs : EL) (off : EN) : Option (EB × EV) :=
  match r with
  | .rw _ => partD P t cs off
  | .ro _ => partRD P t cs off
def loadD (P : Program) (H : DHp) (t : TypeId) (r : ER) (off : EN) : Option (EB × EV) :=
  match cellsAtD H r with
  | some cs => partLD P r t cs off
  | none => none
def strOfD (cs : EL) (off n : EN) : EB × EV :=
  (mkAnd (mkLe (mkAdd off n) (mkLen cs)) (.u8s (mkSubL cs off n)), .str (.ofL (mkSubL cs off n)))
def readD (P : Program) (F : DFr) (H : DHp) (op : Op) : Option (EB × EV) :=
  match op with
  | .load t a => match evD F a with
    | .ptr r off => loadD P H t r off
    | _ => none
  | .field t x f =>
    match P.underlying t, evD F x with
    | some (.struct fs), .agg cs => match fs[f]? with
      | some fd => partD P fd.type cs (.lit fd.offset)
      | none => none
    | _, _ => none
  | .index t x i =>
    match P.underlying t, evD F x, evD F i with
    | some (.array len e), .agg cs, .int _ i => match sizeT P e with
      | some z => match partD P e cs (mkMul (mkToN i) z) with
        | some (c, v) => some (mkAnd (mkCmp .leq (.lit 0) i) (mkAnd (mkCmp .lss i (.lit len)) c), v)
        | none => none
      | none => none
    | _, _, _ => none
  | .convert s d x =>
    match isBytes P s && isStringT P d, evD F x with
    | true, .nils => some (.lit true, .str (.lit []))
    | true, .slice _ r off n => match cellsAtD H r with
      | some cs => some (strOfD cs off n)
      | none => none
    | _, _ => none
  | _ => none
/-- which block of its own a reading looks at -/
def seesD (F : DFr) (op : Op) : Option ER :=
  match op with
  | .load _ a => match evD F a with
    | .ptr r _ => some r
    | _ => none
  | .convert _ _ x => match evD F x with
    | .slice _ r _ _ => some r
    | _ => none
  | _ => none
def hereD (H : DHp) : ER := .rw H.length
def srcD (H : DHp) (z : Nat) (x : EV) : Option (EB × EN × EL) :=
  match x with
  | .nils => some (.lit true, .lit 0, .of [])
  | .slice _ r off m => match cellsAtD H r with
    | some cs => some (mkAnd (mkLe (mkAdd off (mkMul m z)) (mkLen cs)) (allCellD (mkSubL cs off (mkMul m z))), m, mkSubL cs off (mkMul m z))
    | none => none
  | .str s => match Nat.beq z 1 with
    | true => some (.lit true, slenD s, mkBytes s)
    | false => none
  | _ => none
def lenIs (z : Option EV) (n : Nat) : Bool := match z with
  | some v => match cellsOfD v with
    | .of cs => Nat.beq cs.length n
    | _ => false
  | none => false
def appendD (P : Program) (H : DHp) (t : TypeId) (s x : EV) : Option (EB × EV × DHop) :=
  match P.underlying t with
  | some (.slice e) =>
    match P.info? e, zeroD P e with
    | some i, some zv =>
      match Nat.ble 1 i.bytes && lenIs (some zv) i.size with
      | false => none
      | true =>
      match srcD H i.size x with
      | some (c, m, xs) =>
        match s with
        | .nils => some (mkAnd c (mkLe (mkMul m i.bytes) (.lit 140737488355328)), .slice true (hereD H) (.lit 0) m, .new ⟨i.size, xs⟩)
        | .slice mb (.rw j) (.lit 0) n =>
          match H[j]? with
          | some (some b) => match Nat.beq b.esz i.size with
            | true => some (mkAnd c (mkAnd (mkLe (mkMul (mkAdd n m) i.bytes) (.lit 140737488355328)) (mkEqN (mkLen b.cells) (mkMul n i.size))), .slice mb (hereD H) (.lit 0) (mkAdd n m), .app j ⟨i.size, mkAppL b.cells xs⟩)
            | false => none
          | _ => none
        | _ => none
      | none => none
    | _, _ => none
  | _ => none
/-- a block may be laid anew as a whole -/
def mkStore (l : EL) (o : EN) (v : EV) (z : Nat) : EL :=
  match v with
  | .agg d => match isOf d, l, o with
    | false, .of cs, .lit 0 => match Nat.beq cs.length z with
      | true => d
      | false => mkSet l o v
    | _, _, _ => mkSet l o v
  | v => mkSet l o v
/-- so many bytes -/
def bigF (z : Nat) (as : List AV) : Int := match as with
  | [.int _ n] => n * z
  | _ => 0
def writeD (P : Program) (F : DFr) (H : DHp) (op : Op) : Option (EB × EV × DHop) :=
  match op with
  | .store t a x =>
    match evD F a, sizeT P t with
    | .ptr (.rw i) off, some z => match H[i]? with
      | some (some b) => some (mkAnd (goodCellsD (evD F x)) (mkAnd (sizeIsD (evD F x) z) (mkLe (mkAdd off (.lit z)) (mkLen b.cells))), .tup [], .set i ⟨b.esz, mkStore b.cells off (evD F x) z⟩)
      | _ => none
    | _, _ => none
  | .alloc e => match zeroD P e with
    | some z => some (.lit true, .ptr (hereD H) (.lit 0), .new ⟨1, cellsOfD z⟩)
    | none => none
  | .box _ x => match knownD (evD F x) with
    | true => some (.lit true, .ptr (hereD H) (.lit 0), .new ⟨1, cellsOfD (evD F x)⟩)
    | false => none
  | .buildSlice t n parts =>
    match P.underlying t with
    | some (.slice e) => match sizeT P e, zeroD P e with
      | some z, some zv =>
        match cellsOfD zv with
        | .of cs =>
          match Nat.ble (n * z) 16777216 && Nat.beq cs.length z with
          | true => match fillD (fun i => some (i * z, z)) (.of ((List.replicate n cs).flatten)) (parts.toList.map fun p => (p.1, evD F p.2)) with
            | some (c, cs) => some (c, .slice false (hereD H) (.lit 0) (.lit n), .new ⟨z, cs⟩)
            | none => none
          | false => none
        | _ => none
      | _, _ => none
    | _ => none
  | .makeSlice t l c =>
    match P.underlying t, evD F l, evD F c with
    | some (.slice e), .int _ l, .int _ c => match P.info? e, zeroD P e with
      | some i, some zv => match lenIs (some zv) i.size && Nat.ble 1 i.size with
        | true => some (mkAnd (mkCmp .leq (.lit 0) l) (mkAnd (mkCmp .leq l c) (mkAnd (mkCmp .leq (mkBig c i.bytes) (.lit 140737488355328)) (mkCmp .leq c (.lit 140737488355328)))), .slice false (hereD H) (.lit 0) (mkToN l), .new ⟨i.size, mkRep (mkToN l) (cellsOfD zv)⟩)
        | false => none
      | _, _ => none
    | _, _, _ => none
  | .convert s d x =>
    match isStringT P s && isBytes P d, evD F x with
    | true, .str s => some (mkLe (slenD s) (.lit 140737488355328), .slice false (hereD H) (.lit 0) (slenD s), .new ⟨1, mkBytes s⟩)
    | false, .slice mb (.rw i) off n => match isBytes P s && Nat.beq s d with
      | true => match H[i]? with
        | some (some b) => some (mkLe (.lit 1) n, .slice mb (.rw i) off n, .set i b)
        | _ => none
      | false => none
    | _, _ => none
  | .call { callee := .builtin .append, args, argTypes } =>
    match args.toList, argTypes.toList with
    | [s, x], [t, u] => match P.underlying u with
      | some (.slice _) => appendD P H t (evD F s) (evD F x)
      | some .string => appendD P H t (evD F s) (evD F x)
      | _ => none
    | _, _ => none
  | _ => none
where
  mkBig (c : EI) (z : Nat) : EI := match c with
    | .lit n => .lit (n * z)
    | c => .uf (300000 + z) (bigF z) [.int .i64 c]

def callD (F : DFr) (op : Op) : Option (FuncId × List EV) :=
  match op with
  | .call { callee := .value f, args, .. } => match evD F f with
    | .func g cap => some (g, args.toList.map (evD F) ++ cap)
    | _ => none
  | _ => none
def resOneD (P : Program) (F : DFr) (H : DHp) : ResultVar → Option (EB × EV)
  | .tmp t => some (.lit true, F.getD t .undef)
  | .cell a t => match F.getD a .undef with
    | .ptr r off => loadD P H t r off
    | _ => none
def resAllD (P : Program) (F : DFr) (H : DHp) : List ResultVar → Option (EB × List EV)
  | [] => some (.lit true, [])
  | x :: xs => match resOneD P F H x with
    | some (c, v) => match resAllD P F H xs with
      | some (d, r) => some (mkAnd c d, v :: r)
      | none => none
    | none => none
def resD (P : Program) (fn : Func) (F : DFr) (H : DHp) : Option (EB × EV) :=
  match resAllD P F H fn.results.toList with
  | some (c, [v]) => some (c, v)
  | some (c, vs) => some (c, .tup vs)
  | none => none

/-! ### a region that draws its order -/
inductive DTrK where
  | still
  | read (r : ER)
  | write
structure DTr where
  kd : DTrK
  len : Nat
  hs : List DHop
def touchD (i : Nat) (len : Nat) : List DHop → Bool
  | [] => false
  | .set j _ :: hs => j == i || touchD i len hs
  | .new _ :: hs => len == i || touchD i (len + 1) hs
  | .app j _ :: hs => j == i || (len == i || touchD i (len + 1) hs)
def touchRD (r : ER) (len : Nat) (hs : List DHop) : Bool :=
  match r with
  | .rw i => touchD i len hs
  | .ro _ => false
def apartHD (x y : DTr) : Bool :=
  match x.kd, y.kd with
  | .write, .write => false
  | .write, .read r => !touchRD r x.len x.hs
  | .read r, .write => !touchRD r y.len y.hs
  | _, _ => true
def drawOkD (all : List Oper) (trs : List DTr) : Bool :=
  let ms := masks all []
  edgesOk 0 all && (List.range all.length).all fun j => (List.range j).all fun i =>
    (ms.getD j 0).testBit i ||
    (match all[i]?, all[j]?, trs[i]?, trs[j]? with
     | some x, some y, some a, some b => apartT all x y && apartHD a b
     | _, _, _, _ => false)
def diffD : Nat → DHp → DHp → Option (List DHop)
  | _, [], [] => some []
  | i, [], some b :: H' => match diffD i [] H' with
    | some hs => some (.new b :: hs)
    | none => none
  | _, [], none :: _ => none
  | i, _ :: H, some b :: H' => match diffD (i + 1) H H' with
    | some hs => some (.set i b :: hs)
    | none => none
  | i, none :: H, none :: H' => diffD (i + 1) H H'
  | _, _, _ => none

inductive DWk where
  | code (c : Code)
  | ops (all l : List Oper)
  | dr (all l : List Oper) (trs : List DTr)
structure DCfg where
  P : Program
  inl : FuncId → Bool
  sum : FuncId → List EV → DHp → Option Outs
  loop : Code → DFr → DHp → Option LOut
  M : Nat
abbrev DK := Ex → DFr → DHp → Facts → T
abbrev DRec := Nat → DWk → DFr → DHp → Facts → DK → T

def roOpD (K : DCfg) (rec : Code → Bool) (o : Oper) : Bool :=
  match kdOf K.P o.op with
  | .pure => true
  | .read => true
  | .write => false
  | .call => match o.op with
    | .call { callee := .value (.func g), .. } => K.inl g && (match K.P.funcs[g]? with
      | some fn => match fn.body with
        | some c => rec c
        | none => true
      | none => true)
    | _ => false
def roInD (K : DCfg) (rec : Code → Bool) : Code → Bool
  | .skip => true
  | .region _ ops _ => ops.toList.all (roOpD K rec)
  | .seq a b => roInD K rec a && roInD K rec b
  | .cond _ a b => roInD K rec a && roInD K rec b
  | .block _ c => roInD K rec c
  | .loop _ => false
  | .exit _ => true
  | .scope c => roInD K rec c
  | .label _ => true
  | .ret => true
  | _ => false
def roCodeD (K : DCfg) : Nat → Code → Bool
  | 0, _ => false
  | d + 1, c => roInD K (roCodeD K d) c

def frameD (fn : Func) (args : List EV) : DFr := args ++ List.replicate (fn.ntmps - args.length) (.tup [])
def putD (F : DFr) (d : Option Tmp) (v : EV) : DFr :=
  match d with
  | some d => F.set d v
  | none => F
def retD (P : Program) (fn : Func) (Q : EV → DHp → Facts → T) (e : Ex) (F : DFr) (H : DHp) (fs : Facts) : T :=
  match e with
  | .exit _ => .fail
  | _ => opT (resD P fn F H) fun v => Q v H fs
def outT (fs : Facts) (o : Outs) (k : Facts → EV → List DHop → T) : T :=
  match o with
  | .one v hs => k fs v hs
  | .chk b x => chkT b (outT fs x k)
  | .tst b x y => tstT fs b (fun fs => outT fs x k) (fun fs => outT fs y k)
  | .namI e f => .namI fs.n e fun x => outT (fresh fs) (f (.var fs.n x)) k
  | .namN e f => .namN fs.n e fun x => outT (fresh fs) (f (.var fs.n x)) k
  | .namB e f => .namB fs.n e fun x => outT (fresh fs) (f (.var fs.n x)) k
  | .namL e f => .namL fs.n e fun x => outT (fresh fs) (f (.var fs.n x)) k
def loutT (fs : Facts) (o : LOut) (k : Facts → Ex → DFr → DHp → T) : T :=
  match o with
  | .one e F H => k fs e F H
  | .chk b x => chkT b (loutT fs x k)
  | .tst b x y => tstT fs b (fun fs => loutT fs x k) (fun fs => loutT fs y k)
  | .imp b x => .imp b (loutT (learn fs b true) x k)
  | .allI f => .allI fs.n fun x => loutT (fresh fs) (f (.var fs.n x)) k
  | .allN f => .allN fs.n fun x => loutT (fresh fs) (f (.var fs.n x)) k
  | .allB f => .allB fs.n fun x => loutT (fresh fs) (f (.var fs.n x)) k
  | .allL f => .allL fs.n fun x => loutT (fresh fs) (f (.var fs.n x)) k
  | .namI e f => .namI fs.n e fun x => loutT (fresh fs) (f (.var fs.n x)) k
  | .namN e f => .namN fs.n e fun x => loutT (fresh fs) (f (.var fs.n x)) k
  | .namB e f => .namB fs.n e fun x => loutT (fresh fs) (f (.var fs.n x)) k
  | .namL e f => .namL fs.n e fun x => loutT (fresh fs) (f (.var fs.n x)) k
/-- a call that is entered, as one that is told of -/
def outsOf (ro : Bool) (H : DHp) : T → Option Outs
  | .ret v H' => match ro with
    | true => some (.one v [])
    | false => match diffD 0 H H' with
      | some hs => some (.one v hs)
      | none => none
  | .chk b t => match outsOf ro H t with
    | some o => some (.chk b o)
    | none => none
  | .tst b x y => match outsOf ro H x, outsOf ro H y with
    | some o, some p => some (.tst b o p)
    | _, _ => none
  | _ => none

def stepOpD (K : DCfg) (rec : DRec) (m : Nat) (all l : List Oper) (dst : Option Tmp) (op : Op) (F : DFr) (H : DHp) (fs : Facts) (Q : DK) : T :=
  match kdOf K.P op with
  | .pure => opT (pureD K.P F op) fun v => rec m (.ops all l) (putD F dst v) H fs Q
  | .read => opT (readD K.P F H op) fun v => rec m (.ops all l) (putD F dst v) H fs Q
  | .write => match writeD K.P F H op with
    | some (c, v, h) => chkT c (rec m (.ops all l) (putD F dst v) (h.act H) fs Q)
    | none => .fail
  | .call => match callD F op with
    | some (f, args) => match K.inl f with
      | true => match K.P.funcs[f]? with
        | some fn => match fn.body with
          | some c => match fn.name == "runtime.NumGoroutine" with
            | true => .fail
            | false => rec H.length (.code c) (frameD fn args) H fs (retD K.P fn fun v H' fs => rec m (.ops all l) (putD F dst v) H' fs Q)
          | none => .fail
        | none => .fail
      | false => match K.sum f args H with
        | some o => outT fs o fun fs v hs => rec m (.ops all l) (putD F dst v) (dacts H hs) fs Q
        | none => .fail
    | none => .fail
def guardD (fs : Facts) (all : List Oper) (guard : Option (Nat × Bool)) (F : DFr) (go skip : DFr → Facts → T) : T :=
  match guard with
  | none => go F fs
  | some (j, want) =>
    match (all[j]?).bind (·.dst) with
    | some t =>
      match F.getD t .undef with
      | .bool b => tstT fs b
          (fun fs => match want with | true => go (putD F (some t) (.bool (.lit true))) fs | false => skip (putD F (some t) (.bool (.lit true))) fs)
          (fun fs => match want with | true => skip (putD F (some t) (.bool (.lit false))) fs | false => go (putD F (some t) (.bool (.lit false))) fs)
      | .tup [] => skip F fs
      | _ => .fail
    | none => .fail
def stepOpsD (K : DCfg) (rec : DRec) (m : Nat) (all l : List Oper) (F : DFr) (H : DHp) (fs : Facts) (Q : DK) : T :=
  match l with
  | [] => Q .normal F H fs
  | ⟨dst, op, _, _, _, guard⟩ :: l =>
    guardD fs all guard F (fun F fs => stepOpD K rec m all l dst op F H fs Q) (fun F fs => rec m (.ops all l) (putD F dst (.tup [])) H fs Q)
def stepDrOpD (K : DCfg) (rec : DRec) (m : Nat) (all l : List Oper) (trs : List DTr) (dst : Option Tmp) (op : Op) (F : DFr) (H : DHp) (fs : Facts) (Q : DK) : T :=
  match kdOf K.P op with
  | .pure => opT (pureD K.P F op) fun v => rec m (.dr all l (trs ++ [⟨.still, H.length, []⟩])) (putD F dst v) H fs Q
  | .read => opT (readD K.P F H op) fun v => rec m (.dr all l (trs ++ [⟨(match seesD F op with | some r => .read r | none => .still), H.length, []⟩])) (putD F dst v) H fs Q
  | .write => match writeD K.P F H op with
    | some (c, v, h) => chkT c (rec m (.dr all l (trs ++ [⟨.write, H.length, [h]⟩])) (putD F dst v) (h.act H) fs Q)
    | none => .fail
  | .call => match callD F op with
    | some (f, args) => match K.inl f with
      | true => match K.P.funcs[f]? with
        | some fn => match fn.body with
          | some c => match fn.name == "runtime.NumGoroutine" with
            | true => .fail
            | false => match outsOf (roCodeD K 20 c) H (rec H.length (.code c) (frameD fn args) H fs (retD K.P fn fun v H' _ => .ret v H')) with
              | some o => outT fs o fun fs v hs => rec m (.dr all l (trs ++ [⟨.write, H.length, hs⟩])) (putD F dst v) (dacts H hs) fs Q
              | none => .fail
          | none => .fail
        | none => .fail
      | false => match K.sum f args H with
        | some o => outT fs o fun fs v hs => rec m (.dr all l (trs ++ [⟨.write, H.length, hs⟩])) (putD F dst v) (dacts H hs) fs Q
        | none => .fail
    | none => .fail
def stepDrD (K : DCfg) (rec : DRec) (m : Nat) (all l : List Oper) (trs : List DTr) (F : DFr) (H : DHp) (fs : Facts) (Q : DK) : T :=
  match l with
  | [] => match drawOkD all trs with
    | true => Q .normal F H fs
    | false => .fail
  | ⟨dst, op, _, _, _, guard⟩ :: l =>
    guardD fs all guard F (fun F fs => stepDrOpD K rec m all l trs dst op F H fs Q) (fun F fs => rec m (.dr all l (trs ++ [⟨.still, H.length, []⟩])) (putD F dst (.tup [])) H fs Q)
def stepCondD (_K : DCfg) (rec : DRec) (m : Nat) (c : Operand) (x y : Code) (F : DFr) (H : DHp) (fs : Facts) (Q : DK) : T :=
  match c with
  | .tmp t => match F.getD t .undef with
    | .bool b => tstT fs b (fun fs => rec m (.code x) (putD F (some t) (.bool (.lit true))) H fs Q) (fun fs => rec m (.code y) (putD F (some t) (.bool (.lit false))) H fs Q)
    | _ => .fail
  | .const (.bool b) => match b with
    | true => rec m (.code x) F H fs Q
    | false => rec m (.code y) F H fs Q
  | _ => .fail
def thenD (rec : DRec) (m : Nat) (b : Code) (Q : DK) : DK := fun e F H fs => match e with
  | .normal => rec m (.code b) F H fs Q
  | e => Q e F H fs
def blockD (id : Nat) (Q : DK) : DK := fun e F H fs => match e with
  | .exit i => match i == id with
    | true => Q .normal F H fs
    | false => Q (.exit i) F H fs
  | e => Q e F H fs
def stepCodeD (K : DCfg) (rec : DRec) (m : Nat) (c : Code) (F : DFr) (H : DHp) (fs : Facts) (Q : DK) : T :=
  match c with
  | .skip => Q .normal F H fs
  | .region _ ops draw => match draw with
    | true => rec m (.dr ops.toList ops.toList []) F H fs Q
    | false => rec m (.ops ops.toList ops.toList) F H fs Q
  | .seq a b => rec m (.code a) F H fs (thenD rec m b Q)
  | .cond c x y => stepCondD K rec m c x y F H fs Q
  | .block id c => rec m (.code c) F H fs (blockD id Q)
  | .loop c => match Nat.ble m K.M with
    | true => match K.loop c F H with
      | some o => loutT fs o fun fs e F H => Q e F H fs
      | none => .fail
    | false => .fail
  | .exit id => Q (.exit id) F H fs
  | .scope c => rec m (.code c) F H fs Q
  | .label _ => Q .normal F H fs
  | .ret => Q .ret F H fs
  | _ => .fail
def stepWkD (K : DCfg) (rec : DRec) (m : Nat) (w : DWk) (F : DFr) (H : DHp) (fs : Facts) (Q : DK) : T :=
  match w with
  | .ops all l => stepOpsD K rec m all l F H fs Q
  | .dr all l trs => stepDrD K rec m all l trs F H fs Q
  | .code c => stepCodeD K rec m c F H fs Q
def dx (K : DCfg) : Nat → DRec
  | 0 => fun _ _ _ _ _ _ => .fail
  | n + 1 => stepWkD K (dx K n)
end Go.Am
