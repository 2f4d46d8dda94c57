/-
  Tables of processes: the calls' words.
-/
import Derived.Test.YtkabjomhnddnoaaPrLb
import Derived.Test.YtkabjomhnddnoaaBase8
namespace Go.Am
open Crc
def xI1 (f : Ptb → Int → Int) : List AV → Int := fun vs => match vs with
  | [.agg x, .int _ n] => f (decX x) n
  | _ => 0
def xI2 (f : Ptb → Int → Int → Int) : List AV → Int := fun vs => match vs with
  | [.agg x, .int _ n, .int _ a] => f (decX x) n a
  | _ => 0
def xI3 (f : Ptb → Int → Int → Int → Int) : List AV → Int := fun vs => match vs with
  | [.agg x, .int _ n, .int _ a, .int _ b] => f (decX x) n a b
  | _ => 0
def xB1 (f : Ptb → Int → Bool) : List AV → Bool := fun vs => match vs with
  | [.agg x, .int _ n] => f (decX x) n
  | _ => false
def xB2 (f : Ptb → Int → Int → Bool) : List AV → Bool := fun vs => match vs with
  | [.agg x, .int _ n, .int _ a] => f (decX x) n a
  | _ => false
def xX1 (f : Ptb → Int → Ptb) : List AV → List AV := fun vs => match vs with
  | [.agg x, .int _ n] => encX (f (decX x) n)
  | _ => []
def xX2 (f : Ptb → Int → Int → Ptb) : List AV → List AV := fun vs => match vs with
  | [.agg x, .int _ n, .int _ a] => encX (f (decX x) n a)
  | _ => []
def xX3 (f : Ptb → Int → Int → Int → Ptb) : List AV → List AV := fun vs => match vs with
  | [.agg x, .int _ n, .int _ a, .int _ b] => encX (f (decX x) n a b)
  | _ => []
def endE (s : Ptb) (n a : Int) : Int := (endR s n a).1
def endX (s : Ptb) (n a : Int) : Ptb := (endR s n a).2
def forkC (s : Ptb) (n : Int) : Int := (forkR s n).1.1
def forkE (s : Ptb) (n : Int) : Int := (forkR s n).1.2
def forkY (s : Ptb) (n : Int) : Ptb := (forkR s n).2
def waitC (s : Ptb) (n w : Int) : Int := (waitR s n w).1.1
def waitS (s : Ptb) (n w : Int) : Int := (waitR s n w).1.2.1
def waitW (s : Ptb) (n w : Int) : Bool := (waitR s n w).1.2.2.1
def waitE (s : Ptb) (n w : Int) : Int := (waitR s n w).1.2.2.2
def waitX (s : Ptb) (n w : Int) : Ptb := (waitR s n w).2
def endK : EL → List EV → Option (EV × EL) := fun x rest => match rest with
  | [.int .i64 n, .int .i64 a] => some (.int .i64 (.uf 2401 (xI2 endE) [.agg x, .int .i64 n, .int .i64 a]), .uf 2402 (xX2 endX) [.agg x, .int .i64 n, .int .i64 a])
  | _ => none
def forkK : EL → List EV → Option (EV × EL) := fun x rest => match rest with
  | [.int .i64 n] => some (.tup [.int .i64 (.uf 2403 (xI1 forkC) [.agg x, .int .i64 n]), .int .i64 (.uf 2404 (xI1 forkE) [.agg x, .int .i64 n])], .uf 2405 (xX1 forkY) [.agg x, .int .i64 n])
  | _ => none
def waitK : EL → List EV → Option (EV × EL) := fun x rest => match rest with
  | [.int .i64 n, .int .i64 w] => some (.tup [.int .i64 (.uf 2406 (xI2 waitC) [.agg x, .int .i64 n, .int .i64 w]), .int .i64 (.uf 2407 (xI2 waitS) [.agg x, .int .i64 n, .int .i64 w]), .bool (.uf 2408 (xB2 waitW) [.agg x, .int .i64 n, .int .i64 w]), .int .i64 (.uf 2409 (xI2 waitE) [.agg x, .int .i64 n, .int .i64 w])], .uf 2410 (xX2 waitX) [.agg x, .int .i64 n, .int .i64 w])
  | _ => none
def groupK : EL → List EV → Option (EV × EL) := fun x rest => match rest with
  | [.int .i64 n, .int .i64 a] => some (.int .i64 (.uf 2411 (xI2 groupE) [.agg x, .int .i64 n, .int .i64 a]), .uf 2412 (xX2 groupX) [.agg x, .int .i64 n, .int .i64 a])
  | _ => none
def userK : EL → List EV → Option (EV × EL) := fun x rest => match rest with
  | [.int .i64 n, .int .i64 a] => some (.int .i64 (.uf 2413 (xI2 userE) [.agg x, .int .i64 n, .int .i64 a]), .uf 2414 (xX2 userX) [.agg x, .int .i64 n, .int .i64 a])
  | _ => none
def tellNum (s : Ptb) (n : Int) : Int := (tellX s n).num
def tellPar (s : Ptb) (n : Int) : Int := (tellX s n).par
def tellGrp (s : Ptb) (n : Int) : Int := (tellX s n).grp
def tellUsr (s : Ptb) (n : Int) : Int := (tellX s n).usr
def tellEn (s : Ptb) (n : Int) : Bool := (tellX s n).en
def tellSt (s : Ptb) (n : Int) : Int := (tellX s n).st
def tellK : EL → List EV → Option (EV × EL) := fun x rest => match rest with
  | [.int .i64 n] => some (.tup [.agg (.of [.int .i64 (.uf 2430 (xI1 tellNum) [.agg x, .int .i64 n]), .int .i64 (.uf 2431 (xI1 tellPar) [.agg x, .int .i64 n]), .int .i64 (.uf 2432 (xI1 tellGrp) [.agg x, .int .i64 n]), .int .i64 (.uf 2433 (xI1 tellUsr) [.agg x, .int .i64 n]), .bool (.uf 2434 (xB1 tellEn) [.agg x, .int .i64 n]), .int .i64 (.uf 2435 (xI1 tellSt) [.agg x, .int .i64 n])]), .bool (.uf 2436 (xB1 isP) [.agg x, .int .i64 n])], x)
  | _ => none
section
variable {k : IntKind} {s : Ptb} (h : thin s) (n a b : Int)
include h
theorem xI1_enc (f : Ptb → Int → Int) : xI1 f [.agg (encX s), .int k n] = f s n := by simp only [xI1, decX_enc h]
theorem xI2_enc {k' : IntKind} (f : Ptb → Int → Int → Int) : xI2 f [.agg (encX s), .int k n, .int k' a] = f s n a := by simp only [xI2, decX_enc h]
theorem xI3_enc {k' k'' : IntKind} (f : Ptb → Int → Int → Int → Int) : xI3 f [.agg (encX s), .int k n, .int k' a, .int k'' b] = f s n a b := by simp only [xI3, decX_enc h]
theorem xB1_enc (f : Ptb → Int → Bool) : xB1 f [.agg (encX s), .int k n] = f s n := by simp only [xB1, decX_enc h]
theorem xB2_enc {k' : IntKind} (f : Ptb → Int → Int → Bool) : xB2 f [.agg (encX s), .int k n, .int k' a] = f s n a := by simp only [xB2, decX_enc h]
theorem xX1_enc (f : Ptb → Int → Ptb) : xX1 f [.agg (encX s), .int k n] = encX (f s n) := by simp only [xX1, decX_enc h]
theorem xX2_enc {k' : IntKind} (f : Ptb → Int → Int → Ptb) : xX2 f [.agg (encX s), .int k n, .int k' a] = encX (f s n a) := by simp only [xX2, decX_enc h]
theorem xX3_enc {k' k'' : IntKind} (f : Ptb → Int → Int → Int → Ptb) : xX3 f [.agg (encX s), .int k n, .int k' a, .int k'' b] = encX (f s n a b) := by simp only [xX3, decX_enc h]
end
def KOk (C : Ctx) (t : TS) (m : Md2) (f : FuncId) (k : EL → List EV → Option (EV × EL)) : Prop :=
  ∀ x rest v x' s, k x rest = some (v, x') → vL C.G x = encX s → Wf s → bnds 0 (vVs C.G rest) = true ∧ bnd 0 (vV C.G v) = true ∧ ∃ s', vL C.G x' = encX s' ∧ thin s' ∧ (m = .same → s' = s) ∧
      ACalls C f (.ptr (.rw 0) 0 :: vVs C.G rest) (can t s) fun v' H' => v' = vV C.G v ∧ H' = mdHp t m s'
section
variable {C : Ctx} {t : TS} {f : FuncId} {m : Md2}
theorem endK_ok (h : ∀ s, Wf s → ∀ n a, ACalls C f [.ptr (.rw 0) 0, .int .i64 n, .int .i64 a] (can t s) fun v H' => v = .int .i64 (endR s n a).1 ∧ H' = mdHp t m (endR s n a).2) (hm : m ≠ .same) : KOk C t m f endK := by
  intro x rest v x' s hk hx hw
  unfold endK at hk
  split at hk
  · rename_i n a
    simp only [Option.some.injEq, Prod.mk.injEq] at hk
    obtain ⟨rfl, rfl⟩ := hk
    refine ⟨by simp [vVs, vV, bnds, bnd], by simp [vV, bnd], (endR s (vI C.G n) (vI C.G a)).2, by simp only [vL, vVs, vV, hx, xX2_enc hw.thin]; rfl, (hw.endR _ _).thin, fun e => absurd e hm, ?_⟩
    simp only [vVs, vV, vI, hx, xI2_enc hw.thin]
    exact h s hw _ _
  · simp at hk
theorem forkK_ok (h : ∀ s, Wf s → ∀ n, ACalls C f [.ptr (.rw 0) 0, .int .i64 n] (can t s) fun v H' => v = pairV (forkR s n).1 ∧ H' = mdHp t m (forkR s n).2) (hm : m ≠ .same) : KOk C t m f forkK := by
  intro x rest v x' s hk hx hw
  unfold forkK at hk
  split at hk
  · rename_i n
    simp only [Option.some.injEq, Prod.mk.injEq] at hk
    obtain ⟨rfl, rfl⟩ := hk
    refine ⟨by simp [vVs, vV, bnds, bnd], by simp [vV, vVs, bnds, bnd], (forkR s (vI C.G n)).2, by simp only [vL, vVs, vV, hx, xX1_enc hw.thin]; rfl, (hw.forkR _).thin, fun e => absurd e hm, ?_⟩
    simp only [vVs, vV, vI, hx, xI1_enc hw.thin]
    exact h s hw _
  · simp at hk
theorem waitK_ok (h : ∀ s, Wf s → ∀ n w, ACalls C f [.ptr (.rw 0) 0, .int .i64 n, .int .i64 w] (can t s) fun v H' => v = waitVv (waitR s n w).1 ∧ H' = mdHp t m (waitR s n w).2) (hm : m ≠ .same) : KOk C t m f waitK := by
  intro x rest v x' s hk hx hw
  unfold waitK at hk
  split at hk
  · rename_i n w
    simp only [Option.some.injEq, Prod.mk.injEq] at hk
    obtain ⟨rfl, rfl⟩ := hk
    refine ⟨by simp [vVs, vV, bnds, bnd], by simp [vV, vVs, bnds, bnd], (waitR s (vI C.G n) (vI C.G w)).2, by simp only [vL, vVs, vV, hx, xX2_enc hw.thin]; rfl, (hw.waitX _ _).thin, fun e => absurd e hm, ?_⟩
    simp only [vVs, vV, vI, vB, hx, xI2_enc hw.thin, xB2_enc hw.thin]
    exact h s hw _ _
  · simp at hk
theorem groupK_ok (h : ∀ s, Wf s → ∀ n a, ACalls C f [.ptr (.rw 0) 0, .int .i64 n, .int .i64 a] (can t s) fun v H' => v = .int .i64 (groupE s n a) ∧ H' = mdHp t m (groupX s n a)) (hm : m ≠ .same) : KOk C t m f groupK := by
  intro x rest v x' s hk hx hw
  unfold groupK at hk
  split at hk
  · rename_i n a
    simp only [Option.some.injEq, Prod.mk.injEq] at hk
    obtain ⟨rfl, rfl⟩ := hk
    refine ⟨by simp [vVs, vV, bnds, bnd], by simp [vV, bnd], groupX s (vI C.G n) (vI C.G a), by simp only [vL, vVs, vV, hx, xX2_enc hw.thin], (hw.groupX _ _).thin, fun e => absurd e hm, ?_⟩
    simp only [vVs, vV, vI, hx, xI2_enc hw.thin]
    exact h s hw _ _
  · simp at hk
theorem userK_ok (h : ∀ s, Wf s → ∀ n a, ACalls C f [.ptr (.rw 0) 0, .int .i64 n, .int .i64 a] (can t s) fun v H' => v = .int .i64 (userE s n a) ∧ H' = mdHp t m (userX s n a)) (hm : m ≠ .same) : KOk C t m f userK := by
  intro x rest v x' s hk hx hw
  unfold userK at hk
  split at hk
  · rename_i n a
    simp only [Option.some.injEq, Prod.mk.injEq] at hk
    obtain ⟨rfl, rfl⟩ := hk
    refine ⟨by simp [vVs, vV, bnds, bnd], by simp [vV, bnd], userX s (vI C.G n) (vI C.G a), by simp only [vL, vVs, vV, hx, xX2_enc hw.thin], (hw.userX _ _).thin, fun e => absurd e hm, ?_⟩
    simp only [vVs, vV, vI, hx, xI2_enc hw.thin]
    exact h s hw _ _
  · simp at hk
theorem tellK_ok (h : ∀ s, Wf s → ∀ n, ACalls C f [.ptr (.rw 0) 0, .int .i64 n] (can t s) fun v H' => v = .tup [.agg (rowU (tellX s n)), .bool (isP s n)] ∧ H' = can t s) : KOk C t .same f tellK := by
  intro x rest v x' s hk hx hw
  unfold tellK at hk
  split at hk
  · rename_i n
    simp only [Option.some.injEq, Prod.mk.injEq] at hk
    obtain ⟨rfl, rfl⟩ := hk
    refine ⟨by simp [vVs, vV, bnds, bnd], by simp [vV, vVs, vL, bnds, bnd], s, hx, hw.thin, fun _ => rfl, ?_⟩
    simp only [vVs, vV, vI, vB, vL, hx, xI1_enc hw.thin, xB1_enc hw.thin]
    exact h s hw _
  · simp at hk
end
end Go.Am
