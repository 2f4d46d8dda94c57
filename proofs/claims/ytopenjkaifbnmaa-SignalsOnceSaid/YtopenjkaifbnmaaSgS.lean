/-
  What the calls on sets of signals come to, in written terms: the same words for the program's sets and the document's.
-/
import Derived.Test.YtopenjkaifbnmaaSgU
import Derived.Test.YtopenjkaifbnmaaAmMeth
namespace Go.Am
open Crc

def eqC : AV → AV → Bool
  | .bool a, .bool b => a == b
  | .int k a, .int k' b => k == k' && a == b
  | _, _ => false
def eqCs : List AV → List AV → Bool
  | [], [] => true
  | x :: l, y :: m => eqC x y && eqCs l m
  | _, _ => false
theorem eqC_eq {x y : AV} (h : eqC x y = true) : x = y := by
  unfold eqC at h
  split at h
  · rw [eq_of_beq h]
  · simp only [Bool.and_eq_true, beq_iff_eq] at h; rw [h.1, h.2]
  · simp at h
theorem eqCs_eq : ∀ {l m : List AV}, eqCs l m = true → l = m
  | [], [], _ => rfl
  | x :: l, y :: m, h => by
    simp only [eqCs, Bool.and_eq_true] at h
    rw [eqC_eq h.1, eqCs_eq h.2]
  | [], _ :: _, h => by simp [eqCs] at h
  | _ :: _, [], h => by simp [eqCs] at h

def onP {α : Type} (d : α) (f : Sg → α) : List AV → α := fun as => match as with
  | .agg cs :: _ => f (decP cs)
  | _ => d
def onPI {α : Type} (d : α) (f : Sg → Int → α) : List AV → α := fun as => match as with
  | [.agg cs, .int _ n] => f (decP cs) n
  | _ => d
def okU : List AV → Bool := fun as => match as with
  | [.agg cs] => okP cs
  | _ => false
/-- are the one's cells the document's for the other's? -/
def okRU : List AV → Bool := fun as => match as with
  | [.agg ds, .agg cs] => okP cs && eqCs ds (encR (decP cs))
  | _ => false
def encRU : List AV → List AV := onP [] encR
def sendU : List AV → List AV := onPI [] fun p n => encP (send p n)
def maskU : List AV → List AV := onPI [] fun p n => encP (mask p n)
def heldU : List AV → Int := onP 0 fun p => u p.hd
def handleU : List AV → List AV := fun as => match as with
  | [.agg cs, .int _ n, .int _ a] => encP (handle (decP cs) n a)
  | _ => []
def atU : List AV → Int := onPI 0 fun p n => u (p.at_ n.toNat)
def tkU : List AV → List AV := onP [] fun p => encP (tkP p)
def tkSigU : List AV → Int := onP 0 tkSig
def tkEndsU : List AV → Bool := onP false tkEnds
def tkAtU : List AV → Int := onP 0 tkAt
def tkOkU : List AV → Bool := onP false tkOk
def pendU : List AV → List AV := onP [] fun p => nl (pend p.wt)
def pendNU : List AV → Nat := onP 0 fun p => (pend p.wt).length
def waitsB (p : Sg) (n : Int) : Bool := (p.wt &&& p.hd).getLsbD n.toNat
def waitsU : List AV → Bool := onPI false waitsB
def childU : List AV → List AV := onP [] fun p => encP (setW p 0#32)
def sameB (p q : Sg) : Bool := p.wt == q.wt && (p.hd == q.hd && (List.range 16).all fun i => p.at_ i == q.at_ i)
def sameU : List AV → Bool := fun as => match as with
  | [.agg cs, .agg ds] => sameB (decP cs) (decP ds)
  | _ => false

/-- the two ways to lay a set -/
structure Side where
  get : EL → Option (EB × EL)
  put : EL → EL
def sideP : Side := ⟨fun l => some (.uf 1001 okU [.agg l], l), fun l => l⟩
def sideR : Side := ⟨fun l => match l with
  | .uf 1002 f [.agg d] => some (.uf 1003 okRU [.agg (.uf 1002 f [.agg d]), .agg d], d)
  | _ => none, fun l => .uf 1002 encRU [.agg l]⟩
/-- a call on a set -/
def onSet (s : Side) (k : Nat → EL → List EV → Option Outs) : DSum := fun args H => match args with
  | .ptr (.rw i) (.lit 0) :: rest => match H[i]? with
    | some (some ⟨1, cs⟩) => match s.get cs with
      | some (b, l) => match k i l rest with
        | some o => some (.chk b o)
        | none => none
      | none => none
    | _ => none
  | _ => none
def eno (n : Int) : EV := .int .i64 (.lit n)
def outOf (n : EI) (lo hi : Int) (bad good : Outs) : Outs := .tst (.cmp .lss n (.lit lo)) bad (.tst (.cmp .gtr n (.lit hi)) bad good)
def sendS (s : Side) : DSum := onSet s fun i l rest => match rest with
  | [.int .i64 n] => some (outOf n 0 15 (.one (eno 2) []) (.one (eno 0) [.set i ⟨1, s.put (.uf 1010 sendU [.agg l, .int .i64 n])⟩]))
  | _ => none
def maskS (s : Side) : DSum := onSet s fun i l rest => match rest with
  | [.int .i64 n] => some (.one (.tup [.int .i64 (.uf 1012 heldU [.agg l]), eno 0]) [.set i ⟨1, s.put (.uf 1011 maskU [.agg l, .int .i64 n])⟩])
  | _ => none
def handleS (s : Side) : DSum := onSet s fun i l rest => match rest with
  | [.int .i64 n, .int .i64 a] => some (outOf n 2 15 (.one (.tup [eno 0, eno 2]) []) (outOf a 0 4294967295 (.one (.tup [eno 0, eno 2]) [])
      (.one (.tup [.int .i64 (.uf 1014 atU [.agg l, .int .i64 n]), eno 0]) [.set i ⟨1, s.put (.uf 1013 handleU [.agg l, .int .i64 n, .int .i64 a])⟩])))
  | _ => none
def takeS (s : Side) : DSum := onSet s fun i l rest => match rest with
  | [] => some (.one (.tup [.agg (.of [.int .i64 (.uf 1016 tkSigU [.agg l]), .bool (.uf 1017 tkEndsU [.agg l]), .int .u32 (.uf 1018 tkAtU [.agg l])]), .bool (.uf 1019 tkOkU [.agg l])]) [.set i ⟨1, s.put (.uf 1015 tkU [.agg l])⟩])
  | _ => none
def pendS (s : Side) : DSum := fun args H => onSet s (fun _ l rest => match rest with
  | [] => some (.one (.slice true (.rw H.length) (.lit 0) (.uf 1021 pendNU [.agg l])) [.new ⟨1, .uf 1020 pendU [.agg l]⟩])
  | _ => none) args H
def heldS (s : Side) : DSum := onSet s fun _ l rest => match rest with
  | [] => some (.one (.int .i64 (.uf 1012 heldU [.agg l])) [])
  | _ => none
def handlerS (s : Side) : DSum := onSet s fun _ l rest => match rest with
  | [.int .i64 n] => some (outOf n 1 15 (.one (.tup [.int .u32 (.lit 0), .bool (.lit false)]) []) (.one (.tup [.int .u32 (.uf 1014 atU [.agg l, .int .i64 n]), .bool (.lit true)]) []))
  | _ => none
def waitsS (s : Side) : DSum := onSet s fun _ l rest => match rest with
  | [.int .i64 n] => some (outOf n 1 15 (.one (.bool (.lit false)) []) (.one (.bool (.uf 1022 waitsU [.agg l, .int .i64 n])) []))
  | _ => none
def copyS (s : Side) : DSum := fun args H => onSet s (fun _ l rest => match rest with
  | [] => some (.one (.ptr (.rw H.length) (.lit 0)) [.new ⟨1, s.put l⟩])
  | _ => none) args H
def childS (s : Side) : DSum := fun args H => onSet s (fun _ l rest => match rest with
  | [] => some (.one (.ptr (.rw H.length) (.lit 0)) [.new ⟨1, s.put (.uf 1023 childU [.agg l])⟩])
  | _ => none) args H

/-! what the words are worth -/
section
variable (p : Sg)
theorem okU_enc : okU [.agg (encP p)] = true := okP_enc p
theorem encRU_enc : encRU [.agg (encP p)] = encR p := by simp only [encRU, onP, decP_enc]
theorem okRU_enc : okRU [.agg (encR p), .agg (encP p)] = true := by
  have : ∀ l : List AV, l.all (fun x => eqC x x) = true → eqCs l l = true := by
    intro l
    induction l with
    | nil => intro _; rfl
    | cons x l ih => intro h; simp only [List.all_cons, Bool.and_eq_true] at h; simp only [eqCs, h.1, ih h.2, Bool.and_self]
  simp only [okRU, okP_enc, decP_enc, Bool.true_and]
  apply this
  simp [encR, at16, bits16, eqC]
theorem sendU_enc {k : IntKind} (n : Int) : sendU [.agg (encP p), .int k n] = encP (send p n) := by simp only [sendU, onPI, decP_enc]
theorem maskU_enc {k : IntKind} (n : Int) : maskU [.agg (encP p), .int k n] = encP (mask p n) := by simp only [maskU, onPI, decP_enc]
theorem heldU_enc : heldU [.agg (encP p)] = u p.hd := by simp only [heldU, onP, decP_enc]
theorem handleU_enc {k k' : IntKind} (n a : Int) : handleU [.agg (encP p), .int k n, .int k' a] = encP (handle p n a) := by simp only [handleU, decP_enc]
theorem atU_enc {k : IntKind} (n : Int) : atU [.agg (encP p), .int k n] = u (p.at_ n.toNat) := by simp only [atU, onPI, decP_enc]
theorem tkU_enc : tkU [.agg (encP p)] = encP (tkP p) := by simp only [tkU, onP, decP_enc]
theorem tkSigU_enc : tkSigU [.agg (encP p)] = tkSig p := by simp only [tkSigU, onP, decP_enc]
theorem tkEndsU_enc : tkEndsU [.agg (encP p)] = tkEnds p := by simp only [tkEndsU, onP, decP_enc]
theorem tkAtU_enc : tkAtU [.agg (encP p)] = tkAt p := by simp only [tkAtU, onP, decP_enc]
theorem tkOkU_enc : tkOkU [.agg (encP p)] = tkOk p := by simp only [tkOkU, onP, decP_enc]
theorem pendU_enc : pendU [.agg (encP p)] = nl (pend p.wt) := by simp only [pendU, onP, decP_enc]
theorem pendNU_enc : pendNU [.agg (encP p)] = (pend p.wt).length := by simp only [pendNU, onP, decP_enc]
theorem waitsU_enc {k : IntKind} (n : Int) : waitsU [.agg (encP p), .int k n] = waitsB p n := by simp only [waitsU, onPI, decP_enc]
theorem childU_enc : childU [.agg (encP p)] = encP (setW p 0#32) := by simp only [childU, onP, decP_enc]
end
/-- the empty set, as it is laid -/
def zeroP : Sg := ⟨0#32, 0#32, fun _ => 0#32, rfl, rfl, fun _ _ => rfl⟩

/-- a side's cells -/
structure SideOk (G : Nat → List AV) (s : Side) (enc : Sg → List AV) : Prop where
  get : ∀ l b d, s.get l = some (b, d) → vB G b = true → ∃ p, vL G d = encP p ∧ vL G l = enc p
  put : ∀ l p, vL G l = encP p → vL G (s.put l) = enc p
  flat : ∀ p n, bnds n (enc p) = true
theorem sideP_ok (G : Nat → List AV) : SideOk G sideP encP := by
  refine ⟨fun l b d h hb => ?_, fun l p h => h, fun p n => encP_flat n p⟩
  simp only [sideP, Option.some.injEq, Prod.mk.injEq] at h
  obtain ⟨rfl, rfl⟩ := h
  simp only [vB, vVs, vV, okU] at hb
  exact ⟨_, okP_eq hb, okP_eq hb⟩
theorem sideR_ok (G : Nat → List AV) : SideOk G sideR encR := by
  refine ⟨fun l b d h hb => ?_, fun l p h => ?_, fun p n => encR_flat n p⟩
  · simp only [sideR] at h
    split at h
    · simp only [Option.some.injEq, Prod.mk.injEq] at h
      obtain ⟨rfl, rfl⟩ := h
      simp only [vB, vVs, vV, okRU, Bool.and_eq_true] at hb
      exact ⟨_, okP_eq hb.1, eqCs_eq hb.2⟩
    · simp at h
  · simp only [sideR, vL, vVs, vV, h, encRU_enc]
/-- a summary on a side: what is owed of it -/
theorem onSet_ok {C : Ctx} {s : Side} {enc : Sg → List AV} (hs : SideOk C.G s enc) {f : FuncId} {k : DHp → Nat → EL → List EV → Option Outs}
    (h : ∀ (H : DHp) (i : Nat) (l l0 : EL) (rest : List EV) (o : Outs) (p : Sg), k H i l rest = some o → vL C.G l = encP p → vL C.G l0 = enc p → H[i]? = some (some ⟨1, l0⟩) → oAll C.G (DOut C f (.ptr (.rw i) (.lit 0) :: rest) H) o) :
    DSumOk C f (fun args H => onSet s (k H) args H) := by
  intro args H o ho
  simp only [onSet] at ho
  split at ho
  · rename_i i rest
    split at ho
    · rename_i cs hi
      split at ho
      · rename_i b l hg
        split at ho
        · rename_i o' hk
          simp at ho; subst ho
          exact fun hb => by
            obtain ⟨p, h1, h2⟩ := hs.get _ _ _ hg hb
            exact h H i l cs rest o' p hk h1 h2 hi
        · simp at ho
      · simp at ho
    · simp at ho
  · simp at ho
theorem oAll_outOf {G : Nat → List AV} {P : EV → List DHop → Prop} {n : EI} {lo hi : Int} {bad good : Outs} (h1 : (vI G n < lo ∨ hi < vI G n) → oAll G P bad) (h2 : lo ≤ vI G n → vI G n ≤ hi → oAll G P good) : oAll G P (outOf n lo hi bad good) := by
  have lt : ∀ (x y : Int), cmpI .lss x y = true ↔ x < y := fun x y => by unfold cmpI; exact decide_eq_true_iff
  have gt : ∀ (x y : Int), cmpI .gtr x y = true ↔ y < x := fun x y => by unfold cmpI; exact decide_eq_true_iff
  have no : ∀ {b : Bool}, b = false → ¬ b = true := fun h h' => by rw [h] at h'; simp at h'
  refine ⟨fun h => ?_, fun h => ⟨fun h' => ?_, fun h' => ?_⟩⟩
  · exact h1 (.inl ((lt _ _).1 h))
  · exact h1 (.inr ((gt _ _).1 h'))
  · have e1 : ¬ vI G n < lo := fun h3 => no h ((lt _ _).2 h3)
    have e2 : ¬ hi < vI G n := fun h3 => no h' ((gt _ _).2 h3)
    exact h2 (by omega) (by omega)
end Go.Am
