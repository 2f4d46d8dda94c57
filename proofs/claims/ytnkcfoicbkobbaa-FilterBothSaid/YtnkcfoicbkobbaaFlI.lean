/-
  Filters: the document's plain filter.
-/
import Derived.Test.YtnkcfoicbkobbaaFlH
namespace Go.Am
open Go.Proofs
set_option maxRecDepth 100000
section
variable {C : Ctx}
theorem DOut.n1 {f : FuncId} {x : EV} {rest : List EV} {H : DHp} {v : EV} {b : DBlk} {L : EL} {n : EN} {F : List AV → Nat → AV} {Bk : List AV → Nat → Blk} (hx : rdT H x = some (L, n)) (h1 : okT (ctT (vL C.G L) (vN C.G n)) (vN C.G n) = true) (hr : norws (vVs C.G rest) = true ∧ noros (vVs C.G rest) = true)
    (h : ∀ (G : Nat → List AV) (B : Nat) (k n : Nat), okT (G k) n = true → ACalls ⟨C.P, G, B⟩ f (.slice true (.ro k) 0 n :: vVs C.G rest) [] fun v' H' => v' = F (G k) n ∧ H' = [some (Bk (G k) n)]) (hn : noro (F (ctT (vL C.G L) (vN C.G n)) (vN C.G n)) = true) (hb : bnds 0 (vL C.G b.cells) = true ∧ noros (vL C.G b.cells) = true) (hB : vBlk C.G b = Bk (ctT (vL C.G L) (vN C.G n)) (vN C.G n)) (hv : vV C.G v = sh H.length (F (ctT (vL C.G L) (vN C.G n)) (vN C.G n))) : DOut C f (x :: rest) H v [.new b] :=
  DOut.rn1 (C := C) (vN C.G n * 3) hx (okT_flat h1) hr (fun G' B' e => by
    have e : G' 0 = ctT (vL C.G L) (vN C.G n) := e
    rw [hB, ← e]
    exact h G' B' 0 (vN C.G n) (by rw [e]; exact h1)) hn hb hv
theorem DOut.n2 {f : FuncId} {x y : EV} {rest : List EV} {H : DHp} {v : EV} {b : DBlk} {L L' : EL} {n m : EN} {F : List AV → Nat → List AV → Nat → AV} {Bk : List AV → Nat → List AV → Nat → Blk} (hx : rdT H x = some (L, n)) (hy : rdT H y = some (L', m)) (h1 : okT (ctT (vL C.G L) (vN C.G n)) (vN C.G n) = true) (h2 : okT (ctT (vL C.G L') (vN C.G m)) (vN C.G m) = true) (hr : norws (vVs C.G rest) = true ∧ noros (vVs C.G rest) = true)
    (h : ∀ (G : Nat → List AV) (B : Nat) (k n k2 m : Nat), okT (G k) n = true → okT (G k2) m = true → ACalls ⟨C.P, G, B⟩ f (.slice true (.ro k) 0 n :: .slice true (.ro k2) 0 m :: vVs C.G rest) [] fun v' H' => v' = F (G k) n (G k2) m ∧ H' = [some (Bk (G k) n (G k2) m)]) (hn : noro (F (ctT (vL C.G L) (vN C.G n)) (vN C.G n) (ctT (vL C.G L') (vN C.G m)) (vN C.G m)) = true) (hb : bnds 0 (vL C.G b.cells) = true ∧ noros (vL C.G b.cells) = true) (hB : vBlk C.G b = Bk (ctT (vL C.G L) (vN C.G n)) (vN C.G n) (ctT (vL C.G L') (vN C.G m)) (vN C.G m)) (hv : vV C.G v = sh H.length (F (ctT (vL C.G L) (vN C.G n)) (vN C.G n) (ctT (vL C.G L') (vN C.G m)) (vN C.G m))) : DOut C f (x :: y :: rest) H v [.new b] :=
  DOut.rn2 (C := C) (vN C.G n * 3) (vN C.G m * 3) hx hy (okT_flat h1) (okT_flat h2) hr (fun G' B' e e' => by
    have e : G' 0 = ctT (vL C.G L) (vN C.G n) := e
    have e' : G' 1 = ctT (vL C.G L') (vN C.G m) := e'
    rw [hB, ← e, ← e']
    exact h G' B' 0 (vN C.G n) 1 (vN C.G m) (by rw [e]; exact h1) (by rw [e']; exact h2)) hn hb hv
end
def leS : DSum := fun args H => match args with
  | [x] => match rdT H x with
    | some (l, n) => some (.chk (.uf 1614 okTU [.agg l, .int .i64 (.ofN n)]) (.one (.tup [.slice true (.rw H.length) (.lit 0) (.uf 1617 lnU [.agg l, .int .i64 (.ofN n)]), .bool (.uf 1616 somU [.agg l, .int .i64 (.ofN n)])]) [.new ⟨1, .uf 1618 lcU [.agg l, .int .i64 (.ofN n)]⟩]))
    | none => none
  | _ => none
theorem leS_ok (G : Nat → List AV) (B : Nat) : DSumOk (⟨Try.prog, G, B⟩ : Ctx) 16 leS := by
  intro args H o ho
  unfold leS at ho
  split at ho
  · split at ho
    · rename_i x l n hx
      simp only [Option.some.injEq] at ho
      subst ho
      intro h1
      exact DOut.n1 (C := (⟨Try.prog, G, B⟩ : Ctx)) (F := fun cs n => .tup [.slice true (.rw 0) 0 (lnF cs n), .bool (somF cs n)]) (Bk := fun cs n => ⟨1, lcF cs n⟩) hx h1 ⟨rfl, rfl⟩ (fun G B k n h => le_call G B k n h) rfl ⟨(lcT_flat _).1, (lcT_flat _).2.1⟩ rfl rfl
    · simp at ho
  · simp at ho
def progH : List (Nat × DSum) := (16, leS) :: progG
theorem progH_ok (G : Nat → List AV) (B : Nat) : DSumsOk (⟨Try.prog, G, B⟩ : Ctx) progH := .cons (leS_ok G B) (progG_ok G B)
/-- a row of the plain filter -/
def roP (cs : List AV) (n a : Nat) : List AV := [.int .i64 (a : Int), .int .i64 (mkAt cs n a : Int), .int .i64 (lbF cs n a : Int)]
def inP (cs : List AV) (n L a : Nat) : Bool := !(mkAt cs n a == 0) || (a + 1 == L)
def rpC (cs : List AV) (n L : Nat) : Nat → List AV
  | 0 => []
  | j + 1 => if inP cs n L j = true then rpC cs n L j ++ roP cs n j else rpC cs n L j
def rpK (cs : List AV) (n L : Nat) : Nat → Nat
  | 0 => 0
  | j + 1 => if inP cs n L j = true then rpK cs n L j + 1 else rpK cs n L j
theorem rp_b (G : Nat → List AV) (k n L a x : Nat) (l z : List AV) (Q : Ex → List AV → Hp → Prop) (R : AV → Hp → Prop) : vT G Q R (dloop (Dc Try.prog [] progH [] 1) 300 20 1 (loopN Try.f18 0) 43 [0, 2, 3, 5, 6] [.slice true (.ro (.var 1 k)) (.lit 0) (.var 2 n), .nils, .slice true (.rw 0) (.lit 0) (.var 7 L), .slice true (.rw 1) (.lit 0) (.var 9 x), .int .i64 (.ofN (.var 10 a))] [some ⟨1, .var 8 l⟩, some ⟨3, .var 11 z⟩]) = (
    (decide ((((a : Nat) : Int) : Int) < ((L : Nat) : Int)) = true →
      okTU [.agg (G (k)), .int .i64 (((n : Nat) : Int))] = true ∧
      decide ((0 : Int) ≤ ((a : Nat) : Int)) = true ∧
      (((mkU [.agg (G (k)), .int .i64 (((n : Nat) : Int)), .int .i64 (((a : Nat) : Int))] : Int) == 0) = true →
        (((((a : Nat) : Int) : Int) == IntKind.wrap .i64 (((L : Nat) : Int) - 1)) = true →
          decide ((0 : Int) ≤ ((a : Nat) : Int)) = true ∧
          decide ((((a : Nat) : Int) : Int) < ((L : Nat) : Int)) = true ∧
          isI .u8 l (a) = true ∧
          leB ((x + 1) * 24) (140737488355328) = true ∧
          Nat.beq (List.length z) ((x) * 3) = true ∧
          Q .normal [.slice true (.ro (k)) (0) (n), .nils, .slice true (.rw 0) (0) (L), .slice true (.rw 3) (0) (x + 1), .int .i64 (IntKind.wrap .i64 (((a : Nat) : Int) + 1))] [some ⟨1, l⟩, none, some ⟨3, ([.int .i64 (((a : Nat) : Int)), .int .i64 (mkU [.agg (G (k)), .int .i64 (((n : Nat) : Int)), .int .i64 (((a : Nat) : Int))]), .int .i64 (IntKind.wrap .i64 (getI l (a)))] : List AV)⟩, some ⟨3, (z ++ ([.int .i64 (((a : Nat) : Int)), .int .i64 (mkU [.agg (G (k)), .int .i64 (((n : Nat) : Int)), .int .i64 (((a : Nat) : Int))]), .int .i64 (IntKind.wrap .i64 (getI l (a)))] : List AV))⟩]) ∧
        (((((a : Nat) : Int) : Int) == IntKind.wrap .i64 (((L : Nat) : Int) - 1)) = false →
          Q .normal [.slice true (.ro (k)) (0) (n), .nils, .slice true (.rw 0) (0) (L), .slice true (.rw 1) (0) (x), .int .i64 (IntKind.wrap .i64 (((a : Nat) : Int) + 1))] [some ⟨1, l⟩, some ⟨3, z⟩])) ∧
      (((mkU [.agg (G (k)), .int .i64 (((n : Nat) : Int)), .int .i64 (((a : Nat) : Int))] : Int) == 0) = false →
        decide ((0 : Int) ≤ ((a : Nat) : Int)) = true ∧
        decide ((((a : Nat) : Int) : Int) < ((L : Nat) : Int)) = true ∧
        isI .u8 l (a) = true ∧
        leB ((x + 1) * 24) (140737488355328) = true ∧
        Nat.beq (List.length z) ((x) * 3) = true ∧
        Q .normal [.slice true (.ro (k)) (0) (n), .nils, .slice true (.rw 0) (0) (L), .slice true (.rw 3) (0) (x + 1), .int .i64 (IntKind.wrap .i64 (((a : Nat) : Int) + 1))] [some ⟨1, l⟩, none, some ⟨3, ([.int .i64 (((a : Nat) : Int)), .int .i64 (mkU [.agg (G (k)), .int .i64 (((n : Nat) : Int)), .int .i64 (((a : Nat) : Int))]), .int .i64 (IntKind.wrap .i64 (getI l (a)))] : List AV)⟩, some ⟨3, (z ++ ([.int .i64 (((a : Nat) : Int)), .int .i64 (mkU [.agg (G (k)), .int .i64 (((n : Nat) : Int)), .int .i64 (((a : Nat) : Int))]), .int .i64 (IntKind.wrap .i64 (getI l (a)))] : List AV))⟩])) ∧
    (decide ((((a : Nat) : Int) : Int) < ((L : Nat) : Int)) = false →
      Q (.exit 0) [.slice true (.ro (k)) (0) (n), .nils, .slice true (.rw 0) (0) (L), .slice true (.rw 1) (0) (x), .int .i64 (((a : Nat) : Int))] [some ⟨1, l⟩, some ⟨3, z⟩])) := by kernel_rfl
theorem lcT_get {cs : List AV} {n a : Nat} : ∀ {j : Nat}, a < j → getI (lcT cs n j) a = (lbF cs n a : Int)
  | j + 1, h => by
    simp only [lcT]
    unfold getI
    by_cases e : a = j
    · subst e
      rw [List.getElem?_append_right (by rw [lcT_len]; omega), lcT_len, Nat.sub_self]; rfl
    · rw [List.getElem?_append_left (by rw [lcT_len]; omega)]
      exact lcT_get (j := j) (by omega)
theorem rpC_len {cs : List AV} {n L : Nat} : ∀ j, (rpC cs n L j).length = rpK cs n L j * 3 ∧ rpK cs n L j ≤ j
  | 0 => ⟨rfl, Nat.le_refl _⟩
  | j + 1 => by
    obtain ⟨h1, h2⟩ := rpC_len (cs := cs) (n := n) (L := L) j
    simp only [rpC, rpK]
    split
    · rw [List.length_append, h1]; exact ⟨by simp [roP]; omega, by omega⟩
    · exact ⟨h1, by omega⟩
theorem rpC_flat {cs : List AV} {n L : Nat} : ∀ j, bnds 0 (rpC cs n L j) = true ∧ noros (rpC cs n L j) = true ∧ noRcds (rpC cs n L j) = true
  | 0 => ⟨rfl, rfl, rfl⟩
  | j + 1 => by
    obtain ⟨h1, h2, h3⟩ := rpC_flat (cs := cs) (n := n) (L := L) j
    simp only [rpC]
    split
    · rw [bnds_eq, noros_eq] at *
      rw [List.all_append, h1, List.all_append, h2]
      exact ⟨rfl, rfl, noRcds_app h3 rfl⟩
    · exact ⟨h1, h2, h3⟩
def rpU : List AV → List AV := fun xs => match xs with
  | [.agg cs, .int _ n] => rpC (ctT cs n.toNat) n.toNat (lnF (ctT cs n.toNat) n.toNat) (lnF (ctT cs n.toNat) n.toNat)
  | _ => []
def rpN : List AV → Nat := fun xs => match xs with
  | [.agg cs, .int _ n] => rpK (ctT cs n.toNat) n.toNat (lnF (ctT cs n.toNat) n.toNat) (lnF (ctT cs n.toNat) n.toNat)
  | _ => 0
theorem rpU_eq {cs : List AV} {n : Nat} (h : cs.length = n * 3) : rpU [.agg cs, .int .i64 (n : Int)] = rpC cs n (lnF cs n) (lnF cs n) ∧ rpN [.agg cs, .int .i64 (n : Int)] = rpK cs n (lnF cs n) (lnF cs n) := by
  simp only [rpU, rpN, int_nat, ctT_all h, and_self]
theorem lnF_le {cs : List AV} {n : Nat} (ho : okF cs n) : lnF cs n ≤ 64 := by
  have hlo : ∀ m, m ≤ n → loF cs m ≤ 64 := by
    intro m hm
    induction m with
    | zero => simp [loF]
    | succ m ih =>
      have hb := okTst_iff.1 (ho m (by omega))
      have := ih (by omega)
      simp only [loF]; split <;> omega
  unfold lnF; split
  · exact hlo n (Nat.le_refl _)
  · omega
theorem lbF_ln {cs : List AV} {n a : Nat} (h : a < lnF cs n) : lbF cs n a < 256 := by
  unfold lnF at h
  split at h
  · rename_i hs; exact of_decide_eq_true (allTo_iff.1 hs a h)
  · omega
def rpQ (G : Nat → List AV) (k n : Nat) : List AV → Bool := stQ (okT (G k) n) [.slice true (.ro k) 0 n, .nils, .slice true (.rw 0) 0 (lnF (G k) n), .nils, .int .i64 0] [some ⟨1, lcF (G k) n⟩]
def rpO (G : Nat → List AV) (k n : Nat) : LOut := .one (.exit 0) [.undef, .undef, .undef, .slice true (.rw 1) (.lit 0) (.uf 1631 rpN [.agg (.ro (.var 1 k)), .int .i64 (.ofN (.var 2 n))]), .undef] [some ⟨1, .uf 1618 lcU [.agg (.ro (.var 1 k)), .int .i64 (.ofN (.var 2 n))]⟩, some ⟨3, .uf 1632 rpU [.agg (.ro (.var 1 k)), .int .i64 (.ofN (.var 2 n))]⟩]
theorem t18 (G : Nat → List AV) (k n : Nat) (Q : Ex → List AV → Hp → Prop) (R : AV → Hp → Prop) : vT G Q R (dcall (Dc Try.prog [] progH [(DLat 1628 (rpQ G k n) 0 43 [0, 2, 3, 5, 6] (rpO G k n))] 1) 300 20 Try.f18 [.slice true (.ro (.var 1 k)) (.lit 0) (.var 2 n)] [] 9) = (
    okTU [.agg (G (k)), .int .i64 (((n : Nat) : Int))] = true ∧
    (rpQ G k n) [.agg ([.slice true (.ro (k)) (0) (n), .nils, .slice true (.rw 0) (0) (lnU [.agg (G (k)), .int .i64 (((n : Nat) : Int))]), .nils, .int .i64 (0)] : List AV), .agg ([.tup [.int .i64 (1), .agg (lcU [.agg (G (k)), .int .i64 (((n : Nat) : Int))])]] : List AV)] = true ∧
    R (.slice true (.rw 1) (0) (rpN [.agg (G (k)), .int .i64 (((n : Nat) : Int))])) [some ⟨1, (lcU [.agg (G (k)), .int .i64 (((n : Nat) : Int))])⟩, some ⟨3, (rpU [.agg (G (k)), .int .i64 (((n : Nat) : Int))])⟩]) := by kernel_rfl
theorem rpL_ok (G : Nat → List AV) (B : Nat) (k n : Nat) : DLoopOk (⟨Try.prog, G, B⟩ : Ctx) 1 (loopN Try.f18 0) (DLat 1628 (rpQ G k n) 0 43 [0, 2, 3, 5, 6] (rpO G k n)) := by
  refine DLat_ok rfl fun h => ?_
  obtain ⟨hl, hn, hk, ho⟩ := okT_iff.1 h
  have hL := lnF_le ho
  have hlb := fun a => lbF_ln (cs := G k) (n := n) (a := a)
  unfold lcF
  generalize hLL : lnF (G k) n = L at *
  suffices key : AWp (⟨Try.prog, G, B⟩ : Ctx) 1 (.loop (loopN Try.f18 0)) (fl 43 [0, 2, 3, 5, 6] [.slice true (.ro k) 0 n, .nils, .slice true (.rw 0) 0 L, .slice true (.rw 1) 0 0, .int .i64 0]) [some ⟨1, lcT (G k) n L⟩, some ⟨3, []⟩] (lv 43 [0, 2, 3, 5, 6] ((rpO G k n).post G 1)) from
    AWp.nil (H := [some ⟨1, lcT (G k) n L⟩]) (H' := [some ⟨1, lcT (G k) n L⟩]) 3 (by simp) (nilrs_fl (vs := [.slice true (.ro k) 0 n, .nils, .slice true (.rw 0) 0 L, .slice true (.rw 1) 0 0, .int .i64 0]) ⟨.inl rfl, .inl rfl, .inl rfl, .inr ⟨rfl, rfl⟩, .inl rfl, trivial⟩) ⟨⟨rfl, nilrs_refl _⟩, trivial⟩ key
  refine scan L (fun a => [.slice true (.ro k) 0 n, .nils, .slice true (.rw 0) 0 L, .slice true (.rw 1) 0 (rpK (G k) n L a), .int .i64 (a : Int)]) (fun a => [some ⟨1, lcT (G k) n L⟩, some ⟨3, rpC (G k) n L a⟩]) fun a ha => ?_
  refine dloop_ok (C := (⟨Try.prog, G, B⟩ : Ctx)) (dgood (inl := []) (ls := []) (M := 1) (mixF G B) (by kernel_rfl) (progH_ok G B) .nil) (fuel := 300) (n0 := 20) (m := 1) (c := loopN Try.f18 0) (vs := [.slice true (.ro (.var 1 k)) (.lit 0) (.var 2 n), .nils, .slice true (.rw 0) (.lit 0) (.var 7 L), .slice true (.rw 1) (.lit 0) (.var 9 (rpK (G k) n L a)), .int .i64 (.ofN (.var 10 a))]) (H := [some ⟨1, .var 8 (lcT (G k) n L)⟩, some ⟨3, .var 11 (rpC (G k) n L a)⟩]) (by simp) ?_
  rw [rp_b, mkU_eq hl]
  obtain ⟨c1, c2⟩ := rpC_len (cs := G k) (n := n) (L := L) a
  have f0 := (lcT_flat (cs := G k) (n := n) L).1
  have fin : a < L → inP (G k) n L a = true → isI .u8 (lcT (G k) n L) a = true ∧ leB ((rpK (G k) n L a + 1) * 24) (140737488355328) = true ∧ Nat.beq (List.length (rpC (G k) n L a)) ((rpK (G k) n L a) * 3) = true ∧ a < L ∧
      ((([.slice true (.ro k) 0 n, .nils, .slice true (.rw 0) 0 L, .slice true (.rw 3) 0 (rpK (G k) n L a + 1), .int .i64 (IntKind.wrap .i64 ((a : Int) + 1))] : List AV) = [.slice true (.ro k) 0 n, .nils, .slice true (.rw 0) 0 L, .slice true (.rw 1) 0 (rpK (G k) n L (a + 1)), .int .i64 ((a + 1 : Nat) : Int)] ∧ ([some ⟨1, lcT (G k) n L⟩, none, some ⟨3, [.int .i64 (a : Int), .int .i64 (mkAt (G k) n a : Int), .int .i64 (IntKind.wrap .i64 (getI (lcT (G k) n L) a))]⟩, some ⟨3, rpC (G k) n L a ++ [.int .i64 (a : Int), .int .i64 (mkAt (G k) n a : Int), .int .i64 (IntKind.wrap .i64 (getI (lcT (G k) n L) a))]⟩] : Hp) = [some ⟨1, lcT (G k) n L⟩, some ⟨3, rpC (G k) n L (a + 1)⟩]) ∨
        View 1 [.slice true (.ro k) 0 n, .nils, .slice true (.rw 0) 0 L, .slice true (.rw 1) 0 (rpK (G k) n L (a + 1)), .int .i64 ((a + 1 : Nat) : Int)] [some ⟨1, lcT (G k) n L⟩, some ⟨3, rpC (G k) n L (a + 1)⟩] [.slice true (.ro k) 0 n, .nils, .slice true (.rw 0) 0 L, .slice true (.rw 3) 0 (rpK (G k) n L a + 1), .int .i64 (IntKind.wrap .i64 ((a : Int) + 1))] [some ⟨1, lcT (G k) n L⟩, none, some ⟨3, [.int .i64 (a : Int), .int .i64 (mkAt (G k) n a : Int), .int .i64 (IntKind.wrap .i64 (getI (lcT (G k) n L) a))]⟩, some ⟨3, rpC (G k) n L a ++ [.int .i64 (a : Int), .int .i64 (mkAt (G k) n a : Int), .int .i64 (IntKind.wrap .i64 (getI (lcT (G k) n L) a))]⟩]) := by
    intro h1 hin
    have hb := hlb a h1
    have u := okI_get (lcT_flat (cs := G k) (n := n) L).2.2.2 (j := a) h1
    rw [Nat.zero_add] at u
    refine ⟨u, leB_iff.2 (by omega), by rw [c1]; exact Nat.beq_refl _, h1, .inr ?_⟩
    rw [lcT_get h1, i64_in (n := (lbF (G k) n a : Int)) (by omega), i64_in (by omega)]
    have e1 : rpK (G k) n L (a + 1) = rpK (G k) n L a + 1 := by simp only [rpK, hin, if_true]
    have e2 : rpC (G k) n L (a + 1) = rpC (G k) n L a ++ roP (G k) n a := by simp only [rpC, hin, if_true]
    have f1 := (rpC_flat (cs := G k) (n := n) (L := L) (a + 1)).1
    rw [e1]
    refine View.renM (θ := [0, 3]) (by simp) (fun i hi => by match i, hi with | 0, _ => rfl) (by decide) ⟨⟨bnds_mono (Nat.zero_le _) _ f0, by rw [rens_flat _ _ f0]; rfl⟩, ⟨bnds_mono (Nat.zero_le _) _ f1, by rw [rens_flat _ _ f1, e2]; rfl⟩, trivial⟩ (by simp [bnds, bnd]) (by simp [rens, ren, wk])
  refine ⟨fun h1 => ⟨okTU_eq h, decide_eq_true (by omega), fun h2 => ⟨fun h3 => ?_, fun h3 => ?_⟩, fun h2 => ?_⟩, fun h1 => ?_⟩
  · have h1' := of_decide_eq_true h1
    have h3 := eq_of_beq h3
    rw [i64_in (by omega)] at h3
    have hin : inP (G k) n L a = true := by unfold inP; rw [show (a + 1 == L) = true from beq_iff_eq.2 (by omega), Bool.or_true]
    exact ⟨decide_eq_true (by omega), h1, fin (by omega) hin⟩
  · have h1' := of_decide_eq_true h1
    have h3 : ¬ ((a : Int) = IntKind.wrap .i64 ((L : Int) - 1)) := by simpa using h3
    rw [i64_in (by omega)] at h3
    have h2 : mkAt (G k) n a = 0 := by have := eq_of_beq h2; omega
    have hin : inP (G k) n L a = false := by unfold inP; rw [h2, show (a + 1 == L) = false from beq_eq_false_iff_ne.2 (by omega)]; rfl
    refine ⟨by omega, .inl ⟨?_, ?_⟩⟩
    · rw [i64_in (by omega)]; simp only [rpK, hin, Bool.false_eq_true, if_false]; rfl
    · simp only [rpC, hin, Bool.false_eq_true, if_false]
  · have h1' := of_decide_eq_true h1
    have h2 : mkAt (G k) n a ≠ 0 := by intro e; rw [e] at h2; simp at h2
    have hin : inP (G k) n L a = true := by unfold inP; rw [show (mkAt (G k) n a == 0) = false from beq_eq_false_iff_ne.2 h2]; rfl
    exact ⟨decide_eq_true (by omega), h1, fin (by omega) hin⟩
  · have h1 := of_decide_eq_false h1
    have ea : a = L := by omega
    refine ⟨rfl, .inl ⟨?_, ?_⟩⟩
    · simp only [vVs, vV, vI, vB, vN, vR, vL, wk, (rpU_eq hl).2, hLL, ea, and_self]
    · simp only [vHp, List.map_cons, List.map_nil, Option.map_some, vBlk, vL, vVs, vV, vI, vN, (leU_eq hl).2.2, (rpU_eq hl).1, hLL, lcF, ea]
theorem rp_call (G : Nat → List AV) (B : Nat) (k n : Nat) (h : okT (G k) n = true) : ACalls (⟨Try.prog, G, B⟩ : Ctx) 18 [.slice true (.ro k) 0 n] [] fun v H => v = .slice true (.rw 0) 0 (rpK (G k) n (lnF (G k) n) (lnF (G k) n)) ∧ H = [some ⟨3, rpC (G k) n (lnF (G k) n) (lnF (G k) n)⟩] := by
  have hl := (okT_iff.1 h).1
  have := dcall_ok (C := (⟨Try.prog, G, B⟩ : Ctx)) (fuel := 300) (n0 := 20) (f := 18) (fn := Try.f18) (args := [.slice true (.ro (.var 1 k)) (.lit 0) (.var 2 n)]) (H := []) (keep := 9)
    (R := fun v H => v = .slice true (.rw 1) 0 (rpK (G k) n (lnF (G k) n) (lnF (G k) n)) ∧ H = [some ⟨1, lcF (G k) n⟩, some ⟨3, rpC (G k) n (lnF (G k) n) (lnF (G k) n)⟩]) (by rw [show loopsOf (bodyOf Try.f18) = [loopN Try.f18 0] by kernel_rfl]; exact dgood (inl := []) (ls := [(DLat 1628 (rpQ G k n) 0 43 [0, 2, 3, 5, 6] (rpO G k n))]) (M := 1) (mixF G B) (by kernel_rfl) (progH_ok G B) (.cons (i := 0) (by kernel_rfl) rfl (rpL_ok G B k n) .nil)) (by kernel_rfl) (by kernel_rfl) (by kernel_rfl) (by
    rw [t18, (rpU_eq hl).1, (rpU_eq hl).2, (leU_eq hl).2.2, (leU_eq hl).2.1]
    exact ⟨okTU_eq h, stQ_refl h rfl (by simp only [encHB, List.map_cons, List.map_nil, noRcds, noRcd, lcF, (lcT_flat _).2.2.1]; rfl), rfl, rfl⟩)
  refine ACalls.one (b := ⟨3, _⟩) this (rpC_flat _).1 (by simp [bnd]) (fun j => by simp [ren]) ?_
  rintro v H ⟨rfl, hH⟩
  refine .inl ⟨1, ?_, rfl⟩
  have := congrArg (fun l => l[1]?) hH
  simpa [List.getElem?_take] using this
end Go.Am
