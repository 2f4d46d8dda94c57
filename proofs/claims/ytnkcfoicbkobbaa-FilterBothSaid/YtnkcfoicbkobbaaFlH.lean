/-
  Filters: the document's least packet, and its plain filter.
-/
import Derived.Test.YtnkcfoicbkobbaaFlG
namespace Go.Am
open Go.Proofs
set_option maxRecDepth 100000
def lcT (cs : List AV) (n : Nat) : Nat → List AV
  | 0 => []
  | j + 1 => lcT cs n j ++ [.int .u8 (lbF cs n j : Int)]
theorem lcT_len {cs : List AV} {n : Nat} : ∀ j, (lcT cs n j).length = j
  | 0 => rfl
  | j + 1 => by simp [lcT, lcT_len j]
def lnF (cs : List AV) (n : Nat) : Nat := if somF cs n = true then loF cs n else 0
def lcF (cs : List AV) (n : Nat) : List AV := lcT cs n (lnF cs n)
def somU : List AV → Bool := fun xs => match xs with
  | [.agg cs, .int _ n] => somF (ctT cs n.toNat) n.toNat
  | _ => false
def lnU : List AV → Nat := fun xs => match xs with
  | [.agg cs, .int _ n] => lnF (ctT cs n.toNat) n.toNat
  | _ => 0
def lcU : List AV → List AV := fun xs => match xs with
  | [.agg cs, .int _ n] => lcF (ctT cs n.toNat) n.toNat
  | _ => []
theorem leU_eq {cs : List AV} {n : Nat} (h : cs.length = n * 3) : somU [.agg cs, .int .i64 (n : Int)] = somF cs n ∧ lnU [.agg cs, .int .i64 (n : Int)] = lnF cs n ∧ lcU [.agg cs, .int .i64 (n : Int)] = lcF cs n := by
  simp only [somU, lnU, lcU, int_nat, ctT_all h, and_self]
def lbU : List AV → Nat := fun xs => match xs with
  | [.agg cs, .int _ n, .int _ a] => lbF (ctT cs n.toNat) n.toNat a.toNat
  | _ => 0
def lcTU : List AV → List AV := fun xs => match xs with
  | [.agg cs, .int _ n, .int _ a] => lcT (ctT cs n.toNat) n.toNat a.toNat
  | _ => []
theorem lbU_eq {cs : List AV} {n a : Nat} (h : cs.length = n * 3) : lbU [.agg cs, .int .i64 (n : Int), .int .i64 (a : Int)] = lbF cs n a ∧ lcTU [.agg cs, .int .i64 (n : Int), .int .i64 (a : Int)] = lcT cs n a := by
  simp only [lbU, lcTU, int_nat, ctT_all h, and_self]
theorem okTU_eq {cs : List AV} {n : Nat} (h : okT cs n = true) : okTU [.agg cs, .int .i64 (n : Int)] = true := by
  simp only [okTU, int_nat, ctT_all (okT_iff.1 h).1, h]
theorem lcT_flat {cs : List AV} {n : Nat} : ∀ j, bnds 0 (lcT cs n j) = true ∧ noros (lcT cs n j) = true ∧ noRcds (lcT cs n j) = true ∧ okI .u8 (lcT cs n j) 0 j = true
  | 0 => ⟨rfl, rfl, rfl, rfl⟩
  | j + 1 => by
    obtain ⟨h1, h2, h3, h4⟩ := lcT_flat (cs := cs) (n := n) j
    simp only [lcT]
    rw [bnds_eq, noros_eq] at *
    rw [List.all_append, h1, List.all_append, h2]
    refine ⟨rfl, rfl, noRcds_app h3 rfl, okI_of fun l hl => ?_⟩
    rw [Nat.zero_add]
    unfold isI
    by_cases e : l = j
    · subst e
      rw [List.getElem?_append_right (by rw [lcT_len]; omega), lcT_len, Nat.sub_self]; rfl
    · rw [List.getElem?_append_left (by rw [lcT_len]; omega)]
      have := okI_get h4 (j := l) (by omega)
      rw [Nat.zero_add] at this
      exact this
theorem lb_b (G : Nat → List AV) (k n n2 : Nat) (i a : Int) (l : List AV) (Q : Ex → List AV → Hp → Prop) (R : AV → Hp → Prop) : vT G Q R (dloop (Dc Try.prog [] progG [] 0) 300 20 0 (loopN Try.f16 1) 32 [0, 2, 3, 4, 5, 6] [.slice true (.ro (.var 1 k)) (.lit 0) (.var 2 n), .nils, .bool (.lit false), .slice true (.rw 0) (.lit 0) (.var 9 n2), .int .i64 (.var 7 a), .int .i64 (.var 6 i)] [some ⟨1, .var 8 l⟩]) = (
    (decide ((i : Int) < 256) = true →
      okTU [.agg (G (k)), .int .i64 (((n : Nat) : Int))] = true ∧
      decide ((0 : Int) ≤ a) = true ∧
      decide ((0 : Int) ≤ i) = true ∧
      decide ((i : Int) ≤ 255) = true ∧
      (byU [.agg (G (k)), .int .i64 (((n : Nat) : Int)), .int .i64 (a), .int .i64 (i)] = true →
        Q (.exit 2) [.slice true (.ro (k)) (0) (n), .nils, .bool (false), .slice true (.rw 0) (0) (n2), .int .i64 (a), .int .i64 (i)] [some ⟨1, l⟩]) ∧
      (byU [.agg (G (k)), .int .i64 (((n : Nat) : Int)), .int .i64 (a), .int .i64 (i)] = false →
        Q .normal [.slice true (.ro (k)) (0) (n), .nils, .bool (false), .slice true (.rw 0) (0) (n2), .int .i64 (a), .int .i64 (IntKind.wrap .i64 (i + 1))] [some ⟨1, l⟩])) ∧
    (decide ((i : Int) < 256) = false →
      Q (.exit 2) [.slice true (.ro (k)) (0) (n), .nils, .bool (false), .slice true (.rw 0) (0) (n2), .int .i64 (a), .int .i64 (i)] [some ⟨1, l⟩])) := by kernel_rfl
def lbQ (G : Nat → List AV) (k n a : Nat) : List AV → Bool := stQ (okT (G k) n) [.slice true (.ro k) 0 n, .nils, .bool false, .slice true (.rw 0) 0 a, .int .i64 (a : Int), .int .i64 0] [some ⟨1, lcT (G k) n a⟩]
def lbO (G : Nat → List AV) (k n a : Nat) : LOut := .one (.exit 2) [.slice true (.ro (.var 1 k)) (.lit 0) (.var 2 n), .nils, .bool (.lit false), .slice true (.rw 0) (.lit 0) (.var 7 a), .int .i64 (.ofN (.var 7 a)), .int .i64 (.ofN (.uf 1619 lbU [.agg (.ro (.var 1 k)), .int .i64 (.ofN (.var 2 n)), .int .i64 (.ofN (.var 7 a))]))] [some ⟨1, .uf 1630 lcTU [.agg (.ro (.var 1 k)), .int .i64 (.ofN (.var 2 n)), .int .i64 (.ofN (.var 7 a))]⟩]
theorem dgG (G : Nat → List AV) (B : Nat) (M : Nat) : DGood (⟨Try.prog, G, B⟩ : Ctx) (Dc Try.prog [] progG [] M) [] := dgood (mixF G B) (by kernel_rfl) (progG_ok G B) .nil
theorem byF_le {cs : List AV} {n a i : Nat} : i ≤ lbF cs n a → i < 256 → byF cs n a i = decide (i = lbF cs n a) := by
  intro h1 h2
  obtain ⟨g1, g2, g3⟩ := fstF_spec (p := byF cs n a) (k := 256)
  by_cases e : i = lbF cs n a
  · rw [decide_eq_true e, e]; exact g2 (by unfold lbF at e; omega)
  · rw [decide_eq_false e]; exact g3 i (by unfold lbF at h1 e; omega)
theorem lbF_le {cs : List AV} {n a : Nat} : lbF cs n a ≤ 256 := fstF_spec.1
theorem lbL_ok (G : Nat → List AV) (B : Nat) (k n a : Nat) : DLoopOk (⟨Try.prog, G, B⟩ : Ctx) 0 (loopN Try.f16 1) (DLat 1626 (lbQ G k n a) 2 32 [0, 2, 3, 4, 5, 6] (lbO G k n a)) := by
  refine DLat_ok rfl fun h => ?_
  obtain ⟨hl, hn, hk, ho⟩ := okT_iff.1 h
  have hle := lbF_le (cs := G k) (n := n) (a := a)
  refine scan (lbF (G k) n a) (fun i => [.slice true (.ro k) 0 n, .nils, .bool false, .slice true (.rw 0) 0 a, .int .i64 (a : Int), .int .i64 (i : Int)]) (fun _ => [some ⟨1, lcT (G k) n a⟩]) fun i hi => ?_
  refine dloop_ok (C := (⟨Try.prog, G, B⟩ : Ctx)) (dgG G B 0) (fuel := 300) (n0 := 20) (m := 0) (c := loopN Try.f16 1) (vs := [.slice true (.ro (.var 1 k)) (.lit 0) (.var 2 n), .nils, .bool (.lit false), .slice true (.rw 0) (.lit 0) (.var 9 a), .int .i64 (.var 7 (a : Int)), .int .i64 (.var 6 (i : Int))]) (H := [some ⟨1, .var 8 (lcT (G k) n a)⟩]) (by simp) ?_
  rw [lb_b]
  have fin : i = lbF (G k) n a → (lbO G k n a).post G 0 (.exit 2) [.slice true (.ro k) 0 n, .nils, .bool false, .slice true (.rw 0) 0 a, .int .i64 (a : Int), .int .i64 (i : Int)] [some ⟨1, lcT (G k) n a⟩] := fun e =>
    ⟨rfl, .inl ⟨by simp only [vVs, vV, vI, vB, vN, vR, vL, wk, (lbU_eq (a := a) hl).1, e, and_self], by simp only [vHp, List.map_cons, List.map_nil, Option.map_some, vBlk, vL, vVs, vV, vI, vN, (lbU_eq (a := a) hl).2]⟩⟩
  refine ⟨fun h1 => ?_, fun h1 => ?_⟩
  · have h1' := of_decide_eq_true h1
    rw [byU_eq hl, byF_le hi (by omega)]
    refine ⟨okTU_eq h, decide_eq_true (by omega), decide_eq_true (by omega), decide_eq_true (by omega), fun h2 => fin (of_decide_eq_true h2), fun h2 => ?_⟩
    have := of_decide_eq_false h2
    rw [i64_in (by omega)]
    exact ⟨by omega, .inl ⟨rfl, rfl⟩⟩
  · have := of_decide_eq_false h1
    exact fin (by omega)
theorem le_b (G : Nat → List AV) (k n a : Nat) (l : List AV) (Q : Ex → List AV → Hp → Prop) (R : AV → Hp → Prop) : vT G Q R (dloop (Dc Try.prog [] progG [(DLat 1626 (lbQ G k n a) 2 32 [0, 2, 3, 4, 5, 6] (lbO G k n a))] 0) 300 20 0 (loopN Try.f16 0) 32 [0, 2, 3, 4, 5] [.slice true (.ro (.var 1 k)) (.lit 0) (.var 2 n), .nils, .bool (.lit false), .slice true (.rw 0) (.lit 0) (.var 7 a), .int .i64 (.ofN (.var 7 a))] [some ⟨1, .var 8 l⟩]) = (
    okTU [.agg (G (k)), .int .i64 (((n : Nat) : Int))] = true ∧
    (decide ((((a : Nat) : Int) : Int) < loU [.agg (G (k)), .int .i64 (((n : Nat) : Int))]) = true →
      (lbQ G k n a) [.agg ([.slice true (.ro (k)) (0) (n), .nils, .bool (false), .slice true (.rw 0) (0) (a), .int .i64 (((a : Nat) : Int)), .int .i64 (0)] : List AV), .agg ([.tup [.int .i64 (1), .agg l]] : List AV)] = true ∧
      (((((lbU [.agg (G (k)), .int .i64 (((n : Nat) : Int)), .int .i64 (((a : Nat) : Int))] : Nat) : Int) : Int) == 256) = true →
        Q .ret [.slice true (.ro (k)) (0) (n), .nils, .bool (false), .slice true (.rw 0) (0) (a), .int .i64 (((a : Nat) : Int))] [some ⟨1, (lcTU [.agg (G (k)), .int .i64 (((n : Nat) : Int)), .int .i64 (((a : Nat) : Int))])⟩]) ∧
      (((((lbU [.agg (G (k)), .int .i64 (((n : Nat) : Int)), .int .i64 (((a : Nat) : Int))] : Nat) : Int) : Int) == 256) = false →
        leB (a + 1) (140737488355328) = true ∧
        Nat.beq (List.length (lcTU [.agg (G (k)), .int .i64 (((n : Nat) : Int)), .int .i64 (((a : Nat) : Int))])) (a) = true ∧
        Q .normal [.slice true (.ro (k)) (0) (n), .nils, .bool (false), .slice true (.rw 2) (0) (a + 1), .int .i64 (IntKind.wrap .i64 (((a : Nat) : Int) + 1))] [none, some ⟨1, ([.int .u8 (IntKind.wrap .u8 (((lbU [.agg (G (k)), .int .i64 (((n : Nat) : Int)), .int .i64 (((a : Nat) : Int))] : Nat) : Int)))] : List AV)⟩, some ⟨1, ((lcTU [.agg (G (k)), .int .i64 (((n : Nat) : Int)), .int .i64 (((a : Nat) : Int))]) ++ ([.int .u8 (IntKind.wrap .u8 (((lbU [.agg (G (k)), .int .i64 (((n : Nat) : Int)), .int .i64 (((a : Nat) : Int))] : Nat) : Int)))] : List AV))⟩])) ∧
    (decide ((((a : Nat) : Int) : Int) < loU [.agg (G (k)), .int .i64 (((n : Nat) : Int))]) = false →
      Q (.exit 0) [.slice true (.ro (k)) (0) (n), .nils, .bool (false), .slice true (.rw 0) (0) (a), .int .i64 (((a : Nat) : Int))] [some ⟨1, l⟩])) := by kernel_rfl
def leQ (G : Nat → List AV) (k n : Nat) : List AV → Bool := stQ (okT (G k) n) [.slice true (.ro k) 0 n, .nils, .bool false, .nils, .int .i64 0] []
def leO (G : Nat → List AV) (k n : Nat) : LOut := .tst (.uf 1616 somU [.agg (.ro (.var 1 k)), .int .i64 (.ofN (.var 2 n))]) (.one (.exit 0) [.slice true (.ro (.var 1 k)) (.lit 0) (.var 2 n), .undef, .undef, .slice true (.rw 0) (.lit 0) (.uf 1617 lnU [.agg (.ro (.var 1 k)), .int .i64 (.ofN (.var 2 n))]), .undef] [some ⟨1, .uf 1618 lcU [.agg (.ro (.var 1 k)), .int .i64 (.ofN (.var 2 n))]⟩]) (.one .ret [.undef, .nils, .bool (.lit false), .undef, .undef] [])
theorem t16 (G : Nat → List AV) (k n : Nat) (Q : Ex → List AV → Hp → Prop) (R : AV → Hp → Prop) : vT G Q R (dcall (Dc Try.prog [] progG [DLat 1627 (leQ G k n) 0 32 [0, 2, 3, 4, 5] (leO G k n)] 0) 300 20 Try.f16 [.slice true (.ro (.var 1 k)) (.lit 0) (.var 2 n)] [] 9) = (
    (leQ G k n) [.agg ([.slice true (.ro (k)) (0) (n), .nils, .bool (false), .nils, .int .i64 (0)] : List AV), .agg ([] : List AV)] = true ∧
    (somU [.agg (G (k)), .int .i64 (((n : Nat) : Int))] = true →
      R (.tup [.slice true (.rw 0) (0) (lnU [.agg (G (k)), .int .i64 (((n : Nat) : Int))]), .bool (true)]) [some ⟨1, (lcU [.agg (G (k)), .int .i64 (((n : Nat) : Int))])⟩]) ∧
    (somU [.agg (G (k)), .int .i64 (((n : Nat) : Int))] = false →
      R (.tup [.nils, .bool (false)]) [])) := by kernel_rfl
theorem leL_ok (G : Nat → List AV) (B : Nat) (k n : Nat) : DLoopOk (⟨Try.prog, G, B⟩ : Ctx) 0 (loopN Try.f16 0) (DLat 1627 (leQ G k n) 0 32 [0, 2, 3, 4, 5] (leO G k n)) := by
  refine DLat_ok rfl fun h => ?_
  obtain ⟨hl, hn, hk, ho⟩ := okT_iff.1 h
  suffices key : AWp (⟨Try.prog, G, B⟩ : Ctx) 0 (.loop (loopN Try.f16 0)) (fl 32 [0, 2, 3, 4, 5] [.slice true (.ro k) 0 n, .nils, .bool false, .slice true (.rw 0) 0 0, .int .i64 0]) [some ⟨1, []⟩] (lv 32 [0, 2, 3, 4, 5] ((leO G k n).post G 0)) from
    AWp.nil (H := []) (H' := []) 1 (by simp) (nilrs_fl (vs := [.slice true (.ro k) 0 n, .nils, .bool false, .slice true (.rw 0) 0 0, .int .i64 0]) ⟨.inl rfl, .inl rfl, .inl rfl, .inr ⟨rfl, rfl⟩, .inl rfl, trivial⟩) trivial key
  have hlo : ∀ m, m ≤ n → loF (G k) m ≤ 64 := by
    intro m hm
    induction m with
    | zero => simp [loF]
    | succ m ih =>
      have hb := okTst_iff.1 (ho m (by omega))
      have := ih (by omega)
      simp only [loF]; split <;> omega
  have hlo := hlo n (Nat.le_refl _)
  refine scanP (fun a => ∀ l, l < a → decide (lbF (G k) n l < 256) = true) (loF (G k) n) (fun a => [.slice true (.ro k) 0 n, .nils, .bool false, .slice true (.rw 0) 0 a, .int .i64 (a : Int)]) (fun a => [some ⟨1, lcT (G k) n a⟩]) (fun l hl => by omega) fun a ha hall => ?_
  refine dloop_ok (C := (⟨Try.prog, G, B⟩ : Ctx)) (by rw [show loopsOf (loopN Try.f16 0) = [loopN Try.f16 1] by kernel_rfl]; exact dgood (inl := []) (ls := [(DLat 1626 (lbQ G k n a) 2 32 [0, 2, 3, 4, 5, 6] (lbO G k n a))]) (M := 0) (mixF G B) (by kernel_rfl) (progG_ok G B) (.cons (i := 2) (by kernel_rfl) rfl (lbL_ok G B k n a) .nil)) (fuel := 300) (n0 := 20) (m := 0) (c := loopN Try.f16 0) (vs := [.slice true (.ro (.var 1 k)) (.lit 0) (.var 2 n), .nils, .bool (.lit false), .slice true (.rw 0) (.lit 0) (.var 7 a), .int .i64 (.ofN (.var 7 a))]) (H := [some ⟨1, .var 8 (lcT (G k) n a)⟩]) (by simp) ?_
  rw [le_b, loU_eq hl, (lbU_eq (a := a) hl).1, (lbU_eq (a := a) hl).2]
  have hle := lbF_le (cs := G k) (n := n) (a := a)
  refine ⟨okTU_eq h, fun h1 => ⟨stQ_refl h rfl (by simp only [encHB, List.map_cons, List.map_nil, noRcds, noRcd, (lcT_flat _).2.2.1]; rfl), fun h2 => ?_, fun h2 => ?_⟩, fun h1 => ?_⟩
  · have h1 := of_decide_eq_true h1
    have h2 : lbF (G k) n a = 256 := by have := eq_of_beq h2; omega
    refine .inr ⟨?_, rfl, .inr (View.same (H := []) (by simp) rfl (by simp [fv, vVs, vV, vB, bnd]))⟩
    show somU [.agg (G k), .int .i64 (n : Int)] = false
    rw [(leU_eq hl).1]
    exact allTo_false (i := a) (by omega) (decide_eq_false (by omega))
  · have h1 := of_decide_eq_true h1
    have h2 : lbF (G k) n a ≠ 256 := fun e => by rw [e] at h2; simp at h2
    refine ⟨leB_iff.2 (by omega), by rw [lcT_len]; exact Nat.beq_refl _, by omega, fun l hl => ?_, .inr ?_⟩
    · by_cases e : l = a
      · subst e; exact decide_eq_true (by omega)
      · exact hall l (by omega)
    · rw [i64_in (by omega), show IntKind.u8.wrap (lbF (G k) n a : Int) = (lbF (G k) n a : Int) from IntWalk.u8_in _ (by omega)]
      have f1 := (lcT_flat (cs := G k) (n := n) (a + 1)).1
      exact View.renM (θ := [2]) (by simp) (fun i hi => by omega) (by decide) ⟨⟨bnds_mono (Nat.zero_le _) _ f1, by rw [rens_flat _ _ f1]; rfl⟩, trivial⟩ (by simp [bnds, bnd]) (by simp [rens, ren, wk])
  · have h1 := of_decide_eq_false h1
    have ea : a = loF (G k) n := by omega
    have es : somF (G k) n = true := allTo_iff.2 (by rw [← ea]; exact hall)
    refine .inl ⟨by show somU [.agg (G k), .int .i64 (n : Int)] = true; rw [(leU_eq hl).1, es], rfl, .inl ⟨?_, ?_⟩⟩
    · simp only [vVs, vV, vI, vB, vN, vR, vL, wk, (leU_eq hl).2.1, lnF, es, if_true, ea, and_self]
    · simp only [vHp, List.map_cons, List.map_nil, Option.map_some, vBlk, vL, vVs, vV, vI, vN, (leU_eq hl).2.2, lcF, lnF, es, if_true, ea]
theorem le_call (G : Nat → List AV) (B : Nat) (k n : Nat) (h : okT (G k) n = true) : ACalls (⟨Try.prog, G, B⟩ : Ctx) 16 [.slice true (.ro k) 0 n] [] fun v H => v = .tup [.slice true (.rw 0) 0 (lnF (G k) n), .bool (somF (G k) n)] ∧ H = [some ⟨1, lcF (G k) n⟩] := by
  have hl := (okT_iff.1 h).1
  have := dcall_ok (C := (⟨Try.prog, G, B⟩ : Ctx)) (fuel := 300) (n0 := 20) (f := 16) (fn := Try.f16) (args := [.slice true (.ro (.var 1 k)) (.lit 0) (.var 2 n)]) (H := []) (keep := 9)
    (R := fun v H => (somF (G k) n = true ∧ v = .tup [.slice true (.rw 0) 0 (lnF (G k) n), .bool true] ∧ H = [some ⟨1, lcF (G k) n⟩]) ∨ (somF (G k) n = false ∧ v = .tup [.nils, .bool false])) (by rw [show loopsOf (bodyOf Try.f16) = [loopN Try.f16 0, loopN Try.f16 1] by kernel_rfl]; exact dgood (inl := []) (ls := [DLat 1627 (leQ G k n) 0 32 [0, 2, 3, 4, 5] (leO G k n)]) (M := 0) (mixF G B) (by kernel_rfl) (progG_ok G B) (.cons (i := 0) (by kernel_rfl) rfl (leL_ok G B k n) (.miss (i := 2) (by kernel_rfl) rfl .nil))) (by kernel_rfl) (by kernel_rfl) (by kernel_rfl) (by
    rw [t16, (leU_eq hl).1, (leU_eq hl).2.1, (leU_eq hl).2.2]
    exact ⟨stQ_refl h rfl rfl, fun e => .inl ⟨e, rfl, rfl⟩, fun e => .inr ⟨e, rfl⟩⟩)
  refine ACalls.one (b := ⟨1, lcF (G k) n⟩) this (lcT_flat _).1 (by simp [bnd, bnds]) (fun j => by simp [ren, rens]) ?_
  rintro v H (⟨e, rfl, hH⟩ | ⟨e, rfl⟩)
  · refine .inl ⟨0, ?_, by rw [e]; rfl⟩
    cases H with
    | nil => simp at hH
    | cons b H => simp at hH; simp [hH.1]
  · refine .inr ⟨by simp only [lcF, lnF, e]; rfl, ?_⟩
    simp only [lnF, e]
    exact ⟨.inr ⟨rfl, rfl⟩, .inl rfl, trivial⟩
end Go.Am
