/-
  Filters: what tests say of each byte; the document's questions.
-/
import Derived.Test.YtnkcfoicbkobbaaFlE
import Derived.Test.YtnkcfoicbkobbaaBase7
namespace Go.Am
open Go.Proofs
set_option maxRecDepth 100000
theorem okF_of {cs : List AV} {n : Nat} (h : allTo (okTst cs) n = true) : okF cs n := fun i hi => allTo_iff.1 h i hi
theorem int_nat (n : Nat) : ((n : Int)).toNat = n := Int.toNat_natCast n
/-! ### Long -/
def loU : List AV → Int := fun xs => match xs with
  | [.agg cs, .int _ n] => (loF (ctT cs n.toNat) n.toNat : Int)
  | _ => 0
theorem loU_eq {cs : List AV} {n : Nat} (h : cs.length = n * 3) : loU [.agg cs, .int .i64 (n : Int)] = (loF cs n : Int) := by
  simp only [loU, int_nat, ctT_all h]
def loQ (G : Nat → List AV) (k n : Nat) : List AV → Bool := stQ (okT (G k) n) [.slice true (.ro k) 0 n, .int .i64 0, .int .i64 0] []
def loO (G : Nat → List AV) (k n : Nat) : LOut := .one (.exit 0) [.slice true (.ro (.var 1 k)) (.lit 0) (.var 2 n), .int .i64 (.uf 1609 loU [.agg (.ro (.var 1 k)), .int .i64 (.ofN (.var 2 n))]), .undef] []
theorem loL_ok (G : Nat → List AV) (B : Nat) (k n : Nat) : DLoopOk (⟨Try.prog, G, B⟩ : Ctx) 0 (loopN Try.f29 0) (DLat 1620 (loQ G k n) 0 20 [0, 3, 4] (loO G k n)) := by
  refine DLat_ok rfl fun h => ?_
  obtain ⟨hl, hn, hk, ho⟩ := okT_iff.1 h
  refine scan n (fun i => [.slice true (.ro k) 0 n, .int .i64 (loF (G k) i : Int), .int .i64 (i : Int)]) (fun _ => []) fun i hi => ?_
  refine dloop_ok (C := (⟨Try.prog, G, B⟩ : Ctx)) (dgF G B) (fuel := 300) (n0 := 20) (m := 0) (c := loopN Try.f29 0) (vs := [.slice true (.ro (.var 1 k)) (.lit 0) (.var 2 n), .int .i64 (.var 7 (loF (G k) i : Int)), .int .i64 (.var 6 (i : Int))]) (H := []) (by simp) ?_
  rw [lo_b, int_nat]
  refine ⟨fun h => ?_, fun h => ?_⟩
  · have hin : i < n := by have := of_decide_eq_true h; omega
    have hb := okTst_iff.1 (ho i hin)
    refine ⟨decide_eq_true (by omega), h, (tst_isI hk hin).1, hin, .inl ⟨?_, rfl⟩⟩
    have e : getI (G k) (i * 3) = tA (G k) i := rfl
    rw [e, i64_in (by omega), i64_in (by omega)]
    simp only [loF, List.cons.injEq, AV.int.injEq, true_and, and_true]
    refine ⟨?_, by omega⟩
    split <;> split <;> omega
  · have : i = n := by have := of_decide_eq_false h; omega
    subst this
    refine ⟨rfl, .inl ⟨?_, rfl⟩⟩
    simp only [vVs, vV, vI, vN, vR, vL, wk, loU_eq hl, and_self]
theorem t29 (G : Nat → List AV) (k n : Nat) (Q : Ex → List AV → Hp → Prop) (R : AV → Hp → Prop) : vT G Q R (dcall (Dc Try.prog [] [] [DLat 1620 (loQ G k n) 0 20 [0, 3, 4] (loO G k n)] 0) 300 20 Try.f29 [.slice true (.ro (.var 1 k)) (.lit 0) (.var 2 n)] [] 0) = (
    (loQ G k n) [.agg ([.slice true (.ro (k)) (0) (n), .int .i64 (0), .int .i64 (0)] : List AV), .agg ([] : List AV)] = true ∧
    R (.int .i64 (loU [.agg (G (k)), .int .i64 (((n : Nat) : Int))])) []) := by kernel_rfl
theorem lo_call (G : Nat → List AV) (B : Nat) (k n : Nat) (h : okT (G k) n = true) : ACalls (⟨Try.prog, G, B⟩ : Ctx) 29 [.slice true (.ro k) 0 n] [] fun v _ => v = .int .i64 (loF (G k) n : Int) := by
  have := dcall_ok (C := (⟨Try.prog, G, B⟩ : Ctx)) (fuel := 300) (n0 := 20) (f := 29) (fn := Try.f29) (args := [.slice true (.ro (.var 1 k)) (.lit 0) (.var 2 n)]) (H := []) (keep := 0)
    (R := fun v _ => v = .int .i64 (loF (G k) n : Int)) (dgood (mixF G B) (by kernel_rfl) .nil (.cast (.cons (i := 0) (by kernel_rfl) rfl (loL_ok G B k n) .nil) (by kernel_rfl))) (by kernel_rfl) (by kernel_rfl) (by kernel_rfl) (by
    rw [t29]
    exact ⟨stQ_refl h rfl rfl, by rw [loU_eq (okT_iff.1 h).1]⟩)
  exact this.monoK fun v H' h => h
/-! ### Byte -/
def byU : List AV → Bool := fun xs => match xs with
  | [.agg cs, .int _ n, .int _ a, .int _ b] => byF (ctT cs n.toNat) n.toNat a.toNat b.toNat
  | _ => false
theorem byU_eq {cs : List AV} {n a b : Nat} (h : cs.length = n * 3) : byU [.agg cs, .int .i64 (n : Int), .int .i64 (a : Int), .int .i64 (b : Int)] = byF cs n a b := by
  simp only [byU, int_nat, ctT_all h]
def btQ (G : Nat → List AV) (k n a b : Nat) : List AV → Bool := stQ (okT (G k) n && Nat.ble b 255) [.slice true (.ro k) 0 n, .int .i64 (a : Int), .int .i64 (b : Int), .bool false, .int .i64 0] []
def btO (G : Nat → List AV) (k n a b : Nat) : LOut := .tst (.uf 1610 byU [.agg (.ro (.var 1 k)), .int .i64 (.ofN (.var 2 n)), .int .i64 (.ofN (.var 7 a)), .int .i64 (.ofN (.var 8 b))]) (.one (.exit 0) [.undef, .undef, .undef, .undef, .undef] []) (.one .ret [.undef, .undef, .undef, .bool (.lit false), .undef] [])
theorem btL_ok (G : Nat → List AV) (B : Nat) (k n a b : Nat) : DLoopOk (⟨Try.prog, G, B⟩ : Ctx) 0 (loopN Try.f30 0) (DLat 1621 (btQ G k n a b) 0 36 [0, 1, 2, 6, 7] (btO G k n a b)) := by
  refine DLat_ok rfl fun h => ?_
  rw [Bool.and_eq_true] at h
  obtain ⟨h, hb8⟩ := h
  have hb8 := Nat.le_of_ble_eq_true hb8
  obtain ⟨hl, hn, hk, ho⟩ := okT_iff.1 h
  refine scanP (fun i => ∀ l, l < i → (!(tA (G k) l == (a : Int)) || (b &&& tmN (G k) l == tvN (G k) l)) = true) n (fun i => [.slice true (.ro k) 0 n, .int .i64 (a : Int), .int .i64 (b : Int), .bool false, .int .i64 (i : Int)]) (fun _ => []) (fun l hl => by omega) fun i hi hall => ?_
  refine dloop_ok (C := (⟨Try.prog, G, B⟩ : Ctx)) (dgF G B) (fuel := 300) (n0 := 20) (m := 0) (c := loopN Try.f30 0) (vs := [.slice true (.ro (.var 1 k)) (.lit 0) (.var 2 n), .int .i64 (.var 7 (a : Int)), .int .i64 (.var 8 (b : Int)), .bool (.lit false), .int .i64 (.var 6 (i : Int))]) (H := []) (by simp) ?_
  rw [bt_b, int_nat]
  have ext : i < n → (!(tA (G k) i == (a : Int)) || (b &&& tmN (G k) i == tvN (G k) i)) = true → ∀ l, l < i + 1 → (!(tA (G k) l == (a : Int)) || (b &&& tmN (G k) l == tvN (G k) l)) = true := fun hin q l hl => by
    by_cases e : l = i
    · subst e; exact q
    · exact hall l (by omega)
  refine ⟨fun h => ?_, fun h => ?_⟩
  · have hin : i < n := by have := of_decide_eq_true h; omega
    obtain ⟨e0, e1, e2⟩ := tst_isI hk hin
    have hb := okTst_iff.1 (ho i hin)
    have eA : getI (G k) (i * 3) = tA (G k) i := rfl
    have eM : getI (G k) (i * 3 + 1) = tM (G k) i := rfl
    have eV : getI (G k) (i * 3 + 2) = tV (G k) i := rfl
    rw [eA, eM, eV, (tM_nat ho hin).1, (tV_nat ho hin).1, kAnd_nat (by omega) (tM_nat ho hin).2, i64_in (by omega)]
    have ec : (((b &&& tmN (G k) i : Nat) : Int) == (tvN (G k) i : Int)) = (b &&& tmN (G k) i == tvN (G k) i) := by rw [Bool.eq_iff_iff, beq_iff_eq, beq_iff_eq]; omega
    rw [ec]
    refine ⟨decide_eq_true (by omega), h, e0, fun h1 => ⟨decide_eq_true (by omega), h, e1, decide_eq_true (by omega), h, e2, fun h2 => ⟨hin, ext hin (by rw [h2, Bool.or_true]), .inl ⟨rfl, rfl⟩⟩, fun h2 => ?_⟩, fun h1 => ⟨hin, ext hin (by rw [h1]; rfl), .inl ⟨rfl, rfl⟩⟩⟩
    refine .inr ⟨?_, rfl, .inl ⟨by simp [vVs, vV, vI, vB, wk], rfl⟩⟩
    show byU [.agg (G k), .int .i64 (n : Int), .int .i64 (a : Int), .int .i64 (b : Int)] = false
    rw [byU_eq hl]
    exact allTo_false hin (by rw [h1, h2]; rfl)
  · have : i = n := by have := of_decide_eq_false h; omega
    subst this
    refine .inl ⟨?_, rfl, .inl ⟨by simp [vVs, vV, vI, vB, wk], rfl⟩⟩
    show byU [.agg (G k), .int .i64 (i : Int), .int .i64 (a : Int), .int .i64 (b : Int)] = true
    rw [byU_eq hl]
    exact allTo_iff.2 hall
theorem t30 (G : Nat → List AV) (k n a b : Nat) (Q : Ex → List AV → Hp → Prop) (R : AV → Hp → Prop) : vT G Q R (dcall (Dc Try.prog [] [] [DLat 1621 (btQ G k n a b) 0 36 [0, 1, 2, 6, 7] (btO G k n a b)] 0) 300 20 Try.f30 [.slice true (.ro (.var 1 k)) (.lit 0) (.var 2 n), .int .i64 (.ofN (.var 7 a)), .int .i64 (.ofN (.var 8 b))] [] 0) = (
    (btQ G k n a b) [.agg ([.slice true (.ro (k)) (0) (n), .int .i64 (((a : Nat) : Int)), .int .i64 (((b : Nat) : Int)), .bool (false), .int .i64 (0)] : List AV), .agg ([] : List AV)] = true ∧
    (byU [.agg (G (k)), .int .i64 (((n : Nat) : Int)), .int .i64 (((a : Nat) : Int)), .int .i64 (((b : Nat) : Int))] = true →
      R (.bool (true)) []) ∧
    (byU [.agg (G (k)), .int .i64 (((n : Nat) : Int)), .int .i64 (((a : Nat) : Int)), .int .i64 (((b : Nat) : Int))] = false →
      R (.bool (false)) [])) := by kernel_rfl
theorem bt_call (G : Nat → List AV) (B : Nat) (k n a b : Nat) (h : okT (G k) n = true) (hb : b ≤ 255) : ACalls (⟨Try.prog, G, B⟩ : Ctx) 30 [.slice true (.ro k) 0 n, .int .i64 (a : Int), .int .i64 (b : Int)] [] fun v _ => v = .bool (byF (G k) n a b) := by
  have := dcall_ok (C := (⟨Try.prog, G, B⟩ : Ctx)) (fuel := 300) (n0 := 20) (f := 30) (fn := Try.f30) (args := [.slice true (.ro (.var 1 k)) (.lit 0) (.var 2 n), .int .i64 (.ofN (.var 7 a)), .int .i64 (.ofN (.var 8 b))]) (H := []) (keep := 0)
    (R := fun v _ => v = .bool (byF (G k) n a b)) (dgood (mixF G B) (by kernel_rfl) .nil (.cast (.cons (i := 0) (by kernel_rfl) rfl (btL_ok G B k n a b) .nil) (by kernel_rfl))) (by kernel_rfl) (by kernel_rfl) (by kernel_rfl) (by
    rw [t30, byU_eq (okT_iff.1 h).1]
    exact ⟨stQ_refl (by rw [h, Nat.ble_eq_true_of_le hb]; rfl) rfl rfl, fun e => by rw [e], fun e => by rw [e]⟩)
  exact this.monoK fun v H' h => h
/-! ### mask -/
def mkU : List AV → Int := fun xs => match xs with
  | [.agg cs, .int _ n, .int _ a] => (mkAt (ctT cs n.toNat) n.toNat a.toNat : Int)
  | _ => 0
theorem mkU_eq {cs : List AV} {n a : Nat} (h : cs.length = n * 3) : mkU [.agg cs, .int .i64 (n : Int), .int .i64 (a : Int)] = (mkAt cs n a : Int) := by
  simp only [mkU, int_nat, ctT_all h]
def mkQ (G : Nat → List AV) (k n a : Nat) : List AV → Bool := stQ (okT (G k) n) [.slice true (.ro k) 0 n, .int .i64 (a : Int), .int .i64 0, .int .i64 0] []
def mkO (G : Nat → List AV) (k n a : Nat) : LOut := .one (.exit 0) [.undef, .undef, .int .i64 (.uf 1611 mkU [.agg (.ro (.var 1 k)), .int .i64 (.ofN (.var 2 n)), .int .i64 (.ofN (.var 7 a))]), .undef] []
theorem mkL_ok (G : Nat → List AV) (B : Nat) (k n a : Nat) : DLoopOk (⟨Try.prog, G, B⟩ : Ctx) 0 (loopN Try.f31 0) (DLat 1622 (mkQ G k n a) 0 28 [0, 1, 5, 6] (mkO G k n a)) := by
  refine DLat_ok rfl fun h => ?_
  obtain ⟨hl, hn, hk, ho⟩ := okT_iff.1 h
  refine scan n (fun i => [.slice true (.ro k) 0 n, .int .i64 (a : Int), .int .i64 (mkAt (G k) i a : Int), .int .i64 (i : Int)]) (fun _ => []) fun i hi => ?_
  refine dloop_ok (C := (⟨Try.prog, G, B⟩ : Ctx)) (dgF G B) (fuel := 300) (n0 := 20) (m := 0) (c := loopN Try.f31 0) (vs := [.slice true (.ro (.var 1 k)) (.lit 0) (.var 2 n), .int .i64 (.var 7 (a : Int)), .int .i64 (.var 8 (mkAt (G k) i a : Int)), .int .i64 (.var 6 (i : Int))]) (H := []) (by simp) ?_
  rw [mk_b, int_nat]
  refine ⟨fun h => ?_, fun h => ?_⟩
  · have hin : i < n := by have := of_decide_eq_true h; omega
    obtain ⟨e0, e1, e2⟩ := tst_isI hk hin
    have eA : getI (G k) (i * 3) = tA (G k) i := rfl
    have eM : getI (G k) (i * 3 + 1) = tM (G k) i := rfl
    rw [eA, eM, (tM_nat ho hin).1, kOr_nat (mkAt_lt (ho.mono hi) a) (tM_nat ho hin).2, i64_in (by omega)]
    refine ⟨decide_eq_true (by omega), h, e0, fun h1 => ⟨decide_eq_true (by omega), h, e1, hin, .inl ⟨?_, rfl⟩⟩, fun h1 => ⟨hin, .inl ⟨?_, rfl⟩⟩⟩
    · simp only [mkAt, h1, if_true]; rfl
    · simp only [mkAt, h1, Bool.false_eq_true, if_false]; rfl
  · have : i = n := by have := of_decide_eq_false h; omega
    subst this
    refine ⟨rfl, .inl ⟨?_, rfl⟩⟩
    simp only [vVs, vV, vI, vN, vR, vL, wk, mkU_eq hl, and_self]
theorem t31 (G : Nat → List AV) (k n a : Nat) (Q : Ex → List AV → Hp → Prop) (R : AV → Hp → Prop) : vT G Q R (dcall (Dc Try.prog [] [] [DLat 1622 (mkQ G k n a) 0 28 [0, 1, 5, 6] (mkO G k n a)] 0) 300 20 Try.f31 [.slice true (.ro (.var 1 k)) (.lit 0) (.var 2 n), .int .i64 (.ofN (.var 7 a))] [] 0) = (
    (mkQ G k n a) [.agg ([.slice true (.ro (k)) (0) (n), .int .i64 (((a : Nat) : Int)), .int .i64 (0), .int .i64 (0)] : List AV), .agg ([] : List AV)] = true ∧
    R (.int .i64 (mkU [.agg (G (k)), .int .i64 (((n : Nat) : Int)), .int .i64 (((a : Nat) : Int))])) []) := by kernel_rfl
theorem mk_call (G : Nat → List AV) (B : Nat) (k n a : Nat) (h : okT (G k) n = true) : ACalls (⟨Try.prog, G, B⟩ : Ctx) 31 [.slice true (.ro k) 0 n, .int .i64 (a : Int)] [] fun v _ => v = .int .i64 (mkAt (G k) n a : Int) := by
  have := dcall_ok (C := (⟨Try.prog, G, B⟩ : Ctx)) (fuel := 300) (n0 := 20) (f := 31) (fn := Try.f31) (args := [.slice true (.ro (.var 1 k)) (.lit 0) (.var 2 n), .int .i64 (.ofN (.var 7 a))]) (H := []) (keep := 0)
    (R := fun v _ => v = .int .i64 (mkAt (G k) n a : Int)) (dgood (mixF G B) (by kernel_rfl) .nil (.cast (.cons (i := 0) (by kernel_rfl) rfl (mkL_ok G B k n a) .nil) (by kernel_rfl))) (by kernel_rfl) (by kernel_rfl) (by kernel_rfl) (by
    rw [t31, mkU_eq (okT_iff.1 h).1]
    exact ⟨stQ_refl h rfl rfl, rfl⟩)
  exact this.monoK fun v H' h => h
/-! ### two lists -/
def stU : List AV → Bool := fun xs => match xs with
  | [.agg cs, .int _ n, .agg ds, .int _ m] => stF (ctT cs n.toNat) n.toNat (ctT ds m.toNat) m.toNat
  | _ => false
theorem stU_eq {cs ds : List AV} {n m : Nat} (h : cs.length = n * 3) (h2 : ds.length = m * 3) : stU [.agg cs, .int .i64 (n : Int), .agg ds, .int .i64 (m : Int)] = stF cs n ds m := by
  simp only [stU, int_nat, ctT_all h, ctT_all h2]
def stQ2 (G : Nat → List AV) (k n k2 m : Nat) : Bool := Nat.beq n m && (okT (G k) n && okT (G k2) m)
def stE (G : Nat → List AV) (k n k2 m : Nat) : List AV → Bool := stQ (stQ2 G k n k2 m) [.slice true (.ro k) 0 n, .slice true (.ro k2) 0 m, .bool false, .int .i64 0] []
def stO (G : Nat → List AV) (k n k2 m : Nat) : LOut := .tst (.uf 1612 stU [.agg (.ro (.var 1 k)), .int .i64 (.ofN (.var 2 n)), .agg (.ro (.var 3 k2)), .int .i64 (.ofN (.var 4 m))]) (.one (.exit 0) [.undef, .undef, .undef, .undef] []) (.one .ret [.undef, .undef, .bool (.lit false), .undef] [])
theorem stL_ok (G : Nat → List AV) (B : Nat) (k n k2 m : Nat) : DLoopOk (⟨Try.prog, G, B⟩ : Ctx) 0 (loopN Try.f17 0) (DLat 1623 (stE G k n k2 m) 0 26 [0, 1, 4, 5] (stO G k n k2 m)) := by
  refine DLat_ok rfl fun h => ?_
  simp only [stQ2, Bool.and_eq_true] at h
  obtain ⟨hnm, h, h2⟩ := h
  obtain ⟨hl, hn, hk, ho⟩ := okT_iff.1 h
  obtain ⟨hl2, hn2, hk2, ho2⟩ := okT_iff.1 h2
  have hnm := Nat.eq_of_beq_eq_true hnm
  have key : stU [.agg (G k), .int .i64 (n : Int), .agg (G k2), .int .i64 (m : Int)] = allTo (rowEq (G k) (G k2)) n := by
    rw [stU_eq hl hl2, stF, hnm, Nat.beq_refl]; rfl
  refine scanP (fun i => ∀ l, l < i → rowEq (G k) (G k2) l = true) n (fun i => [.slice true (.ro k) 0 n, .slice true (.ro k2) 0 m, .bool false, .int .i64 (i : Int)]) (fun _ => []) (fun l hl => by omega) fun i hi hall => ?_
  refine dloop_ok (C := (⟨Try.prog, G, B⟩ : Ctx)) (dgF G B) (fuel := 300) (n0 := 20) (m := 0) (c := loopN Try.f17 0) (vs := [.slice true (.ro (.var 1 k)) (.lit 0) (.var 2 n), .slice true (.ro (.var 3 k2)) (.lit 0) (.var 4 m), .bool (.lit false), .int .i64 (.var 6 (i : Int))]) (H := []) (by simp) ?_
  rw [st_b, int_nat]
  refine ⟨fun h => ?_, fun h => ?_⟩
  · have hin : i < n := by have := of_decide_eq_true h; omega
    have bad : rowEq (G k) (G k2) i = false → (stO G k n k2 m).post G 0 .ret [.slice true (.ro k) 0 n, .slice true (.ro k2) 0 m, .bool false, .int .i64 (i : Int)] [] := fun hb =>
      .inr ⟨by show stU _ = false; rw [show stU (vVs G [.agg (.ro (.var 1 k)), .int .i64 (.ofN (.var 2 n)), .agg (.ro (.var 3 k2)), .int .i64 (.ofN (.var 4 m))]) = _ from key]; exact allTo_false hin hb, rfl, .inl ⟨by simp [vVs, vV, vI, vB, wk], rfl⟩⟩
    rw [i64_in (by omega)]
    refine ⟨decide_eq_true (by omega), h, leafs3F hk hin, decide_eq_true (by omega), decide_eq_true (by omega), leafs3F hk2 (by omega), fun h1 => ⟨fun h2 => ⟨fun h3 => ⟨hin, fun l hl => ?_, .inl ⟨rfl, rfl⟩⟩, fun h3 => bad ?_⟩, fun h2 => bad ?_⟩, fun h1 => bad ?_⟩
    · by_cases e : l = i
      · subst e; simp only [rowEq, tA, tM, tV, h1, h2, h3, Bool.and_self]
      · exact hall l (by omega)
    · simp only [rowEq, tA, tM, tV, h1, h2, h3, Bool.and_false]
    · simp only [rowEq, tA, tM, tV, h1, h2, Bool.false_and, Bool.and_false]
    · simp only [rowEq, tA, tM, tV, h1, Bool.false_and]
  · have : i = n := by have := of_decide_eq_false h; omega
    refine .inl ⟨by show stU _ = true; rw [show stU (vVs G [.agg (.ro (.var 1 k)), .int .i64 (.ofN (.var 2 n)), .agg (.ro (.var 3 k2)), .int .i64 (.ofN (.var 4 m))]) = _ from key]; exact allTo_iff.2 (by subst this; exact hall), rfl, .inl ⟨by simp [vVs, vV, vI, vB, wk], rfl⟩⟩
theorem t17 (G : Nat → List AV) (k n k2 m : Nat) (Q : Ex → List AV → Hp → Prop) (R : AV → Hp → Prop) : vT G Q R (dcall (Dc Try.prog [] [] [DLat 1623 (stE G k n k2 m) 0 26 [0, 1, 4, 5] (stO G k n k2 m)] 0) 300 20 Try.f17 [.slice true (.ro (.var 1 k)) (.lit 0) (.var 2 n), .slice true (.ro (.var 3 k2)) (.lit 0) (.var 4 m)] [] 0) = (
    (((((n : Nat) : Int) : Int) == ((m : Nat) : Int)) = true →
      (stE G k n k2 m) [.agg ([.slice true (.ro (k)) (0) (n), .slice true (.ro (k2)) (0) (m), .bool (false), .int .i64 (0)] : List AV), .agg ([] : List AV)] = true ∧
      (stU [.agg (G (k)), .int .i64 (((n : Nat) : Int)), .agg (G (k2)), .int .i64 (((m : Nat) : Int))] = true →
        R (.bool (true)) []) ∧
      (stU [.agg (G (k)), .int .i64 (((n : Nat) : Int)), .agg (G (k2)), .int .i64 (((m : Nat) : Int))] = false →
        R (.bool (false)) [])) ∧
    (((((n : Nat) : Int) : Int) == ((m : Nat) : Int)) = false →
      R (.bool (false)) [])) := by kernel_rfl
theorem st_call (G : Nat → List AV) (B : Nat) (k n k2 m : Nat) (h : okT (G k) n = true) (h2 : okT (G k2) m = true) : ACalls (⟨Try.prog, G, B⟩ : Ctx) 17 [.slice true (.ro k) 0 n, .slice true (.ro k2) 0 m] [] fun v _ => v = .bool (stF (G k) n (G k2) m) := by
  have := dcall_ok (C := (⟨Try.prog, G, B⟩ : Ctx)) (fuel := 300) (n0 := 20) (f := 17) (fn := Try.f17) (args := [.slice true (.ro (.var 1 k)) (.lit 0) (.var 2 n), .slice true (.ro (.var 3 k2)) (.lit 0) (.var 4 m)]) (H := []) (keep := 0)
    (R := fun v _ => v = .bool (stF (G k) n (G k2) m)) (dgood (mixF G B) (by kernel_rfl) .nil (.cast (.cons (i := 0) (by kernel_rfl) rfl (stL_ok G B k n k2 m) .nil) (by kernel_rfl))) (by kernel_rfl) (by kernel_rfl) (by kernel_rfl) (by
    rw [t17, stU_eq (okT_iff.1 h).1 (okT_iff.1 h2).1]
    refine ⟨fun e => ⟨stQ_refl ?_ rfl rfl, fun e => by rw [e], fun e => by rw [e]⟩, fun e => ?_⟩
    · have : n = m := by have := eq_of_beq e; omega
      simp only [stQ2, this, Nat.beq_refl, h2, Bool.true_and, Bool.and_true]
      rw [← this]; exact h
    · have : n ≠ m := by intro q; rw [q] at e; simp at e
      unfold stF
      cases hb : Nat.beq n m with
      | true => exact absurd (Nat.eq_of_beq_eq_true hb) this
      | false => rfl)
  exact this.monoK fun v H' h => h
end Go.Am
