/-
  SlicesApart: the loops' proofs and the run.
-/
import Derived.Test.YtfalglcagngbnaaSlI
namespace Go.Am
open Go.Proofs
set_option maxRecDepth 100000
def stepsT2 : List AV → Bool := fun xs => match xs with
  | [.agg g, .ptr _ n] => okI .i64 g 0 (n * 3)
  | _ => false
def JaU : List AV → Bool := fun xs => match xs with
  | [.agg cs, .agg ds] => @decide (Ja cs ds) (by unfold Ja; infer_instance)
  | _ => false
theorem leafs3 {i : Nat} {n : Nat} {cs : List AV} (hk : okI .i64 cs 0 (n * 3) = true) (h : i < n) : leafsOk cs (i * 3) [.int .i64, .int .i64, .int .i64] = true := by
  have h0 := okI_get hk (j := i * 3) (by omega)
  have h1 := okI_get hk (j := i * 3 + 1) (by omega)
  have h2 := okI_get hk (j := i * 3 + 1 + 1) (by omega)
  rw [Nat.zero_add] at h0 h1 h2
  simp [leafsOk, leafOk, h0, h1, h2]
def cells0 : List AV := .bool true :: (List.replicate 32 (.bool false) ++ List.replicate 225 (.int .i64 0))
/-- a table in which so many slots were opened, by two accounts in turn -/
def opTab : Nat → List AV
  | 0 => cells0
  | i + 1 => openR (opTab i) (IntKind.wrap .i64 (Int.tdiv ((i : Nat) : Int) 4))
theorem opTab_ok : ∀ i, okS (opTab i) = true
  | 0 => by kernel_rfl
  | i + 1 => okS_openR (opTab_ok i) _
theorem opTab_Ja : JaU [.agg (opTab 8), .agg (opTab 8)] = true := by kernel_rfl
theorem ap_body (G : Nat → List AV) (cs ds : List AV) (k n k2 n2 i : Nat) (Q : Ex → List AV → Hp → Prop) (R : AV → Hp → Prop) (hJ : Ja cs ds) (hk : okI .i64 (G k) 0 (n * 3) = true) (hk2 : okI .i64 (G k2) 0 (n2 * 3) = true)
    (nx : i < 200 → ∀ cs' ds' Gx, Ja cs' ds' → Q .normal [.slice true (.ro k) 0 n, .slice true (.ro k2) 0 n2, .ptr (.rw 0) 0, .ptr (.rw 1) 0, .int .i64 (IntKind.wrap .i64 ((i : Int) + 1))] ([some ⟨1, cs'⟩, some ⟨1, ds'⟩] ++ Gx))
    (hend : 200 ≤ i → Q (.exit 2) [.slice true (.ro k) 0 n, .slice true (.ro k2) 0 n2, .ptr (.rw 0) 0, .ptr (.rw 1) 0, .int .i64 (i : Int)] [some ⟨1, cs⟩, some ⟨1, ds⟩]) :
    vT G Q R (dloop (Dc Try.prog [9, 16] progT [] 0) 600 20 0 (loopN Try.f5 1) 167 [0, 1, 5, 6, 8] [.slice true (.ro (.var 1 k)) (.lit 0) (.var 2 n), .slice true (.ro (.var 3 k2)) (.lit 0) (.var 4 n2), .ptr (.rw 0) (.lit 0), .ptr (.rw 1) (.lit 0), .int .i64 (.var 6 (i : Int))] [some ⟨1, .var 8 cs⟩, some ⟨1, .var 9 ds⟩]) := by
  rw [ap_b2]
  simp only [Int.toNat_natCast, okSU, okTU, giveRU, giveEU, pickRU, pickNU, pickEU]
  have bx := kAnd_le (getI (G k2) (i * 3 + 1)) (m := 3) (by omega) (by omega)
  have by' := kAnd_le (getI (G k2) (i * 3 + 2)) (m := 7) (by omega) (by omega)
  have ba := kAnd_le (getI (G k) (i * 3 + 1)) (m := 3) (by omega) (by omega)
  have bb := kAnd_le (getI (G k) (i * 3 + 2)) (m := 7) (by omega) (by omega)
  have ew : IntKind.wrap .i64 (4 + (kAnd .i64 (getI (G k2) (i * 3 + 1)) 3)) = 4 + (kAnd .i64 (getI (G k2) (i * 3 + 1)) 3) := i64_in (by omega)
  simp only [ew]
  have J1 := Ja_give4 hJ (a := 4 + (kAnd .i64 (getI (G k2) (i * 3 + 1)) 3)) (b := (kAnd .i64 (getI (G k2) (i * 3 + 2)) 7)) (by omega) (by omega) (by omega) (by omega)
  have J2 := Ja_pick4 hJ (a := 4 + (kAnd .i64 (getI (G k2) (i * 3 + 1)) 3)) (by omega) (by omega)
  have sc : ∀ {cs ds : List AV}, Ja cs ds → okS cs = true := fun h => (okT_iff.1 h.1).1
  have sd : ∀ {cs ds : List AV}, Ja cs ds → okS ds = true := fun h => (okT_iff.1 h.2.1).1
  have tc : ∀ {cs ds : List AV}, Ja cs ds → okT cs = true := fun h => h.1
  have td : ∀ {cs ds : List AV}, Ja cs ds → okT ds = true := fun h => h.2.1
  obtain ⟨ge0, gj0⟩ := Ja_give hJ (a := (kAnd .i64 (getI (G k) (i * 3 + 1)) 3)) (b := (kAnd .i64 (getI (G k) (i * 3 + 2)) 7)) (by omega) (by omega) (by omega) (by omega)
  obtain ⟨ge1, gj1⟩ := Ja_give J1 (a := (kAnd .i64 (getI (G k) (i * 3 + 1)) 3)) (b := (kAnd .i64 (getI (G k) (i * 3 + 2)) 7)) (by omega) (by omega) (by omega) (by omega)
  obtain ⟨ge2, gj2⟩ := Ja_give J2 (a := (kAnd .i64 (getI (G k) (i * 3 + 1)) 3)) (b := (kAnd .i64 (getI (G k) (i * 3 + 2)) 7)) (by omega) (by omega) (by omega) (by omega)
  obtain ⟨⟨pn0, pe0, pf, pl0⟩, pj0⟩ := Ja_pick hJ (a := (kAnd .i64 (getI (G k) (i * 3 + 1)) 3)) (by omega) (by omega)
  obtain ⟨⟨pn1, pe1, _, pl1⟩, pj1⟩ := Ja_pick J1 (a := (kAnd .i64 (getI (G k) (i * 3 + 1)) 3)) (by omega) (by omega)
  obtain ⟨⟨pn2, pe2, _, pl2⟩, pj2⟩ := Ja_pick J2 (a := (kAnd .i64 (getI (G k) (i * 3 + 1)) 3)) (by omega) (by omega)
  have pl : decide (pickN ds (kAnd .i64 (getI (G k) (i * 3 + 1)) 3) > 3) = false := decide_eq_false (by omega)
  simp only [ge0, ge1, ge2, pn0, pn1, pn2, pe0, pe1, pe2, pf, pl]
  simp only [beq_self_eq_true, sc hJ, sc J1, sc J2, sd hJ, tc hJ, tc J1, tc J2, td hJ, Bool.true_eq_false, Bool.false_eq_true, false_implies, true_implies, and_true, true_and, forall_const, reduceCtorEq]
  repeat' first | refine And.intro ?_ ?_ | intro _
  all_goals try simp only [decide_eq_true_eq, decide_eq_false_iff_not] at *
  all_goals first
    | omega
    | exact leafs3 hk (by omega)
    | exact leafs3 hk2 (by omega)
    | exact hend (by omega)
    | exact nx (by omega) cs ds [] hJ
    | exact nx (by omega) cs ds [_] hJ
    | exact nx (by omega) cs ds [_, _] hJ
    | exact nx (by omega) _ ds [] J1
    | exact nx (by omega) _ ds [_] J1
    | exact nx (by omega) _ ds [_, _] J1
    | exact nx (by omega) _ ds [] J2
    | exact nx (by omega) _ ds [_] J2
    | exact nx (by omega) _ ds [_, _] J2
    | exact nx (by omega) _ _ [_] gj0
    | exact nx (by omega) _ _ [_, _] gj0
    | exact nx (by omega) _ _ [_, _] gj1
    | exact nx (by omega) _ _ [_, _] gj2
    | exact nx (by omega) _ _ [_] pj0
    | exact nx (by omega) _ _ [_, _] pj0
    | exact nx (by omega) _ _ [_, _] pj1
    | exact nx (by omega) _ _ [_, _] pj2
def IA (k n k2 n2 : Nat) (j : Nat) (vs : List AV) (H : Hp) : Prop :=
  ∃ i : Nat, i ≤ 200 ∧ j = 200 - i ∧ vs = [.slice true (.ro k) 0 n, .slice true (.ro k2) 0 n2, .ptr (.rw 0) 0, .ptr (.rw 1) 0, .int .i64 (i : Int)] ∧ ∃ cs ds, Ja cs ds ∧ H = [some ⟨1, cs⟩, some ⟨1, ds⟩]
theorem hpB2 {cs ds : List AV} (h1 : okS cs = true) (h2 : okS ds = true) : hpB 2 [some ⟨1, cs⟩, some ⟨1, ds⟩] = true := by
  simp only [hpB, okS_flat h1, okS_flat h2, Bool.and_self]
theorem ap_loop2 (G : Nat → List AV) (B : Nat) (cs ds : List AV) (hJ : Ja cs ds) (k n k2 n2 : Nat) (hk : okI .i64 (G k) 0 (n * 3) = true) (hk2 : okI .i64 (G k2) 0 (n2 * 3) = true) :
    AWp (⟨Try.prog, G, B⟩ : Ctx) 0 (.loop (loopN Try.f5 1)) (fl 167 [0, 1, 5, 6, 8] [.slice true (.ro k) 0 n, .slice true (.ro k2) 0 n2, .ptr (.rw 0) 0, .ptr (.rw 1) 0, .int .i64 0]) [some ⟨1, cs⟩, some ⟨1, ds⟩]
      (lv 167 [0, 1, 5, 6, 8] fun e vs H => e = .exit 2 ∧ wk [.undef, .undef, .ptr (.rw 0) 0, .ptr (.rw 1) 0, .undef] vs ∧ ∃ cs ds, Ja cs ds ∧ H = [some ⟨1, cs⟩, some ⟨1, ds⟩]) := by
  refine aloop_lv (IA k n k2 n2) 200 ⟨0, by omega, rfl, rfl, cs, ds, hJ, rfl⟩ ?_
  rintro j vs H ⟨i, hi, rfl, rfl, cs, ds, hJ, rfl⟩
  refine dloop_ok (C := (⟨Try.prog, G, B⟩ : Ctx)) (dgA G B) (fuel := 600) (n0 := 20) (m := 0) (c := loopN Try.f5 1) (vs := [.slice true (.ro (.var 1 k)) (.lit 0) (.var 2 n), .slice true (.ro (.var 3 k2)) (.lit 0) (.var 4 n2), .ptr (.rw 0) (.lit 0), .ptr (.rw 1) (.lit 0), .int .i64 (.var 6 (i : Int))]) (H := [some ⟨1, .var 8 cs⟩, some ⟨1, .var 9 ds⟩]) (by simp) ?_
  refine ap_body G cs ds k n k2 n2 i _ _ hJ hk hk2 (fun hi' cs' ds' Gx hJ' => ?_) (fun h => ⟨rfl, by simp [wk], cs, ds, hJ, rfl⟩)
  refine ⟨200 - (i + 1), by omega, .inr ⟨[.slice true (.ro k) 0 n, .slice true (.ro k2) 0 n2, .ptr (.rw 0) 0, .ptr (.rw 1) 0, .int .i64 ((i + 1 : Nat) : Int)], [some ⟨1, cs'⟩, some ⟨1, ds'⟩], ⟨i + 1, by omega, rfl, rfl, cs', ds', hJ', rfl⟩, ?_⟩⟩
  rw [i64_in (by omega)]
  exact View.same (by simp) (hpB2 (okT_iff.1 hJ'.1).1 (okT_iff.1 hJ'.2.1).1) (by simp [fv, bnd])
theorem ap_loop0 (G : Nat → List AV) (B : Nat) (k n k2 n2 : Nat) :
    AWp (⟨Try.prog, G, B⟩ : Ctx) 0 (.loop (loopN Try.f5 0)) (fl 167 [0, 1, 5, 6, 7] [.slice true (.ro k) 0 n, .slice true (.ro k2) 0 n2, .ptr (.rw 0) 0, .ptr (.rw 1) 0, .int .i64 0]) [some ⟨1, cells0⟩, some ⟨1, cells0⟩]
      (lv 167 [0, 1, 5, 6, 7] fun e vs H => e = .exit 0 ∧ wk [.slice true (.ro k) 0 n, .slice true (.ro k2) 0 n2, .ptr (.rw 0) 0, .ptr (.rw 1) 0, .undef] vs ∧ H = [some ⟨1, opTab 8⟩, some ⟨1, opTab 8⟩]) := by
  refine aloop_lv (fun j vs H => ∃ i : Nat, i ≤ 8 ∧ j = 8 - i ∧ vs = [.slice true (.ro k) 0 n, .slice true (.ro k2) 0 n2, .ptr (.rw 0) 0, .ptr (.rw 1) 0, .int .i64 (i : Int)] ∧ H = [some ⟨1, opTab i⟩, some ⟨1, opTab i⟩]) 8 ⟨0, by omega, rfl, rfl, rfl⟩ ?_
  rintro j vs H ⟨i, hi, rfl, rfl, rfl⟩
  refine dloop_ok (C := (⟨Try.prog, G, B⟩ : Ctx)) (dgA G B) (fuel := 300) (n0 := 20) (m := 0) (c := loopN Try.f5 0) (vs := [.slice true (.ro (.var 1 k)) (.lit 0) (.var 2 n), .slice true (.ro (.var 3 k2)) (.lit 0) (.var 4 n2), .ptr (.rw 0) (.lit 0), .ptr (.rw 1) (.lit 0), .int .i64 (.var 6 (i : Int))]) (H := [some ⟨1, .var 8 (opTab i)⟩, some ⟨1, .var 9 (opTab i)⟩]) (by simp) ?_
  rw [ap_b0]
  refine ⟨fun h => ⟨opTab_ok i, opTab_ok i, ?_⟩, fun h => ⟨rfl, by simp [wk], ?_⟩⟩
  · have := of_decide_eq_true h
    exact ⟨8 - (i + 1), by omega, .inl ⟨i + 1, by omega, rfl, by rw [i64_in (by omega)]; rfl, rfl⟩⟩
  · have := of_decide_eq_false h
    rw [show i = 8 by omega]
theorem tell_F {cs : List AV} {i : Nat} (hi : i < 32) (ho : sO cs i = true) : getI (tellLU [.agg cs, .int .i64 (i : Int)]) 2 = sG cs i ∧ getI (tellLU [.agg cs, .int .i64 (i : Int)]) 3 = sP cs i ∧ getI (tellLU [.agg cs, .int .i64 (i : Int)]) 4 = sR cs i := by
  show getI (tellL cs (i : Int)) 2 = sG cs i ∧ getI (tellL cs (i : Int)) 3 = sP cs i ∧ getI (tellL cs (i : Int)) 4 = sR cs i
  unfold tellL
  rw [isO_nat hi, ho, if_pos rfl, Int.toNat_natCast]
  unfold subL sG sP sR getI
  rw [List.getElem?_take, if_pos (by omega), List.getElem?_drop, List.getElem?_take, if_pos (by omega), List.getElem?_drop, List.getElem?_take, if_pos (by omega), List.getElem?_drop]
  exact ⟨rfl, rfl, rfl⟩
theorem ap_loop6 (G : Nat → List AV) (B : Nat) (cs ds : List AV) (hJ : Ja cs ds) :
    AWp (⟨Try.prog, G, B⟩ : Ctx) 0 (.loop (loopN Try.f5 2)) (fl 167 [5, 6, 15] [.ptr (.rw 0) 0, .ptr (.rw 1) 0, .int .i64 0]) [some ⟨1, cs⟩, some ⟨1, ds⟩]
      (lv 167 [5, 6, 15] fun e vs H => e = .exit 6 ∧ wk [.undef, .undef, .undef] vs ∧ H = [some ⟨1, cs⟩, some ⟨1, ds⟩]) := by
  refine aloop_lv (fun j vs H => ∃ i : Nat, i ≤ 4 ∧ j = 4 - i ∧ vs = [.ptr (.rw 0) 0, .ptr (.rw 1) 0, .int .i64 (i : Int)] ∧ H = [some ⟨1, cs⟩, some ⟨1, ds⟩]) 4 ⟨0, by omega, rfl, rfl, rfl⟩ ?_
  rintro j vs H ⟨i, hi, rfl, rfl, rfl⟩
  refine dloop_ok (C := (⟨Try.prog, G, B⟩ : Ctx)) (dgA G B) (fuel := 300) (n0 := 20) (m := 0) (c := loopN Try.f5 2) (vs := [.ptr (.rw 0) (.lit 0), .ptr (.rw 1) (.lit 0), .int .i64 (.var 6 (i : Int))]) (H := [some ⟨1, .var 8 cs⟩, some ⟨1, .var 9 ds⟩]) (by simp) ?_
  rw [ap_b6]
  have hs := (okT_iff.1 hJ.1).1
  have hs' := (okT_iff.1 hJ.2.1).1
  refine ⟨fun h => ⟨hs, hs', ?_⟩, fun h => ⟨rfl, by simp [wk], rfl⟩⟩
  have hi4 : i < 4 := by have := of_decide_eq_true h; omega
  have hA := (hJ.2.2.1 i (by omega)).1
  have hB := hJ.2.2.2.1 i hi4
  obtain ⟨f1, f2, f3⟩ := tell_F (cs := cs) (by omega) hA.1
  obtain ⟨g1, g2, g3⟩ := tell_F (cs := ds) (by omega) hA.2
  simp only [f1, f2, f3, g1, g2, g3, hB.1.1, hB.2.1, hB.2.2, beq_self_eq_true, Bool.true_eq_false, false_implies, true_implies, and_true]
  rw [i64_in (by omega)]
  exact ⟨4 - (i + 1), by omega, .inr ⟨[.ptr (.rw 0) 0, .ptr (.rw 1) 0, .int .i64 ((i + 1 : Nat) : Int)], [some ⟨1, cs⟩, some ⟨1, ds⟩], ⟨i + 1, by omega, rfl, rfl, rfl⟩, View.same (G := [_, _]) (by simp) (hpB2 hs hs') (by simp [fv, bnd])⟩⟩
end Go.Am
