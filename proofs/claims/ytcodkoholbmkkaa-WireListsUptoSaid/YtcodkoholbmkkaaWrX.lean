/-
  WireWrites: the loops.
-/
import Derived.Test.YtcodkoholbmkkaaWrW
namespace Go.Am
open Go.Proofs
set_option maxRecDepth 100000
theorem ww0 (G : Nat → List AV) (c0 c2 c3 c4 c5 c6 c7 s : List AV) (k n l3 l4 l5 l6 l7 l : Nat) (i : Int) (Q : Ex → List AV → Hp → Prop) (R : AV → Hp → Prop) : vT G Q R (dloop (Dc Try.prog [] (progW G) [] 0) 200 20 0 (loopN Try.f3 0) 161 [1, 2, 4, 5, 6, 7, 8, 9, 10, 11] [.slice true (.ro (.var 1 k)) (.lit 0) (.var 2 n), .ptr (.rw 0) (.lit 0), .bool (.lit false), .slice true (.rw 3) (.lit 0) (.var 11 l3), .slice false (.rw 4) (.lit 0) (.var 12 l4), .slice false (.rw 5) (.lit 0) (.var 13 l5), .slice false (.rw 6) (.lit 0) (.var 14 l6), .slice false (.rw 7) (.lit 0) (.var 15 l7), .slice true (.rw 8) (.lit 0) (.var 3 l), .int .i64 (.var 4 i)] [some ⟨1, .var 20 c0⟩, none, some ⟨1, .var 22 c2⟩, some ⟨1, .var 23 c3⟩, some ⟨1, .var 24 c4⟩, some ⟨1, .var 25 c5⟩, some ⟨1, .var 26 c6⟩, some ⟨1, .var 27 c7⟩, some ⟨1, .var 5 s⟩]) = (
    (decide ((i : Int) < ((n : Nat) : Int)) = true →
      decide ((0 : Int) ≤ i) = true ∧
      decide ((i : Int) < ((n : Nat) : Int)) = true ∧
      isRS (G (k)) (Int.toNat (i)) = true ∧
      leB (roO (G (k)) (Int.toNat (i)) + roN (G (k)) (Int.toNat (i))) (List.length (G (roK (G (k)) (Int.toNat (i))))) = true ∧
      cellsB (subL (G (roK (G (k)) (Int.toNat (i)))) (roO (G (k)) (Int.toNat (i))) (roN (G (k)) (Int.toNat (i)))) = true ∧
      leB (l + roN (G (k)) (Int.toNat (i))) (140737488355328) = true ∧
      Nat.beq (List.length s) (l) = true ∧
      Q .normal [.slice true (.ro (k)) (0) (n), .ptr (.rw 0) (0), .bool (false), .slice true (.rw 3) (0) (l3), .slice false (.rw 4) (0) (l4), .slice false (.rw 5) (0) (l5), .slice false (.rw 6) (0) (l6), .slice false (.rw 7) (0) (l7), .slice true (.rw 9) (0) (l + roN (G (k)) (Int.toNat (i))), .int .i64 (IntKind.wrap .i64 (i + 1))] [some ⟨1, c0⟩, none, some ⟨1, c2⟩, some ⟨1, c3⟩, some ⟨1, c4⟩, some ⟨1, c5⟩, some ⟨1, c6⟩, some ⟨1, c7⟩, none, some ⟨1, (s ++ (subL (G (roK (G (k)) (Int.toNat (i)))) (roO (G (k)) (Int.toNat (i))) (roN (G (k)) (Int.toNat (i)))))⟩]) ∧
    (decide ((i : Int) < ((n : Nat) : Int)) = false →
      Q (.exit 0) [.slice true (.ro (k)) (0) (n), .ptr (.rw 0) (0), .bool (false), .slice true (.rw 3) (0) (l3), .slice false (.rw 4) (0) (l4), .slice false (.rw 5) (0) (l5), .slice false (.rw 6) (0) (l6), .slice false (.rw 7) (0) (l7), .slice true (.rw 8) (0) (l), .int .i64 (i)] [some ⟨1, c0⟩, none, some ⟨1, c2⟩, some ⟨1, c3⟩, some ⟨1, c4⟩, some ⟨1, c5⟩, some ⟨1, c6⟩, some ⟨1, c7⟩, some ⟨1, s⟩])) := by kernel_rfl
theorem ww2 (G : Nat → List AV) (c0 c2 c3 c5 c7 c8 : List AV) (k n l3 l5 l7 l8 : Nat) (i q : Int) (Q : Ex → List AV → Hp → Prop) (R : AV → Hp → Prop) : vT G Q R (dloop (Dc Try.prog [] (progW G) [] 0) 200 20 0 (loopN Try.f3 1) 161 [1, 2, 4, 5, 7, 9, 10, 13, 14] [.slice true (.ro (.var 1 k)) (.lit 0) (.var 2 n), .ptr (.rw 0) (.lit 0), .bool (.lit false), .slice true (.rw 3) (.lit 0) (.var 11 l3), .slice false (.rw 5) (.lit 0) (.var 13 l5), .slice false (.rw 7) (.lit 0) (.var 15 l7), .slice true (.rw 8) (.lit 0) (.var 16 l8), .int .i64 (.var 4 i), .int .i64 (.var 5 q)] [some ⟨1, .var 20 c0⟩, none, some ⟨1, .var 22 c2⟩, some ⟨1, .var 23 c3⟩, none, some ⟨1, .var 25 c5⟩, none, some ⟨1, .var 27 c7⟩, some ⟨1, .var 28 c8⟩]) = (
    (decide ((i : Int) < ((n : Nat) : Int)) = true →
      decide ((0 : Int) ≤ i) = true ∧
      decide ((i : Int) < ((n : Nat) : Int)) = true ∧
      isRS (G (k)) (Int.toNat (i)) = true ∧
      leB (roO (G (k)) (Int.toNat (i)) + roN (G (k)) (Int.toNat (i))) (List.length (G (roK (G (k)) (Int.toNat (i))))) = true ∧
      u8s (subL (G (roK (G (k)) (Int.toNat (i)))) (roO (G (k)) (Int.toNat (i))) (roN (G (k)) (Int.toNat (i)))) = true ∧
      decide ((0 : Int) ≤ i) = true ∧
      decide ((i : Int) < ((n : Nat) : Int)) = true ∧
      isRS (G (k)) (Int.toNat (i)) = true ∧
      decide ((0 : Int) ≤ q) = true ∧
      decide ((q : Int) ≤ IntKind.wrap .i64 (q + ((roN (G (k)) (Int.toNat (i)) : Nat) : Int))) = true ∧
      decide ((IntKind.wrap .i64 (q + ((roN (G (k)) (Int.toNat (i)) : Nat) : Int)) : Int) ≤ ((l8 : Nat) : Int)) = true ∧
      leB (Int.toNat (q) + ((Int.toNat (IntKind.wrap .i64 (q + ((roN (G (k)) (Int.toNat (i)) : Nat) : Int)))) - (Int.toNat (q)))) (List.length c8) = true ∧
      u8s (subL c8 (Int.toNat (q)) ((Int.toNat (IntKind.wrap .i64 (q + ((roN (G (k)) (Int.toNat (i)) : Nat) : Int)))) - (Int.toNat (q)))) = true ∧
      ((((strL (subL (G (roK (G (k)) (Int.toNat (i)))) (roO (G (k)) (Int.toNat (i))) (roN (G (k)) (Int.toNat (i))))) : List UInt8) == (strL (subL c8 (Int.toNat (q)) ((Int.toNat (IntKind.wrap .i64 (q + ((roN (G (k)) (Int.toNat (i)) : Nat) : Int)))) - (Int.toNat (q)))))) = true →
        decide ((0 : Int) ≤ i) = true ∧
        decide ((i : Int) < ((n : Nat) : Int)) = true ∧
        isRS (G (k)) (Int.toNat (i)) = true ∧
        Q .normal [.slice true (.ro (k)) (0) (n), .ptr (.rw 0) (0), .bool (false), .slice true (.rw 3) (0) (l3), .slice false (.rw 5) (0) (l5), .slice false (.rw 7) (0) (l7), .slice true (.rw 8) (0) (l8), .int .i64 (IntKind.wrap .i64 (i + 1)), .int .i64 (IntKind.wrap .i64 (q + ((roN (G (k)) (Int.toNat (i)) : Nat) : Int)))] [some ⟨1, c0⟩, none, some ⟨1, c2⟩, some ⟨1, c3⟩, none, some ⟨1, c5⟩, none, some ⟨1, c7⟩, some ⟨1, c8⟩]) ∧
      ((((strL (subL (G (roK (G (k)) (Int.toNat (i)))) (roO (G (k)) (Int.toNat (i))) (roN (G (k)) (Int.toNat (i))))) : List UInt8) == (strL (subL c8 (Int.toNat (q)) ((Int.toNat (IntKind.wrap .i64 (q + ((roN (G (k)) (Int.toNat (i)) : Nat) : Int)))) - (Int.toNat (q)))))) = false →
        Q .ret [.slice true (.ro (k)) (0) (n), .ptr (.rw 0) (0), .bool (false), .slice true (.rw 3) (0) (l3), .slice false (.rw 5) (0) (l5), .slice false (.rw 7) (0) (l7), .slice true (.rw 8) (0) (l8), .int .i64 (i), .int .i64 (q)] [some ⟨1, c0⟩, none, some ⟨1, c2⟩, some ⟨1, c3⟩, none, some ⟨1, c5⟩, none, some ⟨1, c7⟩, some ⟨1, c8⟩])) ∧
    (decide ((i : Int) < ((n : Nat) : Int)) = false →
      Q (.exit 2) [.slice true (.ro (k)) (0) (n), .ptr (.rw 0) (0), .bool (false), .slice true (.rw 3) (0) (l3), .slice false (.rw 5) (0) (l5), .slice false (.rw 7) (0) (l7), .slice true (.rw 8) (0) (l8), .int .i64 (i), .int .i64 (q)] [some ⟨1, c0⟩, none, some ⟨1, c2⟩, some ⟨1, c3⟩, none, some ⟨1, c5⟩, none, some ⟨1, c7⟩, some ⟨1, c8⟩])) := by kernel_rfl
theorem dgWW (G : Nat → List AV) (B : Nat) : DGood (⟨Try.prog, G, B⟩ : Ctx) (Dc Try.prog [] (progW G) [] 0) [] := dgood (mix G B) (by kernel_rfl) (progW_ok G B) .nil
theorem ww_loop0 (G : Nat → List AV) (B : Nat) (c0 c2 c3 c4 c5 c6 c7 : List AV) (k n l3 l4 l5 l6 l7 : Nat) (hp : Pieces G k n) (hf : hpB 0 [some ⟨1, c0⟩, none, some ⟨1, c2⟩, some ⟨1, c3⟩, some ⟨1, c4⟩, some ⟨1, c5⟩, some ⟨1, c6⟩, some ⟨1, c7⟩] = true) :
    AWp (⟨Try.prog, G, B⟩ : Ctx) 0 (.loop (loopN Try.f3 0)) (fl 161 [1, 2, 4, 5, 6, 7, 8, 9, 10, 11] [.slice true (.ro k) 0 n, .ptr (.rw 0) 0, .bool false, .slice true (.rw 3) 0 l3, .slice false (.rw 4) 0 l4, .slice false (.rw 5) 0 l5, .slice false (.rw 6) 0 l6, .slice false (.rw 7) 0 l7, .slice true (.rw 8) 0 0, .int .i64 0]) ([some ⟨1, c0⟩, none, some ⟨1, c2⟩, some ⟨1, c3⟩, some ⟨1, c4⟩, some ⟨1, c5⟩, some ⟨1, c6⟩, some ⟨1, c7⟩] ++ [some ⟨1, []⟩])
      (lv 161 [1, 2, 4, 5, 6, 7, 8, 9, 10, 11] fun e vs H => e = .exit 0 ∧ wk [.slice true (.ro k) 0 n, .ptr (.rw 0) 0, .bool false, .slice true (.rw 3) 0 l3, .slice false (.rw 4) 0 l4, .slice false (.rw 5) 0 l5, .slice false (.rw 6) 0 l6, .slice false (.rw 7) 0 l7, .slice true (.rw 8) 0 (catL G k n).length, .undef] vs ∧ H = [some ⟨1, c0⟩, none, some ⟨1, c2⟩, some ⟨1, c3⟩, some ⟨1, c4⟩, some ⟨1, c5⟩, some ⟨1, c6⟩, some ⟨1, c7⟩] ++ [some ⟨1, catL G k n⟩]) := by
  refine aloop_lv (fun j vs H => ∃ i : Nat, i ≤ n ∧ j = n - i ∧ vs = [.slice true (.ro k) 0 n, .ptr (.rw 0) 0, .bool false, .slice true (.rw 3) 0 l3, .slice false (.rw 4) 0 l4, .slice false (.rw 5) 0 l5, .slice false (.rw 6) 0 l6, .slice false (.rw 7) 0 l7, .slice true (.rw 8) 0 (catL G k i).length, .int .i64 (i : Int)] ∧ H = [some ⟨1, c0⟩, none, some ⟨1, c2⟩, some ⟨1, c3⟩, some ⟨1, c4⟩, some ⟨1, c5⟩, some ⟨1, c6⟩, some ⟨1, c7⟩] ++ [some ⟨1, catL G k i⟩]) n ⟨0, by omega, rfl, rfl, rfl⟩ ?_
  rintro j vs H ⟨i, hi, rfl, rfl, rfl⟩
  refine dloop_ok (C := (⟨Try.prog, G, B⟩ : Ctx)) (dgWW G B) (fuel := 200) (n0 := 20) (m := 0) (c := loopN Try.f3 0) (vs := [.slice true (.ro (.var 1 k)) (.lit 0) (.var 2 n), .ptr (.rw 0) (.lit 0), .bool (.lit false), .slice true (.rw 3) (.lit 0) (.var 11 l3), .slice false (.rw 4) (.lit 0) (.var 12 l4), .slice false (.rw 5) (.lit 0) (.var 13 l5), .slice false (.rw 6) (.lit 0) (.var 14 l6), .slice false (.rw 7) (.lit 0) (.var 15 l7), .slice true (.rw 8) (.lit 0) (.var 3 (catL G k i).length), .int .i64 (.var 4 (i : Int))]) (H := [some ⟨1, .var 20 c0⟩, none, some ⟨1, .var 22 c2⟩, some ⟨1, .var 23 c3⟩, some ⟨1, .var 24 c4⟩, some ⟨1, .var 25 c5⟩, some ⟨1, .var 26 c6⟩, some ⟨1, .var 27 c7⟩, some ⟨1, .var 5 (catL G k i)⟩]) (by simp) ?_
  rw [ww0, Int.toNat_natCast]
  have hc := hp.cnt
  refine ⟨fun h => ?_, fun h => ?_⟩
  · have h' := of_decide_eq_true h
    have hlt : i < n := by omega
    have e : catL G k i ++ subL (G (roK (G k) i)) (roO (G k) i) (roN (G k) i) = catL G k (i + 1) := rfl
    have el : (catL G k i).length + roN (G k) i = (catL G k (i + 1)).length := by
      have h1 := hp.lenp hlt
      have h2 : (catL G k (i + 1)).length = (catL G k i).length + (pieceL G k i).length := by simp only [catL, List.length_append]
      omega
    have hm := catL_mono (G := G) (k := k) n (i + 1) (by omega)
    have ht := hp.tot
    have hle : (catL G k i).length + roN (G k) i ≤ 140737488355328 := by omega
    have hx : bnds 0 (catL G k (i + 1)) = true := u8s_flat (hp.u8c (i + 1) (by omega))
    refine ⟨decide_eq_true (by omega), h, hp.rs i hlt, leB_iff.2 (hp.len i hlt), u8s_cells (hp.u8 i hlt), leB_iff.2 hle, Nat.beq_refl _, ⟨n - (i + 1), by omega, .inr ⟨_, _, ⟨i + 1, by omega, rfl, rfl, rfl⟩, ?_⟩⟩⟩
    rw [e, el, i64_in (by omega)]
    exact View.snoc (H0 := [some ⟨1, c0⟩, none, some ⟨1, c2⟩, some ⟨1, c3⟩, some ⟨1, c4⟩, some ⟨1, c5⟩, some ⟨1, c6⟩, some ⟨1, c7⟩]) (by simp) hf hx (by simp [bnds, bnd]) (by simp [rens, ren, wk])
  · have h' := of_decide_eq_false h
    have : i = n := by omega
    subst this
    exact ⟨rfl, by simp [wk], rfl⟩
theorem cat_piece {G : Nat → List AV} {k : Nat} : ∀ (n i : Nat), i < n → subL (catL G k n) (catL G k i).length (pieceL G k i).length = pieceL G k i
  | 0, i, h => by omega
  | n + 1, i, h => by
    rcases Nat.lt_or_ge i n with h' | h'
    · have ih := cat_piece (G := G) (k := k) n i h'
      have hm := catL_mono (G := G) (k := k) n (i + 1) (by omega)
      have e : (catL G k (i + 1)).length = (catL G k i).length + (pieceL G k i).length := by simp only [catL, List.length_append]
      simp only [subL, catL] at ih ⊢
      rw [List.drop_append_of_le_length (by omega), List.take_append_of_le_length (by simp; omega)]
      exact ih
    · have : i = n := by omega
      subst this
      simp [subL, catL]
theorem ww_loop2 (G : Nat → List AV) (B : Nat) (c0 c2 c3 c5 c7 : List AV) (k n l3 l5 l7 : Nat) (hp : Pieces G k n) :
    AWp (⟨Try.prog, G, B⟩ : Ctx) 0 (.loop (loopN Try.f3 1)) (fl 161 [1, 2, 4, 5, 7, 9, 10, 13, 14] [.slice true (.ro k) 0 n, .ptr (.rw 0) 0, .bool false, .slice true (.rw 3) 0 l3, .slice false (.rw 5) 0 l5, .slice false (.rw 7) 0 l7, .slice true (.rw 8) 0 (catL G k n).length, .int .i64 0, .int .i64 0]) [some ⟨1, c0⟩, none, some ⟨1, c2⟩, some ⟨1, c3⟩, none, some ⟨1, c5⟩, none, some ⟨1, c7⟩, some ⟨1, catL G k n⟩]
      (lv 161 [1, 2, 4, 5, 7, 9, 10, 13, 14] fun e vs H => e = .exit 2 ∧ wk [.undef, .ptr (.rw 0) 0, .bool false, .slice true (.rw 3) 0 l3, .slice false (.rw 5) 0 l5, .slice false (.rw 7) 0 l7, .undef, .undef, .undef] vs ∧ H = [some ⟨1, c0⟩, none, some ⟨1, c2⟩, some ⟨1, c3⟩, none, some ⟨1, c5⟩, none, some ⟨1, c7⟩, some ⟨1, catL G k n⟩]) := by
  refine aloop_lv (fun j vs H => ∃ i : Nat, i ≤ n ∧ j = n - i ∧ vs = [.slice true (.ro k) 0 n, .ptr (.rw 0) 0, .bool false, .slice true (.rw 3) 0 l3, .slice false (.rw 5) 0 l5, .slice false (.rw 7) 0 l7, .slice true (.rw 8) 0 (catL G k n).length, .int .i64 (i : Int), .int .i64 ((catL G k i).length : Int)] ∧ H = [some ⟨1, c0⟩, none, some ⟨1, c2⟩, some ⟨1, c3⟩, none, some ⟨1, c5⟩, none, some ⟨1, c7⟩, some ⟨1, catL G k n⟩]) n ⟨0, by omega, rfl, rfl, rfl⟩ ?_
  rintro j vs H ⟨i, hi, rfl, rfl, rfl⟩
  refine dloop_ok (C := (⟨Try.prog, G, B⟩ : Ctx)) (dgWW G B) (fuel := 200) (n0 := 20) (m := 0) (c := loopN Try.f3 1) (vs := [.slice true (.ro (.var 1 k)) (.lit 0) (.var 2 n), .ptr (.rw 0) (.lit 0), .bool (.lit false), .slice true (.rw 3) (.lit 0) (.var 11 l3), .slice false (.rw 5) (.lit 0) (.var 13 l5), .slice false (.rw 7) (.lit 0) (.var 15 l7), .slice true (.rw 8) (.lit 0) (.var 16 (catL G k n).length), .int .i64 (.var 4 (i : Int)), .int .i64 (.var 5 ((catL G k i).length : Int))])
    (H := [some ⟨1, .var 20 c0⟩, none, some ⟨1, .var 22 c2⟩, some ⟨1, .var 23 c3⟩, none, some ⟨1, .var 25 c5⟩, none, some ⟨1, .var 27 c7⟩, some ⟨1, .var 28 (catL G k n)⟩]) (by simp) ?_
  rw [ww2, Int.toNat_natCast, Int.toNat_natCast]
  have hc := hp.cnt
  refine ⟨fun h => ?_, fun h => ?_⟩
  · have h' := of_decide_eq_true h
    have hlt : i < n := by omega
    have hl := hp.lenp hlt
    have h2 : (catL G k (i + 1)).length = (catL G k i).length + (pieceL G k i).length := by simp only [catL, List.length_append]
    have hm := catL_mono (G := G) (k := k) n (i + 1) (by omega)
    have ht := hp.tot
    have ew : IntKind.wrap .i64 (((catL G k i).length : Int) + ((roN (G k) i : Nat) : Int)) = ((catL G k (i + 1)).length : Int) := by rw [i64_in (by omega)]; omega
    have e1 : (catL G k (i + 1)).length - (catL G k i).length = (pieceL G k i).length := by omega
    have e2 := cat_piece (G := G) (k := k) n i hlt
    have e3 : subL (G (roK (G k) i)) (roO (G k) i) (roN (G k) i) = pieceL G k i := rfl
    rw [ew, Int.toNat_natCast, e1, e2, e3]
    have g0 : decide ((0 : Int) ≤ (i : Int)) = true := decide_eq_true (by omega)
    refine ⟨g0, h, hp.rs i hlt, leB_iff.2 (hp.len i hlt), hp.u8 i hlt, g0, h, hp.rs i hlt, decide_eq_true (by omega), decide_eq_true (by omega), decide_eq_true (by omega), leB_iff.2 (by omega), hp.u8 i hlt, fun _ => ⟨g0, h, hp.rs i hlt, ?_⟩, fun hx => ?_⟩
    · exact ⟨n - (i + 1), by omega, .inl ⟨i + 1, by omega, rfl, by rw [i64_in (by omega)]; rfl, rfl⟩⟩
    · rw [beq_self_eq_true] at hx; cases hx
  · have h' := of_decide_eq_false h
    have : i = n := by omega
    subst this
    exact ⟨rfl, by simp [wk], rfl⟩
end Go.Am
