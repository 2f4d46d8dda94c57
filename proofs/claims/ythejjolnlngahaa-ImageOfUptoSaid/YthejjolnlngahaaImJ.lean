/-
  Images: the document's Same: a round over the sections.
-/
import Derived.Test.YthejjolnlngahaaImI
namespace Go.Am
open Go.Proofs
set_option maxRecDepth 100000
def datL (G : Nat → List AV) (cs : List AV) (k : Nat) : List AV := subL (G (roK cs (k * 4 + 2))) (roO cs (k * 4 + 2)) (roN cs (k * 4 + 2))
def datOk (G : Nat → List AV) (cs : List AV) (k : Nat) : Bool := leB (roO cs (k * 4 + 2) + roN cs (k * 4 + 2)) (List.length (G (roK cs (k * 4 + 2)))) && u8s (datL G cs k)
def secEq (G : Nat → List AV) (cs cs2 : List AV) (k : Nat) : Bool := (sA cs k == sA cs2 k) && ((sR cs k == sR cs2 k) && ((strL (datL G cs k) == strL (datL G cs2 k)) && (sZ cs k == sZ cs2 k)))
def secR (G : Nat → List AV) (cs : List AV) (k : Nat) : Blk := ⟨1, [.int .i64 (getI cs (k * 4)), .int .i64 (getI cs (k * 4 + 1)), .slice true (.ro (roK cs (k * 4 + 2))) (roO cs (k * 4 + 2)) (roN cs (k * 4 + 2)), .int .i64 (getI cs (k * 4 + 3))]⟩
theorem dgR (G : Nat → List AV) (B : Nat) {c : Code} (h : loopsOf c = []) : DGood (⟨Try.prog, G, B⟩ : Ctx) (Dc Try.prog [] [] [] 2) (loopsOf c) := by rw [h]; exact dgood (mixI G B) (by kernel_rfl) .nil .nil
theorem rest_1 (G : Nat → List AV) (B : Nat) (s s2 : Int) (k k2 n n2 kp kp2 m m2 i : Nat) (cs cs2 : List AV) (d1 : datOk G cs i = true) (d2 : datOk G cs2 i = true) : AWp (⟨Try.prog, G, B⟩ : Ctx) 2 (sq2 (blkc (sq1 (sq2 (loopN Try.f15 0))))) (fl 95 [2, 3, 4, 5, 6, 7] [.ptr (.rw 0) 0, .ptr (.rw 1) 0, .bool false, .int .i64 (i : Int), .ptr (.rw 2) 0, .ptr (.rw 3) 0]) [some ⟨1, [.int .i64 s, .slice true (.ro k) 0 n, .slice true (.ro kp) 0 m]⟩, some ⟨1, [.int .i64 s2, .slice true (.ro k2) 0 n2, .slice true (.ro kp2) 0 m2]⟩, some (secR G cs i), some (secR G cs2 i)] (lv 95 [2, 3, 4, 5, 6, 7] fun e vs H => ((e = .normal ∧ secEq G cs cs2 i = true) ∨ (e = .ret ∧ secEq G cs cs2 i = false)) ∧ (∃ x y, vs = [.ptr (.rw 0) 0, .ptr (.rw 1) 0, .bool false, .int .i64 (i : Int), x, y]) ∧ ∃ X, H = [some ⟨1, [.int .i64 s, .slice true (.ro k) 0 n, .slice true (.ro kp) 0 m]⟩, some ⟨1, [.int .i64 s2, .slice true (.ro k2) 0 n2, .slice true (.ro kp2) 0 m2]⟩] ++ X) := by
  unfold datOk at d1 d2
  rw [Bool.and_eq_true] at d1 d2
  refine dloop_ok (C := (⟨Try.prog, G, B⟩ : Ctx)) (dgR G B (by kernel_rfl)) (fuel := 300) (n0 := 20) (m := 2) (vs := [.ptr (.rw 0) (.lit 0), .ptr (.rw 1) (.lit 0), .bool (.lit false), .int .i64 (.ofN (.var 8 i)), .ptr (.rw 2) (.lit 0), .ptr (.rw 3) (.lit 0)]) (H := [some ⟨1, .of [.int .i64 (.var 4 s), .slice true (.ro (.var 1 k)) (.lit 0) (.var 2 n), .slice true (.ro (.var 5 kp)) (.lit 0) (.var 6 m)]⟩, some ⟨1, .of [.int .i64 (.var 10 s2), .slice true (.ro (.var 3 k2)) (.lit 0) (.var 9 n2), .slice true (.ro (.var 7 kp2)) (.lit 0) (.var 31 m2)]⟩, some ⟨1, .of [.int .i64 (.var 11 (getI cs (i * 4))), .int .i64 (.var 12 (getI cs (i * 4 + 1))), .slice true (.ro (.var 13 (roK cs (i * 4 + 2)))) (.var 14 (roO cs (i * 4 + 2))) (.var 15 (roN cs (i * 4 + 2))), .int .i64 (.var 16 (getI cs (i * 4 + 3)))]⟩, some ⟨1, .of [.int .i64 (.var 21 (getI cs2 (i * 4))), .int .i64 (.var 22 (getI cs2 (i * 4 + 1))), .slice true (.ro (.var 23 (roK cs2 (i * 4 + 2)))) (.var 24 (roO cs2 (i * 4 + 2))) (.var 25 (roN cs2 (i * 4 + 2))), .int .i64 (.var 26 (getI cs2 (i * 4 + 3)))]⟩]) (by simp) ?_
  rw [ry_1]
  have tl : (∃ x y, ([.ptr (.rw 0) 0, .ptr (.rw 1) 0, .bool false, .int .i64 (i : Int), .ptr (.rw 2) 0, .ptr (.rw 3) 0] : List AV) = [.ptr (.rw 0) 0, .ptr (.rw 1) 0, .bool false, .int .i64 (i : Int), x, y]) ∧ ∃ X, ([some ⟨1, [.int .i64 s, .slice true (.ro k) 0 n, .slice true (.ro kp) 0 m]⟩, some ⟨1, [.int .i64 s2, .slice true (.ro k2) 0 n2, .slice true (.ro kp2) 0 m2]⟩, some (secR G cs i), some (secR G cs2 i)] : Hp) = [some ⟨1, [.int .i64 s, .slice true (.ro k) 0 n, .slice true (.ro kp) 0 m]⟩, some ⟨1, [.int .i64 s2, .slice true (.ro k2) 0 n2, .slice true (.ro kp2) 0 m2]⟩] ++ X := ⟨⟨_, _, rfl⟩, _, rfl⟩
  refine ⟨fun h1 => ⟨fun h2 => ⟨d1.1, d1.2, d2.1, d2.2, fun h3 => ⟨fun h4 => ⟨.inl ⟨rfl, ?_⟩, tl⟩, fun h4 => ⟨.inr ⟨rfl, ?_⟩, tl⟩⟩, fun h3 => ⟨.inr ⟨rfl, ?_⟩, tl⟩⟩, fun h2 => ⟨.inr ⟨rfl, ?_⟩, tl⟩⟩, fun h1 => ⟨.inr ⟨rfl, ?_⟩, tl⟩⟩
  all_goals unfold secEq sA sR sZ datL
  · rw [h1, h2, h3, h4]; rfl
  · rw [h1, h2, h3, h4]; rfl
  · rw [h1, h2, h3]; rfl
  · rw [h1, h2]; rfl
  · rw [h1]; rfl
theorem rest_2 (G : Nat → List AV) (B : Nat) (s s2 : Int) (k k2 n n2 kp kp2 m m2 i : Nat) (cs cs2 : List AV) (d1 : datOk G cs i = true) (d2 : datOk G cs2 i = true) : AWp (⟨Try.prog, G, B⟩ : Ctx) 2 (sq2 (blkc (sq1 (sq2 (loopN Try.f15 0))))) (fl 95 [2, 3, 4, 5, 6, 7] [.ptr (.rw 0) 0, .ptr (.rw 1) 0, .bool false, .int .i64 (i : Int), .ptr (.rw 3) 0, .ptr (.rw 2) 0]) [some ⟨1, [.int .i64 s, .slice true (.ro k) 0 n, .slice true (.ro kp) 0 m]⟩, some ⟨1, [.int .i64 s2, .slice true (.ro k2) 0 n2, .slice true (.ro kp2) 0 m2]⟩, some (secR G cs2 i), some (secR G cs i)] (lv 95 [2, 3, 4, 5, 6, 7] fun e vs H => ((e = .normal ∧ secEq G cs cs2 i = true) ∨ (e = .ret ∧ secEq G cs cs2 i = false)) ∧ (∃ x y, vs = [.ptr (.rw 0) 0, .ptr (.rw 1) 0, .bool false, .int .i64 (i : Int), x, y]) ∧ ∃ X, H = [some ⟨1, [.int .i64 s, .slice true (.ro k) 0 n, .slice true (.ro kp) 0 m]⟩, some ⟨1, [.int .i64 s2, .slice true (.ro k2) 0 n2, .slice true (.ro kp2) 0 m2]⟩] ++ X) := by
  unfold datOk at d1 d2
  rw [Bool.and_eq_true] at d1 d2
  refine dloop_ok (C := (⟨Try.prog, G, B⟩ : Ctx)) (dgR G B (by kernel_rfl)) (fuel := 300) (n0 := 20) (m := 2) (vs := [.ptr (.rw 0) (.lit 0), .ptr (.rw 1) (.lit 0), .bool (.lit false), .int .i64 (.ofN (.var 8 i)), .ptr (.rw 3) (.lit 0), .ptr (.rw 2) (.lit 0)]) (H := [some ⟨1, .of [.int .i64 (.var 4 s), .slice true (.ro (.var 1 k)) (.lit 0) (.var 2 n), .slice true (.ro (.var 5 kp)) (.lit 0) (.var 6 m)]⟩, some ⟨1, .of [.int .i64 (.var 10 s2), .slice true (.ro (.var 3 k2)) (.lit 0) (.var 9 n2), .slice true (.ro (.var 7 kp2)) (.lit 0) (.var 31 m2)]⟩, some ⟨1, .of [.int .i64 (.var 21 (getI cs2 (i * 4))), .int .i64 (.var 22 (getI cs2 (i * 4 + 1))), .slice true (.ro (.var 23 (roK cs2 (i * 4 + 2)))) (.var 24 (roO cs2 (i * 4 + 2))) (.var 25 (roN cs2 (i * 4 + 2))), .int .i64 (.var 26 (getI cs2 (i * 4 + 3)))]⟩, some ⟨1, .of [.int .i64 (.var 11 (getI cs (i * 4))), .int .i64 (.var 12 (getI cs (i * 4 + 1))), .slice true (.ro (.var 13 (roK cs (i * 4 + 2)))) (.var 14 (roO cs (i * 4 + 2))) (.var 15 (roN cs (i * 4 + 2))), .int .i64 (.var 16 (getI cs (i * 4 + 3)))]⟩]) (by simp) ?_
  rw [ry_2]
  have tl : (∃ x y, ([.ptr (.rw 0) 0, .ptr (.rw 1) 0, .bool false, .int .i64 (i : Int), .ptr (.rw 3) 0, .ptr (.rw 2) 0] : List AV) = [.ptr (.rw 0) 0, .ptr (.rw 1) 0, .bool false, .int .i64 (i : Int), x, y]) ∧ ∃ X, ([some ⟨1, [.int .i64 s, .slice true (.ro k) 0 n, .slice true (.ro kp) 0 m]⟩, some ⟨1, [.int .i64 s2, .slice true (.ro k2) 0 n2, .slice true (.ro kp2) 0 m2]⟩, some (secR G cs2 i), some (secR G cs i)] : Hp) = [some ⟨1, [.int .i64 s, .slice true (.ro k) 0 n, .slice true (.ro kp) 0 m]⟩, some ⟨1, [.int .i64 s2, .slice true (.ro k2) 0 n2, .slice true (.ro kp2) 0 m2]⟩] ++ X := ⟨⟨_, _, rfl⟩, _, rfl⟩
  refine ⟨fun h1 => ⟨fun h2 => ⟨d1.1, d1.2, d2.1, d2.2, fun h3 => ⟨fun h4 => ⟨.inl ⟨rfl, ?_⟩, tl⟩, fun h4 => ⟨.inr ⟨rfl, ?_⟩, tl⟩⟩, fun h3 => ⟨.inr ⟨rfl, ?_⟩, tl⟩⟩, fun h2 => ⟨.inr ⟨rfl, ?_⟩, tl⟩⟩, fun h1 => ⟨.inr ⟨rfl, ?_⟩, tl⟩⟩
  all_goals unfold secEq sA sR sZ datL
  · rw [h1, h2, h3, h4]; rfl
  · rw [h1, h2, h3, h4]; rfl
  · rw [h1, h2, h3]; rfl
  · rw [h1, h2]; rfl
  · rw [h1]; rfl
theorem rs_body : loopN Try.f15 0 = .seq (sq1 (loopN Try.f15 0)) (.seq (.block 1 (.seq (.region 6 (rgOf (loopN Try.f15 0)) true) (sq2 (blkc (sq1 (sq2 (loopN Try.f15 0))))))) (sq2 (sq2 (loopN Try.f15 0)))) := by kernel_rfl
theorem rs_round (G : Nat → List AV) (B : Nat) (s s2 : Int) (k k2 n n2 kp kp2 m m2 i : Nat) {Q : Ex → List AV → Hp → Prop} (hnn : n = n2) (hn : n ≤ 1000000) (hk : secsOk (G k) n = true) (hk2 : secsOk (G k2) n = true) (hd : i < n → datOk G (G k) i = true) (hd2 : i < n → datOk G (G k2) i = true)
    (hA : i < n → secEq G (G k) (G k2) i = true → Q .normal [.ptr (.rw 0) 0, .ptr (.rw 1) 0, .bool false, .int .i64 ((i + 1 : Nat) : Int)] [some ⟨1, [.int .i64 s, .slice true (.ro k) 0 n, .slice true (.ro kp) 0 m]⟩, some ⟨1, [.int .i64 s2, .slice true (.ro k2) 0 n2, .slice true (.ro kp2) 0 m2]⟩]) (hB : i < n → secEq G (G k) (G k2) i = false → ∀ X, Q .ret [.ptr (.rw 0) 0, .ptr (.rw 1) 0, .bool false, .int .i64 (i : Int)] ([some ⟨1, [.int .i64 s, .slice true (.ro k) 0 n, .slice true (.ro kp) 0 m]⟩, some ⟨1, [.int .i64 s2, .slice true (.ro k2) 0 n2, .slice true (.ro kp2) 0 m2]⟩] ++ X)) (hC : ¬ i < n → Q (.exit 0) [.ptr (.rw 0) 0, .ptr (.rw 1) 0, .bool false, .int .i64 (i : Int)] [some ⟨1, [.int .i64 s, .slice true (.ro k) 0 n, .slice true (.ro kp) 0 m]⟩, some ⟨1, [.int .i64 s2, .slice true (.ro k2) 0 n2, .slice true (.ro kp2) 0 m2]⟩]) :
    AWp (⟨Try.prog, G, B⟩ : Ctx) 2 (loopN Try.f15 0) (fl 95 [2, 3, 4, 5] [.ptr (.rw 0) 0, .ptr (.rw 1) 0, .bool false, .int .i64 (i : Int)]) [some ⟨1, [.int .i64 s, .slice true (.ro k) 0 n, .slice true (.ro kp) 0 m]⟩, some ⟨1, [.int .i64 s2, .slice true (.ro k2) 0 n2, .slice true (.ro kp2) 0 m2]⟩] (lv 95 [2, 3, 4, 5] Q) := by
  rw [rs_body]
  refine AWp.seq (by simp) ?_
  refine AWp.lvd (live := [2, 3, 4, 5]) (N := 95) (Q := fun e vs H => ((e = .normal ∧ i < n) ∨ (e = .exit 0 ∧ ¬ i < n)) ∧ vs = [.ptr (.rw 0) 0, .ptr (.rw 1) 0, .bool false, .int .i64 (i : Int)] ∧ H = [some ⟨1, [.int .i64 s, .slice true (.ro k) 0 n, .slice true (.ro kp) 0 m]⟩, some ⟨1, [.int .i64 s2, .slice true (.ro k2) 0 n2, .slice true (.ro kp2) 0 m2]⟩]) ?_ ?_
  · refine dloop_ok (C := (⟨Try.prog, G, B⟩ : Ctx)) (dgR G B (by kernel_rfl)) (fuel := 300) (n0 := 20) (m := 2) (vs := [.ptr (.rw 0) (.lit 0), .ptr (.rw 1) (.lit 0), .bool (.lit false), .int .i64 (.ofN (.var 8 i))]) (H := [some ⟨1, .of [.int .i64 (.var 4 s), .slice true (.ro (.var 1 k)) (.lit 0) (.var 2 n), .slice true (.ro (.var 5 kp)) (.lit 0) (.var 6 m)]⟩, some ⟨1, .of [.int .i64 (.var 10 s2), .slice true (.ro (.var 3 k2)) (.lit 0) (.var 9 n2), .slice true (.ro (.var 7 kp2)) (.lit 0) (.var 31 m2)]⟩]) (by simp) ?_
    rw [rx_a]
    exact ⟨fun h => ⟨.inl ⟨rfl, by have := of_decide_eq_true h; omega⟩, rfl, rfl⟩, fun h => ⟨.inr ⟨rfl, by have := of_decide_eq_false h; omega⟩, rfl, rfl⟩⟩
  · rintro e vs H ⟨h1, rfl, rfl⟩
    rcases h1 with ⟨rfl, hin⟩ | ⟨rfl, hin⟩
    · have d1 := hd hin
      have d2 := hd2 hin
      show AWp (⟨Try.prog, G, B⟩ : Ctx) 2 (.seq (.block 1 (.seq (.region 6 (rgOf (loopN Try.f15 0)) true) (sq2 (blkc (sq1 (sq2 (loopN Try.f15 0))))))) (sq2 (sq2 (loopN Try.f15 0)))) (fl 95 [2, 3, 4, 5] [.ptr (.rw 0) 0, .ptr (.rw 1) 0, .bool false, .int .i64 (i : Int)]) [some ⟨1, [.int .i64 s, .slice true (.ro k) 0 n, .slice true (.ro kp) 0 m]⟩, some ⟨1, [.int .i64 s2, .slice true (.ro k2) 0 n2, .slice true (.ro kp2) 0 m2]⟩] (lv 95 [2, 3, 4, 5] Q)
      have fin : ∀ e vs H, ((e = Ex.normal ∧ secEq G (G k) (G k2) i = true) ∨ (e = .ret ∧ secEq G (G k) (G k2) i = false)) ∧ (∃ x y, vs = [.ptr (.rw 0) 0, .ptr (.rw 1) 0, .bool false, .int .i64 (i : Int), x, y]) ∧ (∃ X, H = ([some ⟨1, [.int .i64 s, .slice true (.ro k) 0 n, .slice true (.ro kp) 0 m]⟩, some ⟨1, [.int .i64 s2, .slice true (.ro k2) 0 n2, .slice true (.ro kp2) 0 m2]⟩] : Hp) ++ X) → blockK 1 (thenK (recW (⟨Try.prog, G, B⟩ : Ctx)) 2 (sq2 (sq2 (loopN Try.f15 0))) (lv 95 [2, 3, 4, 5] Q)) e (fl 95 [2, 3, 4, 5, 6, 7] vs) H := by
        rintro e vs H ⟨h1, ⟨x, y, rfl⟩, X, rfl⟩
        rcases h1 with ⟨rfl, he⟩ | ⟨rfl, he⟩
        · show AWp (⟨Try.prog, G, B⟩ : Ctx) 2 (sq2 (sq2 (loopN Try.f15 0))) (fl 95 [2, 3, 4, 5, 6, 7] _) _ (lv 95 [2, 3, 4, 5] Q)
          refine AWp.rd [2, 3, 4, 5] fl_length ?_
          show AWp (⟨Try.prog, G, B⟩ : Ctx) 2 (sq2 (sq2 (loopN Try.f15 0))) (fl 95 [2, 3, 4, 5] [.ptr (.rw 0) 0, .ptr (.rw 1) 0, .bool false, .int .i64 (i : Int)]) _ (lv 95 [2, 3, 4, 5] Q)
          refine AWp.forget (by simp) (by simp [hpB, bnds, bnd]) (by simp [bnds, bnd]) ?_
          refine dloop_ok (C := (⟨Try.prog, G, B⟩ : Ctx)) (dgR G B (by kernel_rfl)) (fuel := 300) (n0 := 20) (m := 2) (vs := [.ptr (.rw 0) (.lit 0), .ptr (.rw 1) (.lit 0), .bool (.lit false), .int .i64 (.ofN (.var 8 i))]) (H := [some ⟨1, .of [.int .i64 (.var 4 s), .slice true (.ro (.var 1 k)) (.lit 0) (.var 2 n), .slice true (.ro (.var 5 kp)) (.lit 0) (.var 6 m)]⟩, some ⟨1, .of [.int .i64 (.var 10 s2), .slice true (.ro (.var 3 k2)) (.lit 0) (.var 9 n2), .slice true (.ro (.var 7 kp2)) (.lit 0) (.var 31 m2)]⟩]) (by simp) ?_
          rw [rz_1, i64_in (by omega)]
          exact hA hin he
        · exact hB hin he X
      refine AWp.seq (by simp) (AWp.block (AWp.seq (by simp) ?_))
      show AWp (⟨Try.prog, G, B⟩ : Ctx) 2 (.region 6 (rgOf (loopN Try.f15 0)) true) (fl 95 [2, 3, 4, 5, 6, 7] [.ptr (.rw 0) 0, .ptr (.rw 1) 0, .bool false, .int .i64 (i : Int), .undef, .undef]) [some ⟨1, [.int .i64 s, .slice true (.ro k) 0 n, .slice true (.ro kp) 0 m]⟩, some ⟨1, [.int .i64 s2, .slice true (.ro k2) 0 n2, .slice true (.ro kp2) 0 m2]⟩] _
      refine AWp.lvd (live := [2, 3, 4, 5, 6, 7]) (N := 95) (Q := fun e vs H => e = .normal ∧ ((vs = [.ptr (.rw 0) 0, .ptr (.rw 1) 0, .bool false, .int .i64 (i : Int), .ptr (.rw 2) 0, .ptr (.rw 3) 0] ∧ H = [some ⟨1, [.int .i64 s, .slice true (.ro k) 0 n, .slice true (.ro kp) 0 m]⟩, some ⟨1, [.int .i64 s2, .slice true (.ro k2) 0 n2, .slice true (.ro kp2) 0 m2]⟩, some (secR G (G k) i), some (secR G (G k2) i)]) ∨ (vs = [.ptr (.rw 0) 0, .ptr (.rw 1) 0, .bool false, .int .i64 (i : Int), .ptr (.rw 3) 0, .ptr (.rw 2) 0] ∧ H = [some ⟨1, [.int .i64 s, .slice true (.ro k) 0 n, .slice true (.ro kp) 0 m]⟩, some ⟨1, [.int .i64 s2, .slice true (.ro k2) 0 n2, .slice true (.ro kp2) 0 m2]⟩, some (secR G (G k2) i), some (secR G (G k) i)]))) ?_ ?_
      · refine dtwo (C := (⟨Try.prog, G, B⟩ : Ctx)) (K := Dc Try.prog [] [] [] 2) (dgood (inl := []) (ls := []) (M := 2) (mixI G B) (by kernel_rfl) .nil .nil) (fuel := 300) (n0 := 20) (m := 2) (i := 10) (j := 11) (vs := [.ptr (.rw 0) (.lit 0), .ptr (.rw 1) (.lit 0), .bool (.lit false), .int .i64 (.ofN (.var 8 i)), .undef, .undef]) (H := [some ⟨1, .of [.int .i64 (.var 4 s), .slice true (.ro (.var 1 k)) (.lit 0) (.var 2 n), .slice true (.ro (.var 5 kp)) (.lit 0) (.var 6 m)]⟩, some ⟨1, .of [.int .i64 (.var 10 s2), .slice true (.ro (.var 3 k2)) (.lit 0) (.var 9 n2), .slice true (.ro (.var 7 kp2)) (.lit 0) (.var 31 m2)]⟩]) (by simp) rfl (by kernel_rfl) (by kernel_rfl) ?_ ?_
        · rw [rx_1]
          exact ⟨decide_eq_true (by omega), decide_eq_true (by omega), secsOk_at hk hin, decide_eq_true (by omega), decide_eq_true (by omega), secsOk_at hk2 hin, rfl, .inl ⟨rfl, rfl⟩⟩
        · rw [rx_2]
          exact ⟨decide_eq_true (by omega), decide_eq_true (by omega), secsOk_at hk hin, decide_eq_true (by omega), decide_eq_true (by omega), secsOk_at hk2 hin, rfl, .inr ⟨rfl, rfl⟩⟩
      · rintro e vs H ⟨rfl, h⟩
        rcases h with ⟨rfl, rfl⟩ | ⟨rfl, rfl⟩
        · exact AWp.lvd (rest_1 G B s s2 k k2 n n2 kp kp2 m m2 i (G k) (G k2) d1 d2) fin
        · exact AWp.lvd (rest_2 G B s s2 k k2 n n2 kp kp2 m m2 i (G k) (G k2) d1 d2) fin
    · exact hC hin
end Go.Am
