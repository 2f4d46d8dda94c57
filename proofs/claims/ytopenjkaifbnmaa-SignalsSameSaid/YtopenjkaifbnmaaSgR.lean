/-
  The document's sets: what its calls do.
-/
import Derived.Test.YtopenjkaifbnmaaSgTk
import Derived.Test.YtopenjkaifbnmaaBase7
namespace Go.Am
open Go.Proofs Crc
set_option maxRecDepth 100000
theorem dg0 (G : Nat → List AV) (B : Nat) : DGood (⟨Try.prog, G, B⟩ : Ctx) (Dc Try.prog [] [] [] 0) [] := dgood (mix G B) (by kernel_rfl) .nil .nil
theorem t34 (G : Nat → List AV) (cs : List AV) (n : Int) (Q : Ex → List AV → Hp → Prop) (R : AV → Hp → Prop) : vT G Q R (dcall (Dc Try.prog [] [] [] 0) 200 10 Try.f34 [.ptr (.rw 0) (.lit 0), .int .i64 (.var 2 n)] [some ⟨1, .uf 1002 encRU [.agg (.var 1 cs)]⟩] 1) = (
    (decide ((n : Int) < 0) = true →
      R (.int .i64 (2)) [some ⟨1, (encRU [.agg cs])⟩]) ∧
    (decide ((n : Int) < 0) = false →
      (decide ((n : Int) > 15) = true →
        R (.int .i64 (2)) [some ⟨1, (encRU [.agg cs])⟩]) ∧
      (decide ((n : Int) > 15) = false →
        (decide ((n : Int) > 0) = true →
          decide ((0 : Int) ≤ n) = true ∧
          decide ((n : Int) < 16) = true ∧
          leB (Int.toNat (n) + 1) (List.length (encRU [.agg cs])) = true ∧
          R (.int .i64 (0)) [some ⟨1, (setPart (encRU [.agg cs]) (Int.toNat (n)) (.bool (true)))⟩]) ∧
        (decide ((n : Int) > 0) = false →
          R (.int .i64 (0)) [some ⟨1, (encRU [.agg cs])⟩])))) := by kernel_rfl
theorem t36 (G : Nat → List AV) (cs : List AV) (n a : Int) (Q : Ex → List AV → Hp → Prop) (R : AV → Hp → Prop) : vT G Q R (dcall (Dc Try.prog [] [] [] 0) 200 10 Try.f36 [.ptr (.rw 0) (.lit 0), .int .i64 (.var 2 n), .int .i64 (.var 3 a)] [some ⟨1, .uf 1002 encRU [.agg (.var 1 cs)]⟩] 1) = (
    (decide ((n : Int) < 2) = true →
      R (.tup [.int .i64 (0), .int .i64 (2)]) [some ⟨1, (encRU [.agg cs])⟩]) ∧
    (decide ((n : Int) < 2) = false →
      (decide ((n : Int) > 15) = true →
        R (.tup [.int .i64 (0), .int .i64 (2)]) [some ⟨1, (encRU [.agg cs])⟩]) ∧
      (decide ((n : Int) > 15) = false →
        (decide ((a : Int) < 0) = true →
          R (.tup [.int .i64 (0), .int .i64 (2)]) [some ⟨1, (encRU [.agg cs])⟩]) ∧
        (decide ((a : Int) < 0) = false →
          (decide ((a : Int) > 4294967295) = true →
            R (.tup [.int .i64 (0), .int .i64 (2)]) [some ⟨1, (encRU [.agg cs])⟩]) ∧
          (decide ((a : Int) > 4294967295) = false →
            decide ((0 : Int) ≤ n) = true ∧
            decide ((n : Int) < 16) = true ∧
            isI .u32 (encRU [.agg cs]) (Int.toNat (n) + 32) = true ∧
            decide ((0 : Int) ≤ n) = true ∧
            decide ((n : Int) < 16) = true ∧
            leB (Int.toNat (n) + 33) (List.length (encRU [.agg cs])) = true ∧
            R (.tup [.int .i64 (IntKind.wrap .i64 (getI (encRU [.agg cs]) (Int.toNat (n) + 32))), .int .i64 (0)]) [some ⟨1, (setPart (encRU [.agg cs]) (Int.toNat (n) + 32) (.int .u32 (IntKind.wrap .u32 (a))))⟩]))))) := by kernel_rfl
theorem t29 (G : Nat → List AV) (cs : List AV) (n : Int) (Q : Ex → List AV → Hp → Prop) (R : AV → Hp → Prop) : vT G Q R (dcall (Dc Try.prog [] [] [] 0) 200 10 Try.f29 [.ptr (.rw 0) (.lit 0), .int .i64 (.var 2 n)] [some ⟨1, .uf 1002 encRU [.agg (.var 1 cs)]⟩] 1) = (
    (decide ((n : Int) < 1) = true →
      R (.tup [.int .u32 (0), .bool (false)]) [some ⟨1, (encRU [.agg cs])⟩]) ∧
    (decide ((n : Int) < 1) = false →
      (decide ((n : Int) > 15) = true →
        R (.tup [.int .u32 (0), .bool (false)]) [some ⟨1, (encRU [.agg cs])⟩]) ∧
      (decide ((n : Int) > 15) = false →
        decide ((0 : Int) ≤ n) = true ∧
        decide ((n : Int) < 16) = true ∧
        isI .u32 (encRU [.agg cs]) (Int.toNat (n) + 32) = true ∧
        R (.tup [.int .u32 (getI (encRU [.agg cs]) (Int.toNat (n) + 32)), .bool (true)]) [some ⟨1, (encRU [.agg cs])⟩]))) := by kernel_rfl
theorem t30 (G : Nat → List AV) (cs : List AV) (n : Int) (Q : Ex → List AV → Hp → Prop) (R : AV → Hp → Prop) : vT G Q R (dcall (Dc Try.prog [] [] [] 0) 200 10 Try.f30 [.ptr (.rw 0) (.lit 0), .int .i64 (.var 2 n)] [some ⟨1, .uf 1002 encRU [.agg (.var 1 cs)]⟩] 1) = (
    (decide ((n : Int) ≥ 1) = true →
      (decide ((n : Int) ≤ 15) = true →
        decide ((0 : Int) ≤ n) = true ∧
        decide ((n : Int) < 16) = true ∧
        isB (encRU [.agg cs]) (Int.toNat (n)) = true ∧
        (getB (encRU [.agg cs]) (Int.toNat (n)) = true →
          decide ((0 : Int) ≤ n) = true ∧
          decide ((n : Int) < 16) = true ∧
          isB (encRU [.agg cs]) (Int.toNat (n) + 16) = true ∧
          R (.bool (getB (encRU [.agg cs]) (Int.toNat (n) + 16))) [some ⟨1, (encRU [.agg cs])⟩]) ∧
        (getB (encRU [.agg cs]) (Int.toNat (n)) = false →
          R (.bool (false)) [some ⟨1, (encRU [.agg cs])⟩])) ∧
      (decide ((n : Int) ≤ 15) = false →
        R (.bool (false)) [some ⟨1, (encRU [.agg cs])⟩])) ∧
    (decide ((n : Int) ≥ 1) = false →
      R (.bool (false)) [some ⟨1, (encRU [.agg cs])⟩])) := by kernel_rfl
theorem t39 (G : Nat → List AV) (cs : List AV) (Q : Ex → List AV → Hp → Prop) (R : AV → Hp → Prop) : vT G Q R (dcall (Dc Try.prog [] [] [] 0) 200 10 Try.f39 [.ptr (.rw 0) (.lit 0)] [some ⟨1, .uf 1002 encRU [.agg (.var 1 cs)]⟩] 2) = (
    leB (32) (List.length (encRU [.agg cs])) = true ∧
    leB (48) (List.length (encRU [.agg cs])) = true ∧
    Nat.beq (List.length (subL (encRU [.agg cs]) (16) (16))) (16) = true ∧
    Nat.beq (List.length (subL (encRU [.agg cs]) (32) (16))) (16) = true ∧
    leB (48) (List.length (setPart ([.bool (false), .bool (false), .bool (false), .bool (false), .bool (false), .bool (false), .bool (false), .bool (false), .bool (false), .bool (false), .bool (false), .bool (false), .bool (false), .bool (false), .bool (false), .bool (false), .bool (false), .bool (false), .bool (false), .bool (false), .bool (false), .bool (false), .bool (false), .bool (false), .bool (false), .bool (false), .bool (false), .bool (false), .bool (false), .bool (false), .bool (false), .bool (false), .int .u32 (0), .int .u32 (0), .int .u32 (0), .int .u32 (0), .int .u32 (0), .int .u32 (0), .int .u32 (0), .int .u32 (0), .int .u32 (0), .int .u32 (0), .int .u32 (0), .int .u32 (0), .int .u32 (0), .int .u32 (0), .int .u32 (0), .int .u32 (0)] : List AV) (16) (.agg (subL (encRU [.agg cs]) (16) (16))))) = true ∧
    R (.ptr (.rw 1) (0)) [some ⟨1, (encRU [.agg cs])⟩, some ⟨1, (setPart (setPart ([.bool (false), .bool (false), .bool (false), .bool (false), .bool (false), .bool (false), .bool (false), .bool (false), .bool (false), .bool (false), .bool (false), .bool (false), .bool (false), .bool (false), .bool (false), .bool (false), .bool (false), .bool (false), .bool (false), .bool (false), .bool (false), .bool (false), .bool (false), .bool (false), .bool (false), .bool (false), .bool (false), .bool (false), .bool (false), .bool (false), .bool (false), .bool (false), .int .u32 (0), .int .u32 (0), .int .u32 (0), .int .u32 (0), .int .u32 (0), .int .u32 (0), .int .u32 (0), .int .u32 (0), .int .u32 (0), .int .u32 (0), .int .u32 (0), .int .u32 (0), .int .u32 (0), .int .u32 (0), .int .u32 (0), .int .u32 (0)] : List AV) (16) (.agg (subL (encRU [.agg cs]) (16) (16)))) (32) (.agg (subL (encRU [.agg cs]) (32) (16))))⟩]) := by kernel_rfl
theorem b31 (G : Nat → List AV) (cs ds : List AV) (i : Int) (n : Nat) (Q : Ex → List AV → Hp → Prop) (R : AV → Hp → Prop) : vT G Q R (dloop (Dc Try.prog [] [] [] 0) 200 10 1 (loopN Try.f31 0) 22 [0, 3, 4] [.ptr (.rw 0) (.lit 0), .slice true (.rw 1) (.lit 0) (.var 4 n), .int .i64 (.var 2 i)] [some ⟨1, .var 1 cs⟩, some ⟨1, .var 3 ds⟩]) = (
    (decide ((i : Int) ≤ 15) = true →
      decide ((0 : Int) ≤ i) = true ∧
      decide ((i : Int) < 16) = true ∧
      isB cs (Int.toNat (i)) = true ∧
      (getB cs (Int.toNat (i)) = true →
        leB ((n + 1) * 8) (140737488355328) = true ∧
        Nat.beq (List.length ds) (n) = true ∧
        Q .normal [.ptr (.rw 0) (0), .slice true (.rw 3) (0) (n + 1), .int .i64 (IntKind.wrap .i64 (i + 1))] [some ⟨1, cs⟩, none, some ⟨1, ([.int .i64 (i)] : List AV)⟩, some ⟨1, (ds ++ ([.int .i64 (i)] : List AV))⟩]) ∧
      (getB cs (Int.toNat (i)) = false →
        Q .normal [.ptr (.rw 0) (0), .slice true (.rw 1) (0) (n), .int .i64 (IntKind.wrap .i64 (i + 1))] [some ⟨1, cs⟩, some ⟨1, ds⟩])) ∧
    (decide ((i : Int) ≤ 15) = false →
      Q (.exit 0) [.ptr (.rw 0) (0), .slice true (.rw 1) (0) (n), .int .i64 (i)] [some ⟨1, cs⟩, some ⟨1, ds⟩])) := by kernel_rfl
theorem b33 (G : Nat → List AV) (cs : List AV) (x y i : Int) (Q : Ex → List AV → Hp → Prop) (R : AV → Hp → Prop) : vT G Q R (dloop (Dc Try.prog [] [] [] 0) 200 10 1 (loopN Try.f33 0) 24 [0, 3, 4, 5] [.ptr (.rw 0) (.lit 0), .int .i64 (.var 3 x), .int .i64 (.var 4 y), .int .i64 (.var 2 i)] [some ⟨1, .uf 1002 encRU [.agg (.var 1 cs)]⟩]) = (
    (decide ((i : Int) ≤ 15) = true →
      decide ((0 : Int) ≤ i) = true ∧
      decide ((i : Int) < 16) = true ∧
      isB (encRU [.agg cs]) (Int.toNat (i) + 16) = true ∧
      (getB (encRU [.agg cs]) (Int.toNat (i) + 16) = true →
        Q .normal [.ptr (.rw 0) (0), .int .i64 (IntKind.wrap .i64 (x + y)), .int .i64 (IntKind.wrap .i64 (2 * y)), .int .i64 (IntKind.wrap .i64 (i + 1))] [some ⟨1, (encRU [.agg cs])⟩]) ∧
      (getB (encRU [.agg cs]) (Int.toNat (i) + 16) = false →
        Q .normal [.ptr (.rw 0) (0), .int .i64 (x), .int .i64 (IntKind.wrap .i64 (2 * y)), .int .i64 (IntKind.wrap .i64 (i + 1))] [some ⟨1, (encRU [.agg cs])⟩])) ∧
    (decide ((i : Int) ≤ 15) = false →
      Q (.exit 0) [.ptr (.rw 0) (0), .int .i64 (x), .int .i64 (y), .int .i64 (i)] [some ⟨1, (encRU [.agg cs])⟩])) := by kernel_rfl
theorem b35 (G : Nat → List AV) (cs : List AV) (a w i : Int) (Q : Ex → List AV → Hp → Prop) (R : AV → Hp → Prop) : vT G Q R (dloop (Dc Try.prog [] [] [] 0) 200 10 1 (loopN Try.f35 0) 28 [0, 1, 6, 7] [.ptr (.rw 0) (.lit 0), .int .i64 (.var 3 a), .int .i64 (.var 4 w), .int .i64 (.var 2 i)] [some ⟨1, .var 1 cs⟩]) = (
    (decide ((i : Int) ≤ 15) = true →
      decide ((0 : Int) ≤ IntKind.wrap .u64 (i)) = true ∧
      decide ((0 : Int) ≤ i) = true ∧
      decide ((i : Int) < 16) = true ∧
      leB (Int.toNat (i) + 17) (List.length cs) = true ∧
      Q .normal [.ptr (.rw 0) (0), .int .i64 (a), .int .i64 (w), .int .i64 (IntKind.wrap .i64 (i + 1))] [some ⟨1, (setPart cs (Int.toNat (i) + 16) (.bool (((kAnd .i64 (kShr .i64 (a) (IntKind.wrap .u64 (i))) (1) : Int) == 1))))⟩]) ∧
    (decide ((i : Int) ≤ 15) = false →
      Q (.exit 0) [.ptr (.rw 0) (0), .int .i64 (a), .int .i64 (w), .int .i64 (i)] [some ⟨1, cs⟩])) := by kernel_rfl
theorem b37 (G : Nat → List AV) (cs : List AV) (i : Int) (Q : Ex → List AV → Hp → Prop) (R : AV → Hp → Prop) : vT G Q R (dloop (Dc Try.prog [] [] [] 0) 200 10 1 (loopN Try.f37 0) 56 [0, 2, 3, 4] [.ptr (.rw 0) (.lit 0), .ptr (.rw 1) (.lit 0), .bool (.lit false), .int .i64 (.var 2 i)] [some ⟨1, .var 1 cs⟩, some ⟨1, .of [.int .i64 (.lit 0), .bool (.lit false), .int .u32 (.lit 0)]⟩]) = (
    (decide ((i : Int) ≤ 15) = true →
      decide ((0 : Int) ≤ i) = true ∧
      decide ((i : Int) < 16) = true ∧
      isB cs (Int.toNat (i)) = true ∧
      (getB cs (Int.toNat (i)) = true →
        decide ((0 : Int) ≤ i) = true ∧
        decide ((i : Int) < 16) = true ∧
        isB cs (Int.toNat (i) + 16) = true ∧
        (getB cs (Int.toNat (i) + 16) = true →
          Q .normal [.ptr (.rw 0) (0), .ptr (.rw 1) (0), .bool (false), .int .i64 (IntKind.wrap .i64 (i + 1))] [some ⟨1, cs⟩, some ⟨1, ([.int .i64 (0), .bool (false), .int .u32 (0)] : List AV)⟩]) ∧
        (getB cs (Int.toNat (i) + 16) = false →
          decide ((0 : Int) ≤ i) = true ∧
          decide ((i : Int) < 16) = true ∧
          leB (Int.toNat (i) + 1) (List.length cs) = true ∧
          decide ((0 : Int) ≤ i) = true ∧
          decide ((i : Int) < 16) = true ∧
          isI .u32 (setPart cs (Int.toNat (i)) (.bool (false))) (Int.toNat (i) + 32) = true ∧
          (((getI (setPart cs (Int.toNat (i)) (.bool (false))) (Int.toNat (i) + 32) : Int) == 1) = true →
            Q .ret [.ptr (.rw 0) (0), .ptr (.rw 1) (0), .bool (false), .int .i64 (i)] [some ⟨1, (setPart cs (Int.toNat (i)) (.bool (false)))⟩, some ⟨1, ([.int .i64 (0), .bool (false), .int .u32 (0)] : List AV)⟩]) ∧
          (((getI (setPart cs (Int.toNat (i)) (.bool (false))) (Int.toNat (i) + 32) : Int) == 1) = false →
            decide ((0 : Int) ≤ i) = true ∧
            decide ((i : Int) < 16) = true ∧
            isI .u32 (setPart cs (Int.toNat (i)) (.bool (false))) (Int.toNat (i) + 32) = true ∧
            decide ((0 : Int) ≤ i) = true ∧
            decide ((i : Int) < 16) = true ∧
            isI .u32 (setPart cs (Int.toNat (i)) (.bool (false))) (Int.toNat (i) + 32) = true ∧
            Q .ret [.ptr (.rw 0) (0), .ptr (.rw 1) (0), .bool (true), .int .i64 (i)] [some ⟨1, (setPart cs (Int.toNat (i)) (.bool (false)))⟩, some ⟨1, ([.int .i64 (i), .bool (((getI (setPart cs (Int.toNat (i)) (.bool (false))) (Int.toNat (i) + 32) : Int) == 0)), .int .u32 (getI (setPart cs (Int.toNat (i)) (.bool (false))) (Int.toNat (i) + 32))] : List AV)⟩]))) ∧
      (getB cs (Int.toNat (i)) = false →
        Q .normal [.ptr (.rw 0) (0), .ptr (.rw 1) (0), .bool (false), .int .i64 (IntKind.wrap .i64 (i + 1))] [some ⟨1, cs⟩, some ⟨1, ([.int .i64 (0), .bool (false), .int .u32 (0)] : List AV)⟩])) ∧
    (decide ((i : Int) ≤ 15) = false →
      Q (.exit 0) [.ptr (.rw 0) (0), .ptr (.rw 1) (0), .bool (false), .int .i64 (i)] [some ⟨1, cs⟩, some ⟨1, ([.int .i64 (0), .bool (false), .int .u32 (0)] : List AV)⟩])) := by kernel_rfl
theorem r_send' (G : Nat → List AV) (B : Nat) : SendOk (⟨Try.prog, G, B⟩ : Ctx) 34 encR := by
  intro p n
  refine Meth.ofR (C := (⟨Try.prog, G, B⟩ : Ctx)) (rest := [.int .i64 (.var 2 n)]) (dg0 G B) (by kernel_rfl) (by kernel_rfl) (by kernel_rfl) (fuel := 200) (n0 := 10) (fn := Try.f34) ?_
  rw [t34, encRU_enc]
  refine ⟨fun h => ?_, fun h => ⟨fun h' => ?_, fun h' => ⟨fun h3 => ⟨?_, ?_, ?_, ?_⟩, fun h3 => ?_⟩⟩⟩
  · rw [outB_lo h]; exact ⟨rfl, rfl⟩
  · rw [outB_hi h']; exact ⟨rfl, rfl⟩
  all_goals
    have g1 := of_decide_eq_false h
    have g2 := of_decide_eq_false h'
  · exact decide_eq_true (by omega)
  · exact decide_eq_true (by omega)
  · exact leB_encR p _ (by omega)
  · have g3 := of_decide_eq_true h3
    rw [outB_dec h h']
    refine ⟨rfl, ?_⟩
    simp only [Bool.false_eq_true, if_false, ← r_send p n (by omega) (by omega)]
    rfl
  · have g3 := of_decide_eq_false h3
    have : n = 0 := by omega
    subst this
    rw [outB_dec h h']
    refine ⟨rfl, ?_⟩
    simp only [Bool.false_eq_true, if_false, r_send0]
theorem r_handle' (G : Nat → List AV) (B : Nat) : HandleOk (⟨Try.prog, G, B⟩ : Ctx) 36 encR := by
  intro p n a
  refine Meth.ofR (C := (⟨Try.prog, G, B⟩ : Ctx)) (rest := [.int .i64 (.var 2 n), .int .i64 (.var 3 a)]) (dg0 G B) (by kernel_rfl) (by kernel_rfl) (by kernel_rfl) (fuel := 200) (n0 := 10) (fn := Try.f36) ?_
  rw [t36, encRU_enc]
  refine ⟨fun h => ?_, fun h => ⟨fun h' => ?_, fun h' => ⟨fun h3 => ?_, fun h3 => ⟨fun h4 => ?_, fun h4 => ?_⟩⟩⟩⟩
  · rw [outB_lo h]; exact ⟨rfl, rfl⟩
  · rw [outB_hi h']; exact ⟨rfl, rfl⟩
  · rw [outB_lo h3, Bool.or_true]; exact ⟨rfl, rfl⟩
  · rw [outB_hi h4, Bool.or_true]; exact ⟨rfl, rfl⟩
  · have g1 := of_decide_eq_false h
    have g2 := of_decide_eq_false h'
    have a1 : decide ((0 : Int) ≤ n) = true := decide_eq_true (by omega)
    have a2 : decide ((n : Int) < 16) = true := decide_eq_true (by omega)
    refine ⟨a1, a2, r_isA p (by omega), a1, a2, leB_encR p _ (by omega), ?_⟩
    rw [outB_dec h h', outB_dec h3 h4, r_getA p (by omega), i64_in (by have := u_range (p.at_ n.toNat); omega)]
    refine ⟨rfl, ?_⟩
    simp only [Bool.or_self, Bool.false_eq_true, if_false, ← r_handle p n a (by omega) (by omega)]
    rfl
theorem r_handler' (G : Nat → List AV) (B : Nat) : HandlerOk (⟨Try.prog, G, B⟩ : Ctx) 29 encR := by
  intro p n
  refine Meth.ofR (C := (⟨Try.prog, G, B⟩ : Ctx)) (rest := [.int .i64 (.var 2 n)]) (dg0 G B) (by kernel_rfl) (by kernel_rfl) (by kernel_rfl) (fuel := 200) (n0 := 10) (fn := Try.f29) ?_
  rw [t29, encRU_enc]
  refine ⟨fun h => ?_, fun h => ⟨fun h' => ?_, fun h' => ?_⟩⟩
  · rw [outB_lo h]; exact ⟨rfl, rfl⟩
  · rw [outB_hi h']; exact ⟨rfl, rfl⟩
  · have g1 := of_decide_eq_false h
    have g2 := of_decide_eq_false h'
    refine ⟨decide_eq_true (by omega), decide_eq_true (by omega), r_isA p (by omega), ?_⟩
    rw [outB_dec h h', r_getA p (by omega)]
    exact ⟨rfl, rfl⟩
theorem r_waits' (G : Nat → List AV) (B : Nat) : WaitsOk (⟨Try.prog, G, B⟩ : Ctx) 30 encR := by
  intro p n
  refine Meth.ofR (C := (⟨Try.prog, G, B⟩ : Ctx)) (rest := [.int .i64 (.var 2 n)]) (dg0 G B) (by kernel_rfl) (by kernel_rfl) (by kernel_rfl) (fuel := 200) (n0 := 10) (fn := Try.f30) ?_
  rw [t30, encRU_enc]
  refine ⟨fun h => ⟨fun h' => ?_, fun h' => ?_⟩, fun h => ?_⟩
  · have g1 := of_decide_eq_true h
    have g2 := of_decide_eq_true h'
    have a1 : decide ((0 : Int) ≤ n) = true := decide_eq_true (by omega)
    have a2 : decide ((n : Int) < 16) = true := decide_eq_true (by omega)
    rw [outB_false (by omega) g2, r_getW p (by omega), r_getH p (by omega)]
    have e : waitsB p n = (p.wt.getLsbD n.toNat && p.hd.getLsbD n.toNat) := BitVec.getLsbD_and
    rw [e]
    refine ⟨a1, a2, r_isW p (by omega), fun h3 => ⟨a1, a2, r_isH p (by omega), ?_⟩, fun h3 => ?_⟩
    · rw [h3]; exact ⟨by simp, rfl⟩
    · rw [h3]; exact ⟨by simp, rfl⟩
  · have g2 := of_decide_eq_false h'
    rw [outB_true (.inr (by omega))]; exact ⟨rfl, rfl⟩
  · have g2 := of_decide_eq_false h
    rw [outB_true (.inl (by omega))]; exact ⟨rfl, rfl⟩

/-! Held -/
theorem held_loop (G : Nat → List AV) (B : Nat) (p : Sg) : AWp (⟨Try.prog, G, B⟩ : Ctx) 1 (.loop (loopN Try.f33 0)) (fl 24 [0, 3, 4, 5] [.ptr (.rw 0) 0, .int .i64 0, .int .i64 1, .int .i64 0]) [some ⟨1, encR p⟩]
    (lv 24 [0, 3, 4, 5] fun e vs H => e = .exit 0 ∧ wk [.ptr (.rw 0) 0, .int .i64 (u p.hd), .undef, .undef] vs ∧ H = [some ⟨1, encR p⟩]) := by
  refine aloop_lv (fun j vs H => ∃ i : Nat, i ≤ 16 ∧ j = 16 - i ∧ vs = [.ptr (.rw 0) 0, .int .i64 ((p.hd.toNat % 2 ^ i : Nat) : Int), .int .i64 ((2 ^ i : Nat) : Int), .int .i64 (i : Int)] ∧ H = [some ⟨1, encR p⟩]) 16
    ⟨0, by omega, rfl, by simp [Nat.mod_one], rfl⟩ ?_
  rintro j vs H ⟨i, hi, rfl, rfl, rfl⟩
  have := dloop_ok (C := (⟨Try.prog, G, B⟩ : Ctx)) (dg0 G B) (fuel := 200) (n0 := 10) (m := 1) (c := loopN Try.f33 0) (N := 24) (live := [0, 3, 4, 5]) (vs := [.ptr (.rw 0) (.lit 0), .int .i64 (.var 3 ((p.hd.toNat % 2 ^ i : Nat) : Int)), .int .i64 (.var 4 ((2 ^ i : Nat) : Int)), .int .i64 (.var 2 (i : Int))]) (H := [some ⟨1, .uf 1002 encRU [.agg (.var 1 (encP p))]⟩])
    (Q := fun e vs' H' => match e with
      | .normal => ∃ k', k' < 16 - i ∧ ((∃ i : Nat, i ≤ 16 ∧ k' = 16 - i ∧ vs' = [.ptr (.rw 0) 0, .int .i64 ((p.hd.toNat % 2 ^ i : Nat) : Int), .int .i64 ((2 ^ i : Nat) : Int), .int .i64 (i : Int)] ∧ H' = [some ⟨1, encR p⟩]) ∨ ∃ vs'' H'', (∃ i : Nat, i ≤ 16 ∧ k' = 16 - i ∧ vs'' = [.ptr (.rw 0) 0, .int .i64 ((p.hd.toNat % 2 ^ i : Nat) : Int), .int .i64 ((2 ^ i : Nat) : Int), .int .i64 (i : Int)] ∧ H'' = [some ⟨1, encR p⟩]) ∧ View 1 vs'' H'' vs' H')
      | e => e = .exit 0 ∧ wk [.ptr (.rw 0) 0, .int .i64 (u p.hd), .undef, .undef] vs' ∧ H' = [some ⟨1, encR p⟩]) (by simp) (by
    rw [b33, encRU_enc]
    have hlt := hd_lt p
    have hmod : p.hd.toNat % 2 ^ i ≤ p.hd.toNat := Nat.mod_le _ _
    have hp : i ≤ 15 → 2 ^ i ≤ 2 ^ 15 := fun h => Nat.pow_le_pow_right (by omega) h
    refine ⟨fun h => ?_, fun h => ?_⟩
    · have h := of_decide_eq_true h
      have hp := hp (by omega)
      rw [Int.toNat_natCast, r_getH p (by omega)]
      have es := sum_step p.hd i
      have e2 : IntKind.wrap .i64 (2 * ((2 ^ i : Nat) : Int)) = ((2 ^ (i + 1) : Nat) : Int) := by
        rw [i64_in (by omega), Nat.pow_succ]; omega
      refine ⟨decide_eq_true (by omega), decide_eq_true (by omega), r_isH p (by omega), fun hb => ?_, fun hb => ?_⟩
      · rw [hb, if_pos rfl] at es
        refine ⟨16 - (i + 1), by omega, .inl ⟨i + 1, by omega, rfl, ?_, rfl⟩⟩
        rw [e2, i64_in (by omega), i64_in (by omega), es]
        simp
      · rw [hb] at es
        refine ⟨16 - (i + 1), by omega, .inl ⟨i + 1, by omega, rfl, ?_, rfl⟩⟩
        rw [e2, i64_in (by omega), es]
        simp
    · have h := of_decide_eq_false h
      have : i = 16 := by omega
      subst this
      refine ⟨rfl, ?_, rfl⟩
      have : p.hd.toNat % 2 ^ 16 = p.hd.toNat := Nat.mod_eq_of_lt hlt
      rw [this]
      simp [wk]; rfl)
  simp only [vVs, vV, vR, vN, vI, vHp, List.map_cons, List.map_nil, Option.map_some, vBlk, vL, encRU_enc] at this
  exact this
def heldL : DL := ⟨0, 24, [0, 3, 4, 5], fun vs H => match vs, H with
  | [.ptr (.rw 0) (.lit 0), .int .i64 (.lit 0), .int .i64 (.lit 1), .int .i64 (.lit 0)], [some ⟨1, l⟩] => match sideR.get l with
    | some (b, d) => some (.chk b (.one (.exit 0) [.ptr (.rw 0) (.lit 0), .int .i64 (.uf 1012 heldU [.agg d]), .undef, .undef] [some ⟨1, l⟩]))
    | none => none
  | _, _ => none⟩
theorem heldL_ok (G : Nat → List AV) (B : Nat) : DLoopOk (⟨Try.prog, G, B⟩ : Ctx) 1 (loopN Try.f33 0) heldL := by
  refine .of fun vs H o ho n Q hQ => ?_
  simp only [heldL] at ho
  split at ho
  · rename_i l
    split at ho
    · rename_i b d hg
      simp only [Option.some.injEq] at ho
      subst ho
      obtain ⟨h1, h2⟩ := hQ
      obtain ⟨p, e1, e2⟩ := (sideR_ok G).get l b d hg h1
      refine lone ?_ h2
      simp only [heldL, vVs, vV, vR, vN, vI, vL, vHp, List.map_cons, List.map_nil, Option.map_some, vBlk]
      rw [e1, e2, heldU_enc]
      exact held_loop G B _
    · simp at ho
  · simp at ho
theorem dgH (G : Nat → List AV) (B : Nat) : DGood (⟨Try.prog, G, B⟩ : Ctx) (Dc Try.prog [] [] [heldL] 1) (loopsOf (bodyOf Try.f33)) := dgood (mix G B) (by kernel_rfl) .nil (.cast (.cons (i := 0) (by kernel_rfl) rfl (heldL_ok G B) .nil) (by kernel_rfl))
theorem t33 (G : Nat → List AV) (cs : List AV) (Q : Ex → List AV → Hp → Prop) (R : AV → Hp → Prop) : vT G Q R (dcall (Dc Try.prog [] [] [heldL] 1) 200 10 Try.f33 [.ptr (.rw 0) (.lit 0)] [some ⟨1, .uf 1002 encRU [.agg (.var 1 cs)]⟩] 1) = (
    okRU [.agg (encRU [.agg cs]), .agg cs] = true ∧
    R (.int .i64 (heldU [.agg cs])) [some ⟨1, (encRU [.agg cs])⟩]) := by kernel_rfl
theorem r_held' (G : Nat → List AV) (B : Nat) : HeldOk (⟨Try.prog, G, B⟩ : Ctx) 33 encR := by
  intro p
  refine Meth.ofR (C := (⟨Try.prog, G, B⟩ : Ctx)) (rest := []) (dgH G B) (by kernel_rfl) (by kernel_rfl) (by kernel_rfl) (fuel := 200) (n0 := 10) (fn := Try.f33) ?_
  rw [t33, encRU_enc, heldU_enc]
  exact ⟨okRU_enc p, rfl, rfl⟩

/-! Mask -/
/-- the first ones of what is held back are laid anew -/
def mixF (p : Sg) (a : Int) (i : Nat) : Nat → Bool := fun j => if 2 ≤ j ∧ j < i then (w32 a).getLsbD j else p.hd.getLsbD j
def encM (p : Sg) (a : Int) (i : Nat) : List AV := encF (fun i => p.wt.getLsbD i) (mixF p a i) p.at_
theorem encM_0 (p : Sg) (a : Int) : encM p a 2 = encR p := encF_congr (fun _ _ => rfl) (fun j _ => by simp only [mixF]; rw [if_neg (by omega)]) (fun _ _ => rfl)
theorem encM_16 (p : Sg) (a : Int) : encM p a 16 = encR (mask p a) := by
  refine encF_congr (fun _ _ => rfl) (fun j hj => ?_) (fun _ _ => rfl)
  show _ = (w32 a &&& 65532#32).getLsbD j
  rw [BitVec.getLsbD_and, m32 j hj]
  simp only [mixF]
  by_cases h : 2 ≤ j
  · rw [if_pos ⟨h, hj⟩, decide_eq_true h, Bool.and_true]
  · rw [if_neg (by omega), hd01 p (by omega), decide_eq_false h, Bool.and_false]
theorem encM_succ (p : Sg) (a : Int) (i : Nat) (h1 : 2 ≤ i) (h2 : i < 16) : (encM p a i).set (i + 16) (.bool ((w32 a).getLsbD i)) = encM p a (i + 1) := by
  unfold encM
  rw [encF_setH _ _ _ h2]
  refine encF_congr (fun _ _ => rfl) (fun j hj => ?_) (fun _ _ => rfl)
  simp only [updB, mixF]
  by_cases he : j = i
  · subst he; rw [if_pos rfl, if_pos (by omega)]
  · rw [if_neg he]
    by_cases h : 2 ≤ j ∧ j < i
    · rw [if_pos h, if_pos (by omega)]
    · rw [if_neg h, if_neg (by omega)]
theorem mask_loop (G : Nat → List AV) (B : Nat) (p : Sg) (a w : Int) : AWp (⟨Try.prog, G, B⟩ : Ctx) 1 (.loop (loopN Try.f35 0)) (fl 28 [0, 1, 6, 7] [.ptr (.rw 0) 0, .int .i64 a, .int .i64 w, .int .i64 2]) [some ⟨1, encR p⟩]
    (lv 28 [0, 1, 6, 7] fun e vs H => e = .exit 0 ∧ wk [.ptr (.rw 0) 0, .int .i64 a, .int .i64 w, .undef] vs ∧ H = [some ⟨1, encR (mask p a)⟩]) := by
  refine aloop_lv (fun j vs H => ∃ i : Nat, 2 ≤ i ∧ i ≤ 16 ∧ j = 16 - i ∧ vs = [.ptr (.rw 0) 0, .int .i64 a, .int .i64 w, .int .i64 (i : Int)] ∧ H = [some ⟨1, encM p a i⟩]) 14
    ⟨2, by omega, by omega, rfl, rfl, by rw [encM_0]⟩ ?_
  rintro j vs H ⟨i, hi1, hi2, rfl, rfl, rfl⟩
  refine dloop_ok (C := (⟨Try.prog, G, B⟩ : Ctx)) (dg0 G B) (fuel := 200) (n0 := 10) (m := 1) (c := loopN Try.f35 0) (vs := [.ptr (.rw 0) (.lit 0), .int .i64 (.var 3 a), .int .i64 (.var 4 w), .int .i64 (.var 2 (i : Int))]) (H := [some ⟨1, .var 1 (encM p a i)⟩]) (by simp) ?_
  rw [b35]
  refine ⟨fun h => ?_, fun h => ?_⟩
  · have h := of_decide_eq_true h
    rw [bit64 a i (by omega), Int.toNat_natCast]
    refine ⟨decide_eq_true (by rw [IntKind.wrap_u64]; omega), decide_eq_true (by omega), decide_eq_true (by omega), leB_iff.2 (by unfold encM; rw [encF_length]; omega), ?_⟩
    refine ⟨16 - (i + 1), by omega, .inl ⟨i + 1, by omega, by omega, rfl, by rw [i64_in (by omega)]; rfl, ?_⟩⟩
    show [some (⟨1, (encM p a i).set (i + 16) (.bool ((w32 a).getLsbD i))⟩ : Blk)] = _
    rw [encM_succ p a i hi1 (by omega)]
  · have h := of_decide_eq_false h
    have : i = 16 := by omega
    subst this
    exact ⟨rfl, by simp [wk], by rw [encM_16]⟩
def maskL : DL := ⟨0, 28, [0, 1, 6, 7], fun vs H => match vs, H with
  | [.ptr (.rw 0) (.lit 0), .int .i64 a, .int .i64 w, .int .i64 (.lit 2)], [some ⟨1, l⟩] => match sideR.get l with
    | some (b, d) => some (.chk b (.one (.exit 0) [.ptr (.rw 0) (.lit 0), .int .i64 a, .int .i64 w, .undef] [some ⟨1, sideR.put (.uf 1011 maskU [.agg d, .int .i64 a])⟩]))
    | none => none
  | _, _ => none⟩
theorem maskL_ok (G : Nat → List AV) (B : Nat) : DLoopOk (⟨Try.prog, G, B⟩ : Ctx) 1 (loopN Try.f35 0) maskL := by
  refine .of fun vs H o ho n Q hQ => ?_
  simp only [maskL] at ho
  split at ho
  · rename_i a w l
    split at ho
    · rename_i b d hg
      simp only [Option.some.injEq] at ho
      subst ho
      obtain ⟨h1, h2⟩ := hQ
      obtain ⟨p, e1, e2⟩ := (sideR_ok G).get l b d hg h1
      refine lone ?_ h2
      simp only [maskL, vVs, vV, vR, vN, vI, vHp, List.map_cons, List.map_nil, Option.map_some, vBlk]
      rw [(sideR_ok G).put _ (mask p (vI G a)) (by simp only [vL, vVs, vV, e1, maskU_enc]), e2]
      exact mask_loop G B _ _ _
    · simp at ho
  · simp at ho
theorem dgM (G : Nat → List AV) (B : Nat) : DGood (⟨Try.prog, G, B⟩ : Ctx) (Dc Try.prog [] [(33, heldS sideR)] [maskL] 1) (loopsOf (bodyOf Try.f35)) := dgood (mix G B) (by kernel_rfl) (.cons (heldS_ok (sideR_ok _) (r_held' G B)) .nil) (.cast (.cons (i := 0) (by kernel_rfl) rfl (maskL_ok G B) .nil) (by kernel_rfl))
theorem t35 (G : Nat → List AV) (cs : List AV) (n : Int) (Q : Ex → List AV → Hp → Prop) (R : AV → Hp → Prop) : vT G Q R (dcall (Dc Try.prog [] [(33, heldS sideR)] [maskL] 1) 200 10 Try.f35 [.ptr (.rw 0) (.lit 0), .int .i64 (.var 2 n)] [some ⟨1, .uf 1002 encRU [.agg (.var 1 cs)]⟩] 1) = (
    okRU [.agg (encRU [.agg cs]), .agg cs] = true ∧
    okRU [.agg (encRU [.agg cs]), .agg cs] = true ∧
    R (.tup [.int .i64 (heldU [.agg cs]), .int .i64 (0)]) [some ⟨1, (encRU [.agg (maskU [.agg cs, .int .i64 (n)])])⟩]) := by kernel_rfl
theorem r_mask' (G : Nat → List AV) (B : Nat) : MaskOk (⟨Try.prog, G, B⟩ : Ctx) 35 encR := by
  intro p n
  refine Meth.ofR (C := (⟨Try.prog, G, B⟩ : Ctx)) (rest := [.int .i64 (.var 2 n)]) (dgM G B) (by kernel_rfl) (by kernel_rfl) (by kernel_rfl) (fuel := 200) (n0 := 10) (fn := Try.f35) ?_
  rw [t35, encRU_enc, heldU_enc, maskU_enc, encRU_enc]
  exact ⟨okRU_enc p, okRU_enc p, rfl, rfl⟩

/-! Pending -/
theorem rp_loop (G : Nat → List AV) (B : Nat) (p : Sg) : AWp (⟨Try.prog, G, B⟩ : Ctx) 1 (.loop (loopN Try.f31 0)) (fl 22 [0, 3, 4] [.ptr (.rw 0) 0, .slice true (.rw 1) 0 0, .int .i64 1]) [some ⟨1, encR p⟩, some ⟨1, []⟩]
    (lv 22 [0, 3, 4] fun e vs H => e = .exit 0 ∧ wk [.ptr (.rw 0) 0, .slice true (.rw 1) 0 (pend p.wt).length, .undef] vs ∧ H = [some ⟨1, encR p⟩, some ⟨1, nl (pend p.wt)⟩]) := by
  refine aloop_lv (fun j vs H => ∃ i : Nat, i ≤ 15 ∧ j = 15 - i ∧ vs = [.ptr (.rw 0) 0, .slice true (.rw 1) 0 (pendTo p.wt i).length, .int .i64 ((i + 1 : Nat) : Int)] ∧ H = [some ⟨1, encR p⟩, some ⟨1, nl (pendTo p.wt i)⟩]) 15
    ⟨0, by omega, rfl, rfl, rfl⟩ ?_
  rintro j vs H ⟨i, hi, rfl, rfl, rfl⟩
  refine dloop_ok (C := (⟨Try.prog, G, B⟩ : Ctx)) (dg0 G B) (fuel := 200) (n0 := 10) (m := 1) (c := loopN Try.f31 0) (vs := [.ptr (.rw 0) (.lit 0), .slice true (.rw 1) (.lit 0) (.var 4 (pendTo p.wt i).length), .int .i64 (.var 2 ((i + 1 : Nat) : Int))])
    (H := [some ⟨1, .var 1 (encR p)⟩, some ⟨1, .var 3 (nl (pendTo p.wt i))⟩]) (by simp) ?_
  rw [b31]
  have hlen := pendTo_length p.wt i
  refine ⟨fun h => ?_, fun h => ?_⟩
  · have h := of_decide_eq_true h
    rw [Int.toNat_natCast, r_getW p (by omega)]
    refine ⟨decide_eq_true (by omega), decide_eq_true (by omega), r_isW p (by omega), fun hb => ⟨leB_iff.2 (by omega), by rw [nl_length]; exact Nat.beq_refl _, ?_⟩, fun hb => ?_⟩
    · have hs : pendTo p.wt (i + 1) = pendTo p.wt i ++ [i + 1] := by rw [pendTo_succ, hb]; rfl
      refine ⟨15 - (i + 1), by omega, .inr ⟨_, _, ⟨i + 1, by omega, rfl, rfl, rfl⟩, ?_⟩⟩
      rw [hs]
      refine View.renM (θ := [0, 3]) (by simp) fixes1 (by decide) ⟨⟨encR_flat _ _, by rw [rens_flat _ _ (encR_flat 0 p)]; rfl⟩, ⟨nl_flat _ _, by rw [nl_rens, nl_append]; rfl⟩, trivial⟩ (by simp [bnds, bnd]) ?_
      have e5 := i64_in (n := ((i + 1 : Nat) : Int) + 1) (by omega)
      simp [rens, ren, wk] at e5 ⊢
      exact e5
    · have hs : pendTo p.wt (i + 1) = pendTo p.wt i := by rw [pendTo_succ, hb]; simp
      refine ⟨15 - (i + 1), by omega, .inl ⟨i + 1, by omega, rfl, by rw [i64_in (by omega), hs]; rfl, by rw [hs]⟩⟩
  · have h := of_decide_eq_false h
    have : i = 15 := by omega
    subst this
    exact ⟨rfl, by simp [wk, pend, pendTo], rfl⟩
def rpL : DL := ⟨0, 22, [0, 3, 4], fun vs H => match vs, H with
  | [.ptr (.rw 0) (.lit 0), .nils, .int .i64 (.lit 1)], [some ⟨1, l⟩] => match sideR.get l with
    | some (b, d) => some (.chk b (.one (.exit 0) [.ptr (.rw 0) (.lit 0), .slice true (.rw 1) (.lit 0) (.uf 1021 pendNU [.agg d]), .undef] [some ⟨1, l⟩, some ⟨1, .uf 1020 pendU [.agg d]⟩]))
    | none => none
  | _, _ => none⟩
theorem rpL_ok (G : Nat → List AV) (B : Nat) : DLoopOk (⟨Try.prog, G, B⟩ : Ctx) 1 (loopN Try.f31 0) rpL := by
  refine .of fun vs H o ho n Q hQ => ?_
  simp only [rpL] at ho
  split at ho
  · rename_i l
    split at ho
    · rename_i b d hg
      simp only [Option.some.injEq] at ho
      subst ho
      obtain ⟨h1, h2⟩ := hQ
      obtain ⟨p, e1, e2⟩ := (sideR_ok G).get l b d hg h1
      refine lone ?_ h2
      simp only [rpL, vVs, vV, vR, vN, vI, vL, vHp, List.map_cons, List.map_nil, Option.map_some, vBlk]
      rw [e1, e2, pendNU_enc, pendU_enc]
      exact AWp.nil (H := [some ⟨1, encR _⟩]) 1 (by simp) (nilrs_fl (vs := [.ptr (.rw 0) 0, .slice true (.rw 1) 0 0, .int .i64 1]) ⟨.inl rfl, .inr ⟨rfl, rfl⟩, .inl rfl, trivial⟩) ⟨⟨rfl, nilrs_refl _⟩, trivial⟩ (rp_loop G B _)
    · simp at ho
  · simp at ho
theorem dgQ (G : Nat → List AV) (B : Nat) : DGood (⟨Try.prog, G, B⟩ : Ctx) (Dc Try.prog [] [] [rpL] 1) (loopsOf (bodyOf Try.f31)) := dgood (mix G B) (by kernel_rfl) .nil (.cast (.cons (i := 0) (by kernel_rfl) rfl (rpL_ok G B) .nil) (by kernel_rfl))
theorem t31 (G : Nat → List AV) (cs : List AV) (Q : Ex → List AV → Hp → Prop) (R : AV → Hp → Prop) : vT G Q R (dcall (Dc Try.prog [] [] [rpL] 1) 200 10 Try.f31 [.ptr (.rw 0) (.lit 0)] [some ⟨1, .uf 1002 encRU [.agg (.var 1 cs)]⟩] 2) = (
    okRU [.agg (encRU [.agg cs]), .agg cs] = true ∧
    R (.slice true (.rw 1) (0) (pendNU [.agg cs])) [some ⟨1, (encRU [.agg cs])⟩, some ⟨1, (pendU [.agg cs])⟩]) := by kernel_rfl
theorem r_pend' (G : Nat → List AV) (B : Nat) : NewOk (⟨Try.prog, G, B⟩ : Ctx) 31 encR (fun p => .slice true (.rw 1) 0 (pend p.wt).length) (fun p => nl (pend p.wt)) := by
  intro p
  refine New.ofR (C := (⟨Try.prog, G, B⟩ : Ctx)) (dgQ G B) (by kernel_rfl) (by kernel_rfl) (by kernel_rfl) (nl_flat _ _) (by simp [bnd]) (by simp) (fuel := 200) (n0 := 10) (fn := Try.f31) ?_
  rw [t31, encRU_enc, pendNU_enc, pendU_enc]
  exact ⟨okRU_enc p, rfl, rfl⟩
end Go.Am
