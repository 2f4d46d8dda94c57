/-
  The program's sets: what its calls without loops do.
-/
import Derived.Test.YtopenjkaifbnmaaBase7
import Derived.Test.YtopenjkaifbnmaaProg
namespace Go.Am
open Go.Proofs Crc
set_option maxRecDepth 100000
theorem mix (G : Nat → List AV) (B : Nat) : ((⟨Try.prog, G, B⟩ : Ctx)).P.follows .mixedOrders = true := by kernel_rfl
theorem dg (G : Nat → List AV) (B : Nat) : DGood (⟨Try.prog, G, B⟩ : Ctx) (Dc Try.prog [26, 27] [] [] 0) [] := dgood (mix G B) (by kernel_rfl) .nil .nil
theorem t11 (G : Nat → List AV) (cs : List AV) (n : Int) (Q : Ex → List AV → Hp → Prop) (R : AV → Hp → Prop) : vT G Q R (dcall (Dc Try.prog [26, 27] [] [] 0) 200 10 Try.f11 [.ptr (.rw 0) (.lit 0), .int .i64 (.var 2 n)] [some ⟨1, .var 1 cs⟩] 1) = (
    isB cs (0) = true ∧
    (getB cs (0) = true →
      (decide ((n : Int) < 0) = true →
        R (.int .i64 (2)) [some ⟨1, cs⟩]) ∧
      (decide ((n : Int) < 0) = false →
        (decide ((n : Int) > 15) = true →
          R (.int .i64 (2)) [some ⟨1, cs⟩]) ∧
        (decide ((n : Int) > 15) = false →
          isI .u32 cs (1) = true ∧
          decide ((0 : Int) ≤ n) = true ∧
          leB (2) (List.length cs) = true ∧
          R (.int .i64 (0)) [some ⟨1, (setPart cs (1) (.int .u32 (kOr .u32 (getI cs (1)) (kAnd .u32 (kShl .u32 (1) (n)) (65534)))))⟩]))) ∧
    (getB cs (0) = false →
      R (.int .i64 (1)) [some ⟨1, cs⟩])) := by kernel_rfl
theorem t12 (G : Nat → List AV) (cs : List AV) (n : Int) (Q : Ex → List AV → Hp → Prop) (R : AV → Hp → Prop) : vT G Q R (dcall (Dc Try.prog [26, 27] [] [] 0) 200 10 Try.f12 [.ptr (.rw 0) (.lit 0), .int .i64 (.var 2 n)] [some ⟨1, .var 1 cs⟩] 1) = (
    isB cs (0) = true ∧
    (getB cs (0) = true →
      isI .u32 cs (2) = true ∧
      leB (3) (List.length cs) = true ∧
      R (.tup [.int .i64 (IntKind.wrap .i64 (getI cs (2))), .int .i64 (0)]) [some ⟨1, (setPart cs (2) (.int .u32 (kAnd .u32 (IntKind.wrap .u32 (n)) (65532))))⟩]) ∧
    (getB cs (0) = false →
      R (.tup [.int .i64 (0), .int .i64 (1)]) [some ⟨1, cs⟩])) := by kernel_rfl
theorem t10 (G : Nat → List AV) (cs : List AV) (n a : Int) (Q : Ex → List AV → Hp → Prop) (R : AV → Hp → Prop) : vT G Q R (dcall (Dc Try.prog [26, 27] [] [] 0) 200 10 Try.f10 [.ptr (.rw 0) (.lit 0), .int .i64 (.var 2 n), .int .i64 (.var 3 a)] [some ⟨1, .var 1 cs⟩] 1) = (
    isB cs (0) = true ∧
    (getB cs (0) = true →
      (decide ((n : Int) < 2) = true →
        R (.tup [.int .i64 (0), .int .i64 (2)]) [some ⟨1, cs⟩]) ∧
      (decide ((n : Int) < 2) = false →
        (decide ((n : Int) > 15) = true →
          R (.tup [.int .i64 (0), .int .i64 (2)]) [some ⟨1, cs⟩]) ∧
        (decide ((n : Int) > 15) = false →
          (((a : Int) == IntKind.wrap .i64 (IntKind.wrap .u32 (a))) = true →
            decide ((0 : Int) ≤ n) = true ∧
            decide ((n : Int) < 16) = true ∧
            isI .u32 cs (Int.toNat (n) + 3) = true ∧
            decide ((0 : Int) ≤ n) = true ∧
            decide ((n : Int) < 16) = true ∧
            leB (Int.toNat (n) + 4) (List.length cs) = true ∧
            R (.tup [.int .i64 (IntKind.wrap .i64 (getI cs (Int.toNat (n) + 3))), .int .i64 (0)]) [some ⟨1, (setPart cs (Int.toNat (n) + 3) (.int .u32 (IntKind.wrap .u32 (a))))⟩]) ∧
          (((a : Int) == IntKind.wrap .i64 (IntKind.wrap .u32 (a))) = false →
            R (.tup [.int .i64 (0), .int .i64 (2)]) [some ⟨1, cs⟩])))) ∧
    (getB cs (0) = false →
      R (.tup [.int .i64 (0), .int .i64 (1)]) [some ⟨1, cs⟩])) := by kernel_rfl
theorem t13 (G : Nat → List AV) (cs : List AV) (n : Int) (Q : Ex → List AV → Hp → Prop) (R : AV → Hp → Prop) : vT G Q R (dcall (Dc Try.prog [26, 27] [] [] 0) 200 10 Try.f13 [.ptr (.rw 0) (.lit 0), .int .i64 (.var 2 n)] [some ⟨1, .var 1 cs⟩] 1) = (
    isB cs (0) = true ∧
    (getB cs (0) = true →
      (decide ((n : Int) < 1) = true →
        R (.tup [.int .u32 (0), .bool (false)]) [some ⟨1, cs⟩]) ∧
      (decide ((n : Int) < 1) = false →
        (decide ((n : Int) > 15) = true →
          R (.tup [.int .u32 (0), .bool (false)]) [some ⟨1, cs⟩]) ∧
        (decide ((n : Int) > 15) = false →
          decide ((0 : Int) ≤ n) = true ∧
          decide ((n : Int) < 16) = true ∧
          isI .u32 cs (Int.toNat (n) + 3) = true ∧
          R (.tup [.int .u32 (getI cs (Int.toNat (n) + 3)), .bool (true)]) [some ⟨1, cs⟩]))) ∧
    (getB cs (0) = false →
      R (.tup [.int .u32 (0), .bool (false)]) [some ⟨1, cs⟩])) := by kernel_rfl
theorem t15 (G : Nat → List AV) (cs : List AV) (n : Int) (Q : Ex → List AV → Hp → Prop) (R : AV → Hp → Prop) : vT G Q R (dcall (Dc Try.prog [26, 27] [] [] 0) 200 10 Try.f15 [.ptr (.rw 0) (.lit 0), .int .i64 (.var 2 n)] [some ⟨1, .var 1 cs⟩] 1) = (
    isB cs (0) = true ∧
    (getB cs (0) = true →
      (decide ((n : Int) ≥ 1) = true →
        (decide ((n : Int) ≤ 15) = true →
          isI .u32 cs (1) = true ∧
          isI .u32 cs (2) = true ∧
          decide ((0 : Int) ≤ n) = true ∧
          R (.bool (((kAnd .u32 (kShr .u32 (kAnd .u32 (getI cs (1)) (getI cs (2))) (n)) (1) : Int) == 1))) [some ⟨1, cs⟩]) ∧
        (decide ((n : Int) ≤ 15) = false →
          R (.bool (false)) [some ⟨1, cs⟩])) ∧
      (decide ((n : Int) ≥ 1) = false →
        R (.bool (false)) [some ⟨1, cs⟩])) ∧
    (getB cs (0) = false →
      R (.bool (false)) [some ⟨1, cs⟩])) := by kernel_rfl
theorem t32 (G : Nat → List AV) (cs : List AV) (Q : Ex → List AV → Hp → Prop) (R : AV → Hp → Prop) : vT G Q R (dcall (Dc Try.prog [26, 27] [] [] 0) 200 10 Try.f32 [.ptr (.rw 0) (.lit 0)] [some ⟨1, .var 1 cs⟩] 1) = (
    isB cs (0) = true ∧
    (getB cs (0) = true →
      isI .u32 cs (2) = true ∧
      R (.int .i64 (IntKind.wrap .i64 (getI cs (2)))) [some ⟨1, cs⟩]) ∧
    (getB cs (0) = false →
      R (.int .i64 (0)) [some ⟨1, cs⟩])) := by kernel_rfl
theorem t17 (G : Nat → List AV) (cs : List AV) (Q : Ex → List AV → Hp → Prop) (R : AV → Hp → Prop) : vT G Q R (dcall (Dc Try.prog [26, 27] [] [] 0) 200 10 Try.f17 [.ptr (.rw 0) (.lit 0)] [some ⟨1, .var 1 cs⟩] 2) = (
    isB cs (0) = true ∧
    (getB cs (0) = true →
      leB (19) (List.length cs) = true ∧
      cellsB (subL cs (0) (19)) = true ∧
      Nat.beq (List.length (subL cs (0) (19))) (19) = true ∧
      R (.ptr (.rw 1) (0)) [some ⟨1, cs⟩, some ⟨1, (subL cs (0) (19))⟩]) ∧
    (getB cs (0) = false →
      R (.nilp) [some ⟨1, cs⟩])) := by kernel_rfl
theorem t38 (G : Nat → List AV) (cs : List AV) (Q : Ex → List AV → Hp → Prop) (R : AV → Hp → Prop) : vT G Q R (dcall (Dc Try.prog [26, 27, 17] [] [] 0) 200 10 Try.f38 [.ptr (.rw 0) (.lit 0)] [some ⟨1, .var 1 cs⟩] 2) = (
    isB cs (0) = true ∧
    (getB cs (0) = true →
      leB (19) (List.length cs) = true ∧
      cellsB (subL cs (0) (19)) = true ∧
      Nat.beq (List.length (subL cs (0) (19))) (19) = true ∧
      leB (2) (List.length (subL cs (0) (19))) = true ∧
      R (.ptr (.rw 1) (0)) [some ⟨1, cs⟩, some ⟨1, (setPart (subL cs (0) (19)) (1) (.int .u32 (0)))⟩]) ∧
    (getB cs (0) = false →
      R (.nilp) [some ⟨1, cs⟩])) := by kernel_rfl
theorem leB_enc (p : Sg) (k : Nat) (h : k ≤ 19) : leB k (encP p).length = true := leB_iff.2 (by rw [encP_length]; exact h)
theorem outB_dec {n lo hi : Int} (h1 : decide (n < lo) = false) (h2 : decide (n > hi) = false) : outB n lo hi = false := by
  have := of_decide_eq_false h1
  have := of_decide_eq_false h2
  exact outB_false (by omega) (by omega)
theorem outB_lo {n lo hi : Int} (h1 : decide (n < lo) = true) : outB n lo hi = true := outB_true (.inl (of_decide_eq_true h1))
theorem outB_hi {n lo hi : Int} (h1 : decide (n > hi) = true) : outB n lo hi = true := outB_true (.inr (of_decide_eq_true h1))
theorem send_w (p : Sg) (n : Int) (h1 : 0 ≤ n) (h2 : n ≤ 15) : (encP p).set 1 (.int .u32 (kOr .u32 (u p.wt) (kAnd .u32 (kShl .u32 1 n) 65534))) = encP (send p n) := by
  have en : n = (n.toNat : Int) := by omega
  have e : kOr .u32 (u p.wt) (kAnd .u32 (kShl .u32 1 n) 65534) = u ((p.wt ||| bitN n.toNat) &&& 65534#32) := by
    rw [en, kShl1 (by omega), kAnd_w, kOr_w, w32_u, w32_u, w32_u]
    congr 1
    rw [Int.toNat_natCast]
    have : w32 65534 = 65534#32 := rfl
    rw [this]
    conv => lhs; rw [← p.hw]
    rw [BitVec.and_comm p.wt, BitVec.and_comm (bitN n.toNat)]
    rw [BitVec.and_comm (p.wt ||| bitN n.toNat)]
    rw [BitVec.and_or_distrib_left]
  rw [e]; rfl
theorem dgL (G : Nat → List AV) (B : Nat) (fn : Func) (h : loopsOf (bodyOf fn) = []) : DGood (⟨Try.prog, G, B⟩ : Ctx) (Dc Try.prog [26, 27] [] [] 0) (loopsOf (bodyOf fn)) := by rw [h]; exact dg G B
theorem p_send (G : Nat → List AV) (B : Nat) : SendOk (⟨Try.prog, G, B⟩ : Ctx) 11 encP := by
  intro p n
  refine Meth.of (C := (⟨Try.prog, G, B⟩ : Ctx)) (rest := [.int .i64 (.var 2 n)]) (dg G B) (by kernel_rfl) (by kernel_rfl) (by kernel_rfl) (fuel := 200) (n0 := 10) (fn := Try.f11) ?_
  rw [t11]
  refine ⟨rfl, fun _ => ⟨fun h => ?_, fun h => ⟨fun h' => ?_, fun h' => ⟨rfl, ?_, leB_enc p _ (by omega), ?_⟩⟩⟩, fun h => by cases h⟩
  · rw [outB_lo h]; exact ⟨rfl, rfl⟩
  · rw [outB_hi h']; exact ⟨rfl, rfl⟩
  · exact decide_eq_true (by have := of_decide_eq_false h; omega)
  · rw [outB_dec h h']
    refine ⟨rfl, ?_⟩
    have := of_decide_eq_false h
    have := of_decide_eq_false h'
    simp only [Bool.false_eq_true, if_false, ← send_w p n (by omega) (by omega)]
    rfl
theorem p_mask (G : Nat → List AV) (B : Nat) : MaskOk (⟨Try.prog, G, B⟩ : Ctx) 12 encP := by
  intro p n
  refine Meth.of (C := (⟨Try.prog, G, B⟩ : Ctx)) (rest := [.int .i64 (.var 2 n)]) (dg G B) (by kernel_rfl) (by kernel_rfl) (by kernel_rfl) (fuel := 200) (n0 := 10) (fn := Try.f12) ?_
  rw [t12]
  refine ⟨rfl, fun _ => ⟨rfl, leB_enc p _ (by omega), ?_, ?_⟩, fun h => by cases h⟩
  · have : IntKind.wrap .i64 (u p.hd) = u p.hd := i64_in (by have := u_range p.hd; omega)
    rw [encP_2, this]
  · have e : kAnd .u32 (IntKind.wrap .u32 n) 65532 = u (w32 n &&& 65532#32) := by rw [kAnd_w, w32_wrap]; rfl
    rw [e]; rfl
theorem u32_back {a : Int} : (a == IntKind.wrap .i64 (IntKind.wrap .u32 a)) = !(outB a 0 4294967295) := by
  rw [IntKind.wrap_u32, i64_in (by omega)]
  by_cases h : a < 0 ∨ 4294967295 < a
  · rw [outB_true h]; simp; omega
  · rw [outB_false (by omega) (by omega)]; simp; omega
theorem handle_w (p : Sg) (n a : Int) (h1 : 2 ≤ n) (h2 : n ≤ 15) : (encP p).set (n.toNat + 3) (.int .u32 (IntKind.wrap .u32 a)) = encP (handle p n a) := by
  rw [wrap_w32]
  show (AV.bool true :: .int .u32 (u p.wt) :: .int .u32 (u p.hd) :: at16 p.at_).set (n.toNat + 3) _ = _
  simp only [List.set_cons_succ]
  show _ = AV.bool true :: .int .u32 (u p.wt) :: .int .u32 (u p.hd) :: at16 (updA p.at_ n.toNat (w32 a))
  congr 3
  apply List.ext_getElem?
  intro j
  rw [List.getElem?_set, at16_length]
  by_cases hj : j < 16
  · rw [at16_get _ hj, at16_get _ hj]
    unfold updA
    by_cases he : n.toNat = j
    · subst he
      rw [if_pos rfl, if_pos (by omega), if_pos rfl, if_neg (by omega)]
    · rw [if_neg he, if_neg (fun h => he h.symm)]
  · rw [List.getElem?_eq_none (by rw [at16_length]; omega), List.getElem?_eq_none (by rw [at16_length]; omega)]
    rw [if_neg (by omega)]
theorem p_handle (G : Nat → List AV) (B : Nat) : HandleOk (⟨Try.prog, G, B⟩ : Ctx) 10 encP := by
  intro p n a
  refine Meth.of (C := (⟨Try.prog, G, B⟩ : Ctx)) (rest := [.int .i64 (.var 2 n), .int .i64 (.var 3 a)]) (dg G B) (by kernel_rfl) (by kernel_rfl) (by kernel_rfl) (fuel := 200) (n0 := 10) (fn := Try.f10) ?_
  rw [t10, u32_back]
  refine ⟨rfl, fun _ => ⟨fun h => ?_, fun h => ⟨fun h' => ?_, fun h' => ⟨fun h3 => ?_, fun h3 => ?_⟩⟩⟩, fun h => by cases h⟩
  · rw [outB_lo h]; exact ⟨rfl, rfl⟩
  · rw [outB_hi h']; exact ⟨rfl, rfl⟩
  · have g1 := of_decide_eq_false h
    have g2 := of_decide_eq_false h'
    have h3 : outB a 0 4294967295 = false := by simpa using h3
    refine ⟨decide_eq_true (by omega), decide_eq_true (by omega), encP_isI p (by omega), decide_eq_true (by omega), decide_eq_true (by omega), leB_enc p _ (by omega), ?_⟩
    rw [outB_dec h h', h3]
    have : IntKind.wrap .i64 (u (p.at_ n.toNat)) = u (p.at_ n.toNat) := i64_in (by have := u_range (p.at_ n.toNat); omega)
    rw [encP_getI p (by omega), this]
    refine ⟨rfl, ?_⟩
    simp only [Bool.or_self, Bool.false_eq_true, if_false, ← handle_w p n a (by omega) (by omega)]
    rfl
  · have h3 : outB a 0 4294967295 = true := by simpa using h3
    rw [h3, Bool.or_true]; exact ⟨rfl, rfl⟩
theorem p_handler (G : Nat → List AV) (B : Nat) : HandlerOk (⟨Try.prog, G, B⟩ : Ctx) 13 encP := by
  intro p n
  refine Meth.of (C := (⟨Try.prog, G, B⟩ : Ctx)) (rest := [.int .i64 (.var 2 n)]) (dg G B) (by kernel_rfl) (by kernel_rfl) (by kernel_rfl) (fuel := 200) (n0 := 10) (fn := Try.f13) ?_
  rw [t13]
  refine ⟨rfl, fun _ => ⟨fun h => ?_, fun h => ⟨fun h' => ?_, fun h' => ?_⟩⟩, fun h => by cases h⟩
  · rw [outB_lo h]; exact ⟨rfl, rfl⟩
  · rw [outB_hi h']; exact ⟨rfl, rfl⟩
  · have g1 := of_decide_eq_false h
    have g2 := of_decide_eq_false h'
    refine ⟨decide_eq_true (by omega), decide_eq_true (by omega), encP_isI p (by omega), ?_⟩
    rw [outB_dec h h', encP_getI p (by omega)]
    exact ⟨rfl, rfl⟩
theorem waits_w (p : Sg) (n : Int) (h1 : 1 ≤ n) (h2 : n ≤ 15) : ((kAnd .u32 (kShr .u32 (kAnd .u32 (u p.wt) (u p.hd)) n) 1 : Int) == 1) = waitsB p n := by
  have en : n = (n.toNat : Int) := by omega
  rw [kAnd_w (u p.wt), w32_u, w32_u, en, bit_sel _ _ (by omega)]
  unfold waitsB
  rw [Int.toNat_natCast]
  cases (p.wt &&& p.hd).getLsbD n.toNat <;> rfl
theorem p_waits (G : Nat → List AV) (B : Nat) : WaitsOk (⟨Try.prog, G, B⟩ : Ctx) 15 encP := by
  intro p n
  refine Meth.of (C := (⟨Try.prog, G, B⟩ : Ctx)) (rest := [.int .i64 (.var 2 n)]) (dg G B) (by kernel_rfl) (by kernel_rfl) (by kernel_rfl) (fuel := 200) (n0 := 10) (fn := Try.f15) ?_
  rw [t15]
  refine ⟨rfl, fun _ => ⟨fun h => ⟨fun h' => ?_, fun h' => ?_⟩, fun h => ?_⟩, fun h => by cases h⟩
  · have g1 := of_decide_eq_true h
    have g2 := of_decide_eq_true h'
    refine ⟨rfl, rfl, decide_eq_true (by omega), ?_, rfl⟩
    rw [encP_1, encP_2, waits_w p n (by omega) g2, outB_false (by omega) g2]
    rfl
  · have g2 := of_decide_eq_false h'
    rw [outB_true (.inr (by omega))]; exact ⟨rfl, rfl⟩
  · have g2 := of_decide_eq_false h
    rw [outB_true (.inl (by omega))]; exact ⟨rfl, rfl⟩
theorem p_held (G : Nat → List AV) (B : Nat) : HeldOk (⟨Try.prog, G, B⟩ : Ctx) 32 encP := by
  intro p
  refine Meth.of (C := (⟨Try.prog, G, B⟩ : Ctx)) (rest := []) (dg G B) (by kernel_rfl) (by kernel_rfl) (by kernel_rfl) (fuel := 200) (n0 := 10) (fn := Try.f32) ?_
  rw [t32]
  refine ⟨rfl, fun _ => ⟨rfl, ?_, rfl⟩, fun h => by cases h⟩
  rw [encP_2, i64_in (by have := u_range p.hd; omega)]
theorem subL_enc (p : Sg) : subL (encP p) 0 19 = encP p := by
  unfold subL; rw [List.drop_zero, List.take_of_length_le (by rw [encP_length]; omega)]
theorem p_copy (G : Nat → List AV) (B : Nat) : NewOk (⟨Try.prog, G, B⟩ : Ctx) 17 encP (fun _ => .ptr (.rw 1) 0) encP := by
  intro p
  refine New.of (C := (⟨Try.prog, G, B⟩ : Ctx)) (dg G B) (by kernel_rfl) (by kernel_rfl) (by kernel_rfl) (encP_flat _ _) (encP_flat _ _) (by simp [bnd]) (by simp) (fuel := 200) (n0 := 10) (fn := Try.f17) ?_
  rw [t17]
  rw [subL_enc]
  exact ⟨rfl, fun _ => ⟨leB_enc p _ (by omega), encP_cells p, by rw [encP_length]; rfl, rfl, rfl⟩, fun h => by cases h⟩
theorem p_child (G : Nat → List AV) (B : Nat) : NewOk (⟨Try.prog, G, B⟩ : Ctx) 38 encP (fun _ => .ptr (.rw 1) 0) (fun p => encP (setW p 0#32)) := by
  intro p
  refine New.of (C := (⟨Try.prog, G, B⟩ : Ctx)) (dgood (inl := [26, 27, 17]) (sums := []) (ls := []) (M := 0) (mix G B) (by kernel_rfl) .nil .nil) (by kernel_rfl) (by kernel_rfl) (by kernel_rfl) (encP_flat _ _) (encP_flat _ _) (by simp [bnd]) (by simp) (fuel := 200) (n0 := 10) (fn := Try.f38) ?_
  rw [t38]
  rw [subL_enc]
  exact ⟨rfl, fun _ => ⟨leB_enc p _ (by omega), encP_cells p, by rw [encP_length]; rfl, leB_enc p _ (by omega), rfl, rfl⟩, fun h => by cases h⟩
end Go.Am
