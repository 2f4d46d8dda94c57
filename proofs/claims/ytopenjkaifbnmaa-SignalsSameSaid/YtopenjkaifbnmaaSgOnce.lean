/-
  SignalsOnce: the loops and the run.
-/
import Derived.Test.YtopenjkaifbnmaaSgL
namespace Go.Am
open Go.Proofs Crc
set_option maxRecDepth 100000
theorem dg1 (G : Nat → List AV) (B : Nat) : DGood (⟨Try.prog, G, B⟩ : Ctx) (Dc Try.prog [9] progS [] 0) [] := dgood (mix G B) (by kernel_rfl) (progS_ok G B) .nil
/-- a set in which nothing is pending and nothing held back -/
def freshU : List AV → Bool := fun xs => match xs with
  | [.agg cs] => okP cs && ((decP cs).wt == 0#32 && (decP cs).hd == 0#32)
  | _ => false
theorem on_b0 (G : Nat → List AV) (cs x : List AV) (k n : Nat) (hold a b i : Int) (Q : Ex → List AV → Hp → Prop) (R : AV → Hp → Prop) : vT G Q R (dloop (Dc Try.prog [9] progS [] 0) 300 20 0 (loopN Try.f3 0) 165 [0, 2, 7, 8, 9, 10] [.slice true (.ro (.var 1 k)) (.lit 0) (.var 2 n), .int .i64 (.var 3 hold), .int .i64 (.var 4 a), .int .i64 (.var 5 b), .ptr (.rw 1) (.lit 0), .int .i64 (.var 6 i)] [some ⟨1, .var 7 x⟩, some ⟨1, .var 8 cs⟩]) = (
    (decide ((i : Int) < ((n : Nat) : Int)) = true →
      (decide ((i : Int) < 100) = true →
        decide ((0 : Int) ≤ i) = true ∧
        decide ((i : Int) < ((n : Nat) : Int)) = true ∧
        isI .i64 (G (k)) ((Int.toNat (i)) * 3) = true ∧
        (((getI (G (k)) ((Int.toNat (i)) * 3) : Int) == 3) = true →
          decide ((0 : Int) ≤ i) = true ∧
          decide ((i : Int) < ((n : Nat) : Int)) = true ∧
          isI .i64 (G (k)) ((Int.toNat (i)) * 3 + 1) = true ∧
          decide ((0 : Int) ≤ i) = true ∧
          decide ((i : Int) < ((n : Nat) : Int)) = true ∧
          isI .i64 (G (k)) ((Int.toNat (i)) * 3 + 2) = true ∧
          okU [.agg cs] = true ∧
          (decide ((getI (G (k)) ((Int.toNat (i)) * 3 + 1) : Int) < 2) = true →
            Q .normal [.slice true (.ro (k)) (0) (n), .int .i64 (hold), .int .i64 (a), .int .i64 (b), .ptr (.rw 1) (0), .int .i64 (IntKind.wrap .i64 (i + 1))] [some ⟨1, x⟩, some ⟨1, cs⟩]) ∧
          (decide ((getI (G (k)) ((Int.toNat (i)) * 3 + 1) : Int) < 2) = false →
            (decide ((getI (G (k)) ((Int.toNat (i)) * 3 + 1) : Int) > 15) = true →
              Q .normal [.slice true (.ro (k)) (0) (n), .int .i64 (hold), .int .i64 (a), .int .i64 (b), .ptr (.rw 1) (0), .int .i64 (IntKind.wrap .i64 (i + 1))] [some ⟨1, x⟩, some ⟨1, cs⟩]) ∧
            (decide ((getI (G (k)) ((Int.toNat (i)) * 3 + 1) : Int) > 15) = false →
              (decide ((getI (G (k)) ((Int.toNat (i)) * 3 + 2) : Int) < 0) = true →
                Q .normal [.slice true (.ro (k)) (0) (n), .int .i64 (hold), .int .i64 (a), .int .i64 (b), .ptr (.rw 1) (0), .int .i64 (IntKind.wrap .i64 (i + 1))] [some ⟨1, x⟩, some ⟨1, cs⟩]) ∧
              (decide ((getI (G (k)) ((Int.toNat (i)) * 3 + 2) : Int) < 0) = false →
                (decide ((getI (G (k)) ((Int.toNat (i)) * 3 + 2) : Int) > 4294967295) = true →
                  Q .normal [.slice true (.ro (k)) (0) (n), .int .i64 (hold), .int .i64 (a), .int .i64 (b), .ptr (.rw 1) (0), .int .i64 (IntKind.wrap .i64 (i + 1))] [some ⟨1, x⟩, some ⟨1, cs⟩]) ∧
                (decide ((getI (G (k)) ((Int.toNat (i)) * 3 + 2) : Int) > 4294967295) = false →
                  Q .normal [.slice true (.ro (k)) (0) (n), .int .i64 (hold), .int .i64 (a), .int .i64 (b), .ptr (.rw 1) (0), .int .i64 (IntKind.wrap .i64 (i + 1))] [some ⟨1, x⟩, some ⟨1, (handleU [.agg cs, .int .i64 (getI (G (k)) ((Int.toNat (i)) * 3 + 1)), .int .i64 (getI (G (k)) ((Int.toNat (i)) * 3 + 2))])⟩]))))) ∧
        (((getI (G (k)) ((Int.toNat (i)) * 3) : Int) == 3) = false →
          Q .normal [.slice true (.ro (k)) (0) (n), .int .i64 (hold), .int .i64 (a), .int .i64 (b), .ptr (.rw 1) (0), .int .i64 (IntKind.wrap .i64 (i + 1))] [some ⟨1, x⟩, some ⟨1, cs⟩])) ∧
      (decide ((i : Int) < 100) = false →
        Q (.exit 0) [.slice true (.ro (k)) (0) (n), .int .i64 (hold), .int .i64 (a), .int .i64 (b), .ptr (.rw 1) (0), .int .i64 (i)] [some ⟨1, x⟩, some ⟨1, cs⟩])) ∧
    (decide ((i : Int) < ((n : Nat) : Int)) = false →
      Q (.exit 0) [.slice true (.ro (k)) (0) (n), .int .i64 (hold), .int .i64 (a), .int .i64 (b), .ptr (.rw 1) (0), .int .i64 (i)] [some ⟨1, x⟩, some ⟨1, cs⟩])) := by kernel_rfl
theorem on_b2 (G : Nat → List AV) (cs x : List AV) (hold a b i : Int) (Q : Ex → List AV → Hp → Prop) (R : AV → Hp → Prop) : vT G Q R (dloop (Dc Try.prog [9] progS [] 0) 300 20 0 (loopN Try.f3 1) 165 [2, 7, 8, 9, 11] [.int .i64 (.var 3 hold), .int .i64 (.var 4 a), .int .i64 (.var 5 b), .ptr (.rw 1) (.lit 0), .int .i64 (.var 6 i)] [some ⟨1, .var 7 x⟩, some ⟨1, .var 8 cs⟩]) = (
    (decide ((i : Int) < b) = true →
      (decide ((i : Int) < 50) = true →
        okU [.agg cs] = true ∧
        (decide ((a : Int) < 0) = true →
          Q .normal [.int .i64 (hold), .int .i64 (a), .int .i64 (b), .ptr (.rw 1) (0), .int .i64 (IntKind.wrap .i64 (i + 1))] [some ⟨1, x⟩, some ⟨1, cs⟩]) ∧
        (decide ((a : Int) < 0) = false →
          (decide ((a : Int) > 15) = true →
            Q .normal [.int .i64 (hold), .int .i64 (a), .int .i64 (b), .ptr (.rw 1) (0), .int .i64 (IntKind.wrap .i64 (i + 1))] [some ⟨1, x⟩, some ⟨1, cs⟩]) ∧
          (decide ((a : Int) > 15) = false →
            Q .normal [.int .i64 (hold), .int .i64 (a), .int .i64 (b), .ptr (.rw 1) (0), .int .i64 (IntKind.wrap .i64 (i + 1))] [some ⟨1, x⟩, some ⟨1, (sendU [.agg cs, .int .i64 (a)])⟩]))) ∧
      (decide ((i : Int) < 50) = false →
        Q (.exit 2) [.int .i64 (hold), .int .i64 (a), .int .i64 (b), .ptr (.rw 1) (0), .int .i64 (i)] [some ⟨1, x⟩, some ⟨1, cs⟩])) ∧
    (decide ((i : Int) < b) = false →
      Q (.exit 2) [.int .i64 (hold), .int .i64 (a), .int .i64 (b), .ptr (.rw 1) (0), .int .i64 (i)] [some ⟨1, x⟩, some ⟨1, cs⟩])) := by kernel_rfl
theorem fresh_eq {cs : List AV} : freshU [.agg cs] = true ↔ ∃ p, cs = encP p ∧ p.wt = 0#32 ∧ p.hd = 0#32 := by
  simp only [freshU, Bool.and_eq_true, beq_iff_eq]
  constructor
  · rintro ⟨h1, h2, h3⟩
    exact ⟨_, okP_eq h1, h2, h3⟩
  · rintro ⟨p, rfl, h2, h3⟩
    rw [decP_enc]
    exact ⟨okP_enc p, h2, h3⟩
theorem handle_wt (p : Sg) (n a : Int) : (handle p n a).wt = p.wt := rfl
theorem handle_hd (p : Sg) (n a : Int) : (handle p n a).hd = p.hd := rfl
theorem on_loop0 (G : Nat → List AV) (B : Nat) (p : Sg) (hw : p.wt = 0#32) (hh : p.hd = 0#32) (k n : Nat) (hk : okI .i64 (G k) 0 (n * 3) = true) (x : List AV) (hold a b : Int) :
    AWp (⟨Try.prog, G, B⟩ : Ctx) 0 (.loop (loopN Try.f3 0)) (fl 165 [0, 2, 7, 8, 9, 10] [.slice true (.ro k) 0 n, .int .i64 hold, .int .i64 a, .int .i64 b, .ptr (.rw 1) 0, .int .i64 0]) [some ⟨1, x⟩, some ⟨1, encP p⟩]
      (lv 165 [0, 2, 7, 8, 9, 10] fun e vs H => e = .exit 0 ∧ wk [.undef, .int .i64 hold, .int .i64 a, .int .i64 b, .ptr (.rw 1) 0, .undef] vs ∧ ∃ q : Sg, q.wt = 0#32 ∧ q.hd = 0#32 ∧ H = [some ⟨1, x⟩, some ⟨1, encP q⟩]) := by
  refine aloop_lv (fun j vs H => ∃ i : Nat, i ≤ n ∧ i ≤ 100 ∧ j = 100 - i ∧ vs = [.slice true (.ro k) 0 n, .int .i64 hold, .int .i64 a, .int .i64 b, .ptr (.rw 1) 0, .int .i64 (i : Int)] ∧ ∃ q : Sg, q.wt = 0#32 ∧ q.hd = 0#32 ∧ H = [some ⟨1, x⟩, some ⟨1, encP q⟩]) 100
    ⟨0, by omega, by omega, rfl, rfl, p, hw, hh, rfl⟩ ?_
  rintro j vs H ⟨i, hi1, hi2, rfl, rfl, q, hqw, hqh, rfl⟩
  refine dloop_ok (C := (⟨Try.prog, G, B⟩ : Ctx)) (dg1 G B) (fuel := 300) (n0 := 20) (m := 0) (c := loopN Try.f3 0) (vs := [.slice true (.ro (.var 1 k)) (.lit 0) (.var 2 n), .int .i64 (.var 3 hold), .int .i64 (.var 4 a), .int .i64 (.var 5 b), .ptr (.rw 1) (.lit 0), .int .i64 (.var 6 (i : Int))]) (H := [some ⟨1, .var 7 x⟩, some ⟨1, .var 8 (encP q)⟩]) (by simp) ?_
  rw [on_b0]
  have hst : i < n → ∀ j, j < 3 → isI .i64 (G k) (i * 3 + j) = true := fun h j hj => by
    have := okI_get hk (j := i * 3 + j) (by omega)
    rwa [Nat.zero_add] at this
  have nx : i < n → i < 100 → ∀ r : Sg, r.wt = 0#32 → r.hd = 0#32 → ∃ k', k' < 100 - i ∧ ((∃ i' : Nat, i' ≤ n ∧ i' ≤ 100 ∧ k' = 100 - i' ∧ [AV.slice true (.ro k) 0 n, .int .i64 hold, .int .i64 a, .int .i64 b, .ptr (.rw 1) 0, .int .i64 (IntKind.wrap .i64 ((i : Int) + 1))] = [.slice true (.ro k) 0 n, .int .i64 hold, .int .i64 a, .int .i64 b, .ptr (.rw 1) 0, .int .i64 (i' : Int)] ∧ ∃ q : Sg, q.wt = 0#32 ∧ q.hd = 0#32 ∧ [some (⟨1, x⟩ : Blk), some ⟨1, encP r⟩] = [some ⟨1, x⟩, some ⟨1, encP q⟩])) := fun h1 h2 r h3 h4 =>
    ⟨100 - (i + 1), by omega, i + 1, by omega, by omega, rfl, by rw [i64_in (by omega)]; rfl, r, h3, h4, rfl⟩
  have nx' : i < n → i < 100 → ∀ r : Sg, r.wt = 0#32 → r.hd = 0#32 → ∃ k', k' < 100 - i ∧ ((∃ i' : Nat, i' ≤ n ∧ i' ≤ 100 ∧ k' = 100 - i' ∧ [AV.slice true (.ro k) 0 n, .int .i64 hold, .int .i64 a, .int .i64 b, .ptr (.rw 1) 0, .int .i64 (IntKind.wrap .i64 ((i : Int) + 1))] = [.slice true (.ro k) 0 n, .int .i64 hold, .int .i64 a, .int .i64 b, .ptr (.rw 1) 0, .int .i64 (i' : Int)] ∧ ∃ q : Sg, q.wt = 0#32 ∧ q.hd = 0#32 ∧ [some (⟨1, x⟩ : Blk), some ⟨1, encP r⟩] = [some ⟨1, x⟩, some ⟨1, encP q⟩]) ∨
      ∃ vs'' H'', (∃ i' : Nat, i' ≤ n ∧ i' ≤ 100 ∧ k' = 100 - i' ∧ vs'' = [.slice true (.ro k) 0 n, .int .i64 hold, .int .i64 a, .int .i64 b, .ptr (.rw 1) 0, .int .i64 (i' : Int)] ∧ ∃ q : Sg, q.wt = 0#32 ∧ q.hd = 0#32 ∧ H'' = [some ⟨1, x⟩, some ⟨1, encP q⟩]) ∧ View 0 vs'' H'' [AV.slice true (.ro k) 0 n, .int .i64 hold, .int .i64 a, .int .i64 b, .ptr (.rw 1) 0, .int .i64 (IntKind.wrap .i64 ((i : Int) + 1))] [some (⟨1, x⟩ : Blk), some ⟨1, encP r⟩]) := fun h1 h2 r h3 h4 => by
    obtain ⟨k', e1, e2⟩ := nx h1 h2 r h3 h4
    exact ⟨k', e1, .inl e2⟩
  simp only [Int.toNat_natCast, handleU_enc]
  repeat' first | refine And.intro ?_ ?_ | intro _
  all_goals try simp only [decide_eq_true_eq, decide_eq_false_iff_not] at *
  all_goals first
    | omega
    | exact okU_enc q
    | exact hst (by omega) 0 (by omega)
    | exact hst (by omega) 1 (by omega)
    | exact hst (by omega) 2 (by omega)
    | exact nx' (by omega) (by omega) q hqw hqh
    | exact nx' (by omega) (by omega) _ (by rw [handle_wt]; exact hqw) (by rw [handle_hd]; exact hqh)
    | rfl
    | exact ⟨q, hqw, hqh, rfl⟩
    | (simp [wk]; done)
def I2 (p : Sg) (x : List AV) (hold a b : Int) (j : Nat) (vs : List AV) (H : Hp) : Prop :=
  ∃ i : Nat, i ≤ 50 ∧ (i : Int) ≤ b ∧ j = 50 - i ∧ vs = [.int .i64 hold, .int .i64 a, .int .i64 b, .ptr (.rw 1) 0, .int .i64 (i : Int)] ∧ H = [some ⟨1, x⟩, some ⟨1, encP (if i = 0 then p else send p a)⟩]
theorem send_send (p : Sg) (a : Int) : send (send p a) a = send p a := by
  refine Sg.ext ?_ rfl fun _ => rfl
  show ((((p.wt ||| bitN a.toNat) &&& 65534#32) ||| bitN a.toNat) &&& 65534#32) = (p.wt ||| bitN a.toNat) &&& 65534#32
  rw [BitVec.and_comm _ 65534#32, BitVec.and_comm _ 65534#32, BitVec.and_or_distrib_left, ← BitVec.and_assoc, BitVec.and_self, ← BitVec.and_or_distrib_left, BitVec.or_assoc, BitVec.or_self]
theorem on_loop2 (G : Nat → List AV) (B : Nat) (p : Sg) (x : List AV) (hold a b : Int) (hb : 0 < b) (ha : 0 ≤ a) (ha' : a ≤ 15) :
    AWp (⟨Try.prog, G, B⟩ : Ctx) 0 (.loop (loopN Try.f3 1)) (fl 165 [2, 7, 8, 9, 11] [.int .i64 hold, .int .i64 a, .int .i64 b, .ptr (.rw 1) 0, .int .i64 0]) [some ⟨1, x⟩, some ⟨1, encP p⟩]
      (lv 165 [2, 7, 8, 9, 11] fun e vs H => e = .exit 2 ∧ wk [.int .i64 hold, .int .i64 a, .int .i64 b, .ptr (.rw 1) 0, .undef] vs ∧ H = [some ⟨1, x⟩, some ⟨1, encP (send p a)⟩]) := by
  refine aloop_lv (I2 p x hold a b) 50 ⟨0, by omega, by omega, rfl, rfl, rfl⟩ ?_
  rintro j vs H ⟨i, hi1, hi2, rfl, rfl, rfl⟩
  refine dloop_ok (C := (⟨Try.prog, G, B⟩ : Ctx)) (dg1 G B) (fuel := 300) (n0 := 20) (m := 0) (c := loopN Try.f3 1) (vs := [.int .i64 (.var 3 hold), .int .i64 (.var 4 a), .int .i64 (.var 5 b), .ptr (.rw 1) (.lit 0), .int .i64 (.var 6 (i : Int))]) (H := [some ⟨1, .var 7 x⟩, some ⟨1, .var 8 (encP (if i = 0 then p else send p a))⟩]) (by simp) ?_
  rw [on_b2, sendU_enc]
  have es : send (if i = 0 then p else send p a) a = send p a := by split <;> first | rfl | exact send_send p a
  rw [es]
  repeat' first | refine And.intro ?_ ?_ | intro _
  all_goals try simp only [decide_eq_true_eq, decide_eq_false_iff_not] at *
  all_goals first
    | omega
    | exact okU_enc _
    | exact ⟨50 - (i + 1), by omega, .inl ⟨i + 1, by omega, by omega, rfl, by rw [i64_in (by omega)]; rfl, by rw [if_neg (by omega)]⟩⟩
    | rfl
    | (simp [wk]; done)
    | (rw [if_neg (by omega)]; done)
def onL0 : DL := ⟨0, 165, [0, 2, 7, 8, 9, 10], fun vs H => match vs, H with
  | [.slice true (.ro k) (.lit 0) n, .int .i64 hold, .int .i64 a, .int .i64 b, .ptr (.rw 1) (.lit 0), .int .i64 (.lit 0)], [some ⟨1, x⟩, some ⟨1, l⟩] =>
    some (.chk (.uf 1041 stepsU [.agg (.ro k), .ptr (.rw 0) n]) (.chk (.uf 1040 freshU [.agg l]) (.allL fun l' => .imp (.uf 1040 freshU [.agg l']) (.one (.exit 0) [.undef, .int .i64 hold, .int .i64 a, .int .i64 b, .ptr (.rw 1) (.lit 0), .undef] [some ⟨1, x⟩, some ⟨1, l'⟩]))))
  | _, _ => none⟩
theorem onL0_ok (G : Nat → List AV) (B : Nat) : DLoopOk (⟨Try.prog, G, B⟩ : Ctx) 0 (loopN Try.f3 0) onL0 := by
  refine .of fun vs H o ho n Q hQ => ?_
  simp only [onL0] at ho
  split at ho
  · rename_i k n hold a b x l
    simp only [Option.some.injEq] at ho
    subst ho
    obtain ⟨h1, h2, h3⟩ := hQ
    simp only [vB, vVs, vV, vL, vR, vN, stepsU] at h1
    simp only [vB, vVs, vV] at h2
    obtain ⟨p, e1, hw, hh⟩ := fresh_eq.1 h2
    simp only [onL0, vVs, vV, vR, vN, vI, vHp, List.map_cons, List.map_nil, Option.map_some, vBlk]
    rw [e1]
    refine (on_loop0 G B p hw hh _ _ h1 _ _ _ _).lmono ?_
    rintro e vs'' H'' ⟨rfl, g2, q, g3, g4, rfl⟩
    refine .inl ⟨_, g2, ?_⟩
    have := h3 (encP q) (by simp only [vB, vVs, vV, vL]; exact fresh_eq.2 ⟨q, rfl, g3, g4⟩)
    simp only [lHolds, vVs, vV, vR, vN, vI, vL, vHp, List.map_cons, List.map_nil, Option.map_some, vBlk] at this
    exact this
  · simp at ho
def onL2 : DL := ⟨2, 165, [2, 7, 8, 9, 11], fun vs H => match vs, H with
  | [.int .i64 hold, .int .i64 a, .int .i64 b, .ptr (.rw 1) (.lit 0), .int .i64 (.lit 0)], [some ⟨1, x⟩, some ⟨1, l⟩] =>
    some (.chk (.cmp .lss (.lit 0) b) (.chk (.cmp .leq (.lit 0) a) (.chk (.cmp .leq a (.lit 15)) (.chk (.uf 1001 okU [.agg l]) (.one (.exit 2) [.int .i64 hold, .int .i64 a, .int .i64 b, .ptr (.rw 1) (.lit 0), .undef] [some ⟨1, x⟩, some ⟨1, .uf 1010 sendU [.agg l, .int .i64 a]⟩])))))
  | _, _ => none⟩
theorem cmp_lss {x y : Int} (h : cmpI .lss x y = true) : x < y := of_decide_eq_true h
theorem cmp_leq {x y : Int} (h : cmpI .leq x y = true) : x ≤ y := of_decide_eq_true h
theorem onL2_ok (G : Nat → List AV) (B : Nat) : DLoopOk (⟨Try.prog, G, B⟩ : Ctx) 0 (loopN Try.f3 1) onL2 := by
  refine .of fun vs H o ho n Q hQ => ?_
  simp only [onL2] at ho
  split at ho
  · rename_i hold a b x l
    simp only [Option.some.injEq] at ho
    subst ho
    obtain ⟨h1, h2, h3, h4, h5⟩ := hQ
    simp only [vB, vI] at h1 h2 h3
    simp only [vB, vVs, vV] at h4
    have hl : vL G l = encP (decP (vL G l)) := okP_eq h4
    refine lone ?_ h5
    simp only [onL2, vVs, vV, vR, vN, vI, vL, vHp, List.map_cons, List.map_nil, Option.map_some, vBlk]
    rw [hl, sendU_enc]
    exact on_loop2 G B _ _ _ _ _ (cmp_lss h1) (cmp_leq h2) (cmp_leq h3)
  · simp at ho
theorem dgO (G : Nat → List AV) (B : Nat) : DGood (⟨Try.prog, G, B⟩ : Ctx) (Dc Try.prog [9] progS [onL0, onL2] 0) (loopsOf (bodyOf Try.f3)) := dgood (mix G B) (by kernel_rfl) (progS_ok G B) (.cast (.cons (i := 0) (by kernel_rfl) rfl (onL0_ok G B) (.cons (i := 2) (by kernel_rfl) rfl (onL2_ok G B) .nil)) (by kernel_rfl))
theorem on_run (G : Nat → List AV) (k n : Nat) (hold a b : Int) (Q : Ex → List AV → Hp → Prop) (R : AV → Hp → Prop) : vT G Q R (dlaw (Dc Try.prog [9] progS [onL0, onL2] 0) 400 20 Try.f3 [.slice true (.ro (.var 1 k)) (.lit 0) (.var 2 n), .agg (.of [.int .i64 (.var 3 a), .int .i64 (.var 4 b)]), .int .i64 (.var 5 hold)] []) = (
    (decide ((a : Int) < 2) = true →
      R (.bool (true)) []) ∧
    (decide ((a : Int) < 2) = false →
      (decide ((a : Int) > 15) = true →
        R (.bool (true)) []) ∧
      (decide ((a : Int) > 15) = false →
        (decide ((b : Int) < 1) = true →
          R (.bool (true)) []) ∧
        (decide ((b : Int) < 1) = false →
          stepsU [.agg (G (k)), .ptr (.rw 0) (n)] = true ∧
          freshU [.agg ([.bool (true), .int .u32 (0), .int .u32 (0), .int .u32 (0), .int .u32 (0), .int .u32 (0), .int .u32 (0), .int .u32 (0), .int .u32 (0), .int .u32 (0), .int .u32 (0), .int .u32 (0), .int .u32 (0), .int .u32 (0), .int .u32 (0), .int .u32 (0), .int .u32 (0), .int .u32 (0), .int .u32 (0)] : List AV)] = true ∧
          (∀ l20 : List AV,
          (freshU [.agg l20] = true →
          decide ((0 : Int) < b) = true ∧
          decide ((0 : Int) ≤ a) = true ∧
          decide ((a : Int) ≤ 15) = true ∧
          okU [.agg l20] = true ∧
          okU [.agg (sendU [.agg l20, .int .i64 (a)])] = true ∧
          decide ((0 : Int) ≤ IntKind.wrap .u64 (a)) = true ∧
          okU [.agg (maskU [.agg (sendU [.agg l20, .int .i64 (a)]), .int .i64 (hold)])] = true ∧
          (!(decide ((a : Int) < 1))) = true ∧
          (!(decide ((a : Int) > 15))) = true ∧
          okU [.agg (maskU [.agg (sendU [.agg l20, .int .i64 (a)]), .int .i64 (hold)])] = true ∧
          (((kAnd .i64 (kShr .i64 (hold) (IntKind.wrap .u64 (a))) (1) : Int) == 1) = true →
            (tkOkU [.agg (maskU [.agg (sendU [.agg l20, .int .i64 (a)]), .int .i64 (hold)])] = true →
              R (.bool (false)) []) ∧
            (tkOkU [.agg (maskU [.agg (sendU [.agg l20, .int .i64 (a)]), .int .i64 (hold)])] = false →
              okU [.agg (tkU [.agg (maskU [.agg (sendU [.agg l20, .int .i64 (a)]), .int .i64 (hold)])])] = true ∧
              (!(decide ((a : Int) < 1))) = true ∧
              (!(decide ((a : Int) > 15))) = true ∧
              (waitsU [.agg (tkU [.agg (maskU [.agg (sendU [.agg l20, .int .i64 (a)]), .int .i64 (hold)])]), .int .i64 (a)] = true →
                ((kAnd .i64 (kShr .i64 (hold) (IntKind.wrap .u64 (a))) (1) : Int) == 1) = true ∧
                okU [.agg (tkU [.agg (maskU [.agg (sendU [.agg l20, .int .i64 (a)]), .int .i64 (hold)])])] = true ∧
                ((kAnd .i64 (kShr .i64 (hold) (IntKind.wrap .u64 (a))) (1) : Int) == 1) = true ∧
                okU [.agg (maskU [.agg (tkU [.agg (maskU [.agg (sendU [.agg l20, .int .i64 (a)]), .int .i64 (hold)])]), .int .i64 (0)])] = true ∧
                (((atU [.agg (maskU [.agg (sendU [.agg l20, .int .i64 (a)]), .int .i64 (hold)]), .int .i64 (a)] : Int) == 1) = true →
                  okU [.agg (tkU [.agg (maskU [.agg (tkU [.agg (maskU [.agg (sendU [.agg l20, .int .i64 (a)]), .int .i64 (hold)])]), .int .i64 (0)])])] = true ∧
                  (((tkSigU [.agg (maskU [.agg (tkU [.agg (maskU [.agg (sendU [.agg l20, .int .i64 (a)]), .int .i64 (hold)])]), .int .i64 (0)])] : Int) == 0) = true →
                    (tkEndsU [.agg (maskU [.agg (tkU [.agg (maskU [.agg (sendU [.agg l20, .int .i64 (a)]), .int .i64 (hold)])]), .int .i64 (0)])] = true →
                      R (.bool (false)) []) ∧
                    (tkEndsU [.agg (maskU [.agg (tkU [.agg (maskU [.agg (sendU [.agg l20, .int .i64 (a)]), .int .i64 (hold)])]), .int .i64 (0)])] = false →
                      (((tkAtU [.agg (maskU [.agg (tkU [.agg (maskU [.agg (sendU [.agg l20, .int .i64 (a)]), .int .i64 (hold)])]), .int .i64 (0)])] : Int) == 0) = true →
                        (tkOkU [.agg (maskU [.agg (tkU [.agg (maskU [.agg (sendU [.agg l20, .int .i64 (a)]), .int .i64 (hold)])]), .int .i64 (0)])] = true →
                          ((atU [.agg (maskU [.agg (sendU [.agg l20, .int .i64 (a)]), .int .i64 (hold)]), .int .i64 (a)] : Int) == 1) = true ∧
                          R (.bool (false)) []) ∧
                        (tkOkU [.agg (maskU [.agg (tkU [.agg (maskU [.agg (sendU [.agg l20, .int .i64 (a)]), .int .i64 (hold)])]), .int .i64 (0)])] = false →
                          ((atU [.agg (maskU [.agg (sendU [.agg l20, .int .i64 (a)]), .int .i64 (hold)]), .int .i64 (a)] : Int) == 1) = true ∧
                          (tkOkU [.agg (tkU [.agg (maskU [.agg (tkU [.agg (maskU [.agg (sendU [.agg l20, .int .i64 (a)]), .int .i64 (hold)])]), .int .i64 (0)])])] = true →
                            R (.bool (false)) []) ∧
                          (tkOkU [.agg (tkU [.agg (maskU [.agg (tkU [.agg (maskU [.agg (sendU [.agg l20, .int .i64 (a)]), .int .i64 (hold)])]), .int .i64 (0)])])] = false →
                            okU [.agg (tkU [.agg (tkU [.agg (maskU [.agg (tkU [.agg (maskU [.agg (sendU [.agg l20, .int .i64 (a)]), .int .i64 (hold)])]), .int .i64 (0)])])])] = true ∧
                            (((((pendNU [.agg (tkU [.agg (tkU [.agg (maskU [.agg (tkU [.agg (maskU [.agg (sendU [.agg l20, .int .i64 (a)]), .int .i64 (hold)])]), .int .i64 (0)])])])] : Nat) : Int) : Int) == 0) = true →
                              R (.bool (true)) []) ∧
                            (((((pendNU [.agg (tkU [.agg (tkU [.agg (maskU [.agg (tkU [.agg (maskU [.agg (sendU [.agg l20, .int .i64 (a)]), .int .i64 (hold)])]), .int .i64 (0)])])])] : Nat) : Int) : Int) == 0) = false →
                              R (.bool (false)) [])))) ∧
                      (((tkAtU [.agg (maskU [.agg (tkU [.agg (maskU [.agg (sendU [.agg l20, .int .i64 (a)]), .int .i64 (hold)])]), .int .i64 (0)])] : Int) == 0) = false →
                        R (.bool (false)) []))) ∧
                  (((tkSigU [.agg (maskU [.agg (tkU [.agg (maskU [.agg (sendU [.agg l20, .int .i64 (a)]), .int .i64 (hold)])]), .int .i64 (0)])] : Int) == 0) = false →
                    R (.bool (false)) [])) ∧
                (((atU [.agg (maskU [.agg (sendU [.agg l20, .int .i64 (a)]), .int .i64 (hold)]), .int .i64 (a)] : Int) == 1) = false →
                  okU [.agg (tkU [.agg (maskU [.agg (tkU [.agg (maskU [.agg (sendU [.agg l20, .int .i64 (a)]), .int .i64 (hold)])]), .int .i64 (0)])])] = true ∧
                  (((tkSigU [.agg (maskU [.agg (tkU [.agg (maskU [.agg (sendU [.agg l20, .int .i64 (a)]), .int .i64 (hold)])]), .int .i64 (0)])] : Int) == a) = true →
                    (tkEndsU [.agg (maskU [.agg (tkU [.agg (maskU [.agg (sendU [.agg l20, .int .i64 (a)]), .int .i64 (hold)])]), .int .i64 (0)])] = true →
                      (((atU [.agg (maskU [.agg (sendU [.agg l20, .int .i64 (a)]), .int .i64 (hold)]), .int .i64 (a)] : Int) == 0) = true →
                        (((tkAtU [.agg (maskU [.agg (tkU [.agg (maskU [.agg (sendU [.agg l20, .int .i64 (a)]), .int .i64 (hold)])]), .int .i64 (0)])] : Int) == atU [.agg (maskU [.agg (sendU [.agg l20, .int .i64 (a)]), .int .i64 (hold)]), .int .i64 (a)]) = true →
                          (tkOkU [.agg (maskU [.agg (tkU [.agg (maskU [.agg (sendU [.agg l20, .int .i64 (a)]), .int .i64 (hold)])]), .int .i64 (0)])] = true →
                            (!(((atU [.agg (maskU [.agg (sendU [.agg l20, .int .i64 (a)]), .int .i64 (hold)]), .int .i64 (a)] : Int) == 1))) = true ∧
                            (tkOkU [.agg (tkU [.agg (maskU [.agg (tkU [.agg (maskU [.agg (sendU [.agg l20, .int .i64 (a)]), .int .i64 (hold)])]), .int .i64 (0)])])] = true →
                              R (.bool (false)) []) ∧
                            (tkOkU [.agg (tkU [.agg (maskU [.agg (tkU [.agg (maskU [.agg (sendU [.agg l20, .int .i64 (a)]), .int .i64 (hold)])]), .int .i64 (0)])])] = false →
                              okU [.agg (tkU [.agg (tkU [.agg (maskU [.agg (tkU [.agg (maskU [.agg (sendU [.agg l20, .int .i64 (a)]), .int .i64 (hold)])]), .int .i64 (0)])])])] = true ∧
                              (((((pendNU [.agg (tkU [.agg (tkU [.agg (maskU [.agg (tkU [.agg (maskU [.agg (sendU [.agg l20, .int .i64 (a)]), .int .i64 (hold)])]), .int .i64 (0)])])])] : Nat) : Int) : Int) == 0) = true →
                                R (.bool (true)) []) ∧
                              (((((pendNU [.agg (tkU [.agg (tkU [.agg (maskU [.agg (tkU [.agg (maskU [.agg (sendU [.agg l20, .int .i64 (a)]), .int .i64 (hold)])]), .int .i64 (0)])])])] : Nat) : Int) : Int) == 0) = false →
                                R (.bool (false)) []))) ∧
                          (tkOkU [.agg (maskU [.agg (tkU [.agg (maskU [.agg (sendU [.agg l20, .int .i64 (a)]), .int .i64 (hold)])]), .int .i64 (0)])] = false →
                            (!(((atU [.agg (maskU [.agg (sendU [.agg l20, .int .i64 (a)]), .int .i64 (hold)]), .int .i64 (a)] : Int) == 1))) = true ∧
                            R (.bool (false)) [])) ∧
                        (((tkAtU [.agg (maskU [.agg (tkU [.agg (maskU [.agg (sendU [.agg l20, .int .i64 (a)]), .int .i64 (hold)])]), .int .i64 (0)])] : Int) == atU [.agg (maskU [.agg (sendU [.agg l20, .int .i64 (a)]), .int .i64 (hold)]), .int .i64 (a)]) = false →
                          R (.bool (false)) [])) ∧
                      (((atU [.agg (maskU [.agg (sendU [.agg l20, .int .i64 (a)]), .int .i64 (hold)]), .int .i64 (a)] : Int) == 0) = false →
                        R (.bool (false)) [])) ∧
                    (tkEndsU [.agg (maskU [.agg (tkU [.agg (maskU [.agg (sendU [.agg l20, .int .i64 (a)]), .int .i64 (hold)])]), .int .i64 (0)])] = false →
                      (((atU [.agg (maskU [.agg (sendU [.agg l20, .int .i64 (a)]), .int .i64 (hold)]), .int .i64 (a)] : Int) == 0) = true →
                        R (.bool (false)) []) ∧
                      (((atU [.agg (maskU [.agg (sendU [.agg l20, .int .i64 (a)]), .int .i64 (hold)]), .int .i64 (a)] : Int) == 0) = false →
                        (((tkAtU [.agg (maskU [.agg (tkU [.agg (maskU [.agg (sendU [.agg l20, .int .i64 (a)]), .int .i64 (hold)])]), .int .i64 (0)])] : Int) == atU [.agg (maskU [.agg (sendU [.agg l20, .int .i64 (a)]), .int .i64 (hold)]), .int .i64 (a)]) = true →
                          (tkOkU [.agg (maskU [.agg (tkU [.agg (maskU [.agg (sendU [.agg l20, .int .i64 (a)]), .int .i64 (hold)])]), .int .i64 (0)])] = true →
                            (!(((atU [.agg (maskU [.agg (sendU [.agg l20, .int .i64 (a)]), .int .i64 (hold)]), .int .i64 (a)] : Int) == 1))) = true ∧
                            (tkOkU [.agg (tkU [.agg (maskU [.agg (tkU [.agg (maskU [.agg (sendU [.agg l20, .int .i64 (a)]), .int .i64 (hold)])]), .int .i64 (0)])])] = true →
                              R (.bool (false)) []) ∧
                            (tkOkU [.agg (tkU [.agg (maskU [.agg (tkU [.agg (maskU [.agg (sendU [.agg l20, .int .i64 (a)]), .int .i64 (hold)])]), .int .i64 (0)])])] = false →
                              okU [.agg (tkU [.agg (tkU [.agg (maskU [.agg (tkU [.agg (maskU [.agg (sendU [.agg l20, .int .i64 (a)]), .int .i64 (hold)])]), .int .i64 (0)])])])] = true ∧
                              (((((pendNU [.agg (tkU [.agg (tkU [.agg (maskU [.agg (tkU [.agg (maskU [.agg (sendU [.agg l20, .int .i64 (a)]), .int .i64 (hold)])]), .int .i64 (0)])])])] : Nat) : Int) : Int) == 0) = true →
                                R (.bool (true)) []) ∧
                              (((((pendNU [.agg (tkU [.agg (tkU [.agg (maskU [.agg (tkU [.agg (maskU [.agg (sendU [.agg l20, .int .i64 (a)]), .int .i64 (hold)])]), .int .i64 (0)])])])] : Nat) : Int) : Int) == 0) = false →
                                R (.bool (false)) []))) ∧
                          (tkOkU [.agg (maskU [.agg (tkU [.agg (maskU [.agg (sendU [.agg l20, .int .i64 (a)]), .int .i64 (hold)])]), .int .i64 (0)])] = false →
                            (!(((atU [.agg (maskU [.agg (sendU [.agg l20, .int .i64 (a)]), .int .i64 (hold)]), .int .i64 (a)] : Int) == 1))) = true ∧
                            R (.bool (false)) [])) ∧
                        (((tkAtU [.agg (maskU [.agg (tkU [.agg (maskU [.agg (sendU [.agg l20, .int .i64 (a)]), .int .i64 (hold)])]), .int .i64 (0)])] : Int) == atU [.agg (maskU [.agg (sendU [.agg l20, .int .i64 (a)]), .int .i64 (hold)]), .int .i64 (a)]) = false →
                          R (.bool (false)) [])))) ∧
                  (((tkSigU [.agg (maskU [.agg (tkU [.agg (maskU [.agg (sendU [.agg l20, .int .i64 (a)]), .int .i64 (hold)])]), .int .i64 (0)])] : Int) == a) = false →
                    R (.bool (false)) []))) ∧
              (waitsU [.agg (tkU [.agg (maskU [.agg (sendU [.agg l20, .int .i64 (a)]), .int .i64 (hold)])]), .int .i64 (a)] = false →
                R (.bool (false)) []))) ∧
          (((kAnd .i64 (kShr .i64 (hold) (IntKind.wrap .u64 (a))) (1) : Int) == 1) = false →
            (!(((kAnd .i64 (kShr .i64 (hold) (IntKind.wrap .u64 (a))) (1) : Int) == 1))) = true ∧
            okU [.agg (tkU [.agg (maskU [.agg (sendU [.agg l20, .int .i64 (a)]), .int .i64 (hold)])])] = true ∧
            (((((pendNU [.agg (tkU [.agg (maskU [.agg (sendU [.agg l20, .int .i64 (a)]), .int .i64 (hold)])])] : Nat) : Int) : Int) == 0) = true →
              (tkOkU [.agg (maskU [.agg (sendU [.agg l20, .int .i64 (a)]), .int .i64 (hold)])] = true →
                (((atU [.agg (maskU [.agg (sendU [.agg l20, .int .i64 (a)]), .int .i64 (hold)]), .int .i64 (a)] : Int) == 1) = true →
                  R (.bool (false)) []) ∧
                (((atU [.agg (maskU [.agg (sendU [.agg l20, .int .i64 (a)]), .int .i64 (hold)]), .int .i64 (a)] : Int) == 1) = false →
                  okU [.agg (tkU [.agg (maskU [.agg (sendU [.agg l20, .int .i64 (a)]), .int .i64 (hold)])])] = true ∧
                  (!(((kAnd .i64 (kShr .i64 (hold) (IntKind.wrap .u64 (a))) (1) : Int) == 1))) = true ∧
                  (!(((atU [.agg (maskU [.agg (sendU [.agg l20, .int .i64 (a)]), .int .i64 (hold)]), .int .i64 (a)] : Int) == 1))) = true ∧
                  okU [.agg (maskU [.agg (tkU [.agg (maskU [.agg (sendU [.agg l20, .int .i64 (a)]), .int .i64 (hold)])]), .int .i64 (0)])] = true ∧
                  (((tkSigU [.agg (maskU [.agg (sendU [.agg l20, .int .i64 (a)]), .int .i64 (hold)])] : Int) == a) = true →
                    (tkEndsU [.agg (maskU [.agg (sendU [.agg l20, .int .i64 (a)]), .int .i64 (hold)])] = true →
                      (((atU [.agg (maskU [.agg (sendU [.agg l20, .int .i64 (a)]), .int .i64 (hold)]), .int .i64 (a)] : Int) == 0) = true →
                        (((tkAtU [.agg (maskU [.agg (sendU [.agg l20, .int .i64 (a)]), .int .i64 (hold)])] : Int) == atU [.agg (maskU [.agg (sendU [.agg l20, .int .i64 (a)]), .int .i64 (hold)]), .int .i64 (a)]) = true →
                          tkOkU [.agg (maskU [.agg (sendU [.agg l20, .int .i64 (a)]), .int .i64 (hold)])] = true ∧
                          (!(((atU [.agg (maskU [.agg (sendU [.agg l20, .int .i64 (a)]), .int .i64 (hold)]), .int .i64 (a)] : Int) == 1))) = true ∧
                          (tkOkU [.agg (maskU [.agg (tkU [.agg (maskU [.agg (sendU [.agg l20, .int .i64 (a)]), .int .i64 (hold)])]), .int .i64 (0)])] = true →
                            R (.bool (false)) []) ∧
                          (tkOkU [.agg (maskU [.agg (tkU [.agg (maskU [.agg (sendU [.agg l20, .int .i64 (a)]), .int .i64 (hold)])]), .int .i64 (0)])] = false →
                            okU [.agg (tkU [.agg (maskU [.agg (tkU [.agg (maskU [.agg (sendU [.agg l20, .int .i64 (a)]), .int .i64 (hold)])]), .int .i64 (0)])])] = true ∧
                            (((((pendNU [.agg (tkU [.agg (maskU [.agg (tkU [.agg (maskU [.agg (sendU [.agg l20, .int .i64 (a)]), .int .i64 (hold)])]), .int .i64 (0)])])] : Nat) : Int) : Int) == 0) = true →
                              R (.bool (true)) []) ∧
                            (((((pendNU [.agg (tkU [.agg (maskU [.agg (tkU [.agg (maskU [.agg (sendU [.agg l20, .int .i64 (a)]), .int .i64 (hold)])]), .int .i64 (0)])])] : Nat) : Int) : Int) == 0) = false →
                              R (.bool (false)) []))) ∧
                        (((tkAtU [.agg (maskU [.agg (sendU [.agg l20, .int .i64 (a)]), .int .i64 (hold)])] : Int) == atU [.agg (maskU [.agg (sendU [.agg l20, .int .i64 (a)]), .int .i64 (hold)]), .int .i64 (a)]) = false →
                          R (.bool (false)) [])) ∧
                      (((atU [.agg (maskU [.agg (sendU [.agg l20, .int .i64 (a)]), .int .i64 (hold)]), .int .i64 (a)] : Int) == 0) = false →
                        R (.bool (false)) [])) ∧
                    (tkEndsU [.agg (maskU [.agg (sendU [.agg l20, .int .i64 (a)]), .int .i64 (hold)])] = false →
                      (((atU [.agg (maskU [.agg (sendU [.agg l20, .int .i64 (a)]), .int .i64 (hold)]), .int .i64 (a)] : Int) == 0) = true →
                        R (.bool (false)) []) ∧
                      (((atU [.agg (maskU [.agg (sendU [.agg l20, .int .i64 (a)]), .int .i64 (hold)]), .int .i64 (a)] : Int) == 0) = false →
                        (((tkAtU [.agg (maskU [.agg (sendU [.agg l20, .int .i64 (a)]), .int .i64 (hold)])] : Int) == atU [.agg (maskU [.agg (sendU [.agg l20, .int .i64 (a)]), .int .i64 (hold)]), .int .i64 (a)]) = true →
                          tkOkU [.agg (maskU [.agg (sendU [.agg l20, .int .i64 (a)]), .int .i64 (hold)])] = true ∧
                          (!(((atU [.agg (maskU [.agg (sendU [.agg l20, .int .i64 (a)]), .int .i64 (hold)]), .int .i64 (a)] : Int) == 1))) = true ∧
                          (tkOkU [.agg (maskU [.agg (tkU [.agg (maskU [.agg (sendU [.agg l20, .int .i64 (a)]), .int .i64 (hold)])]), .int .i64 (0)])] = true →
                            R (.bool (false)) []) ∧
                          (tkOkU [.agg (maskU [.agg (tkU [.agg (maskU [.agg (sendU [.agg l20, .int .i64 (a)]), .int .i64 (hold)])]), .int .i64 (0)])] = false →
                            okU [.agg (tkU [.agg (maskU [.agg (tkU [.agg (maskU [.agg (sendU [.agg l20, .int .i64 (a)]), .int .i64 (hold)])]), .int .i64 (0)])])] = true ∧
                            (((((pendNU [.agg (tkU [.agg (maskU [.agg (tkU [.agg (maskU [.agg (sendU [.agg l20, .int .i64 (a)]), .int .i64 (hold)])]), .int .i64 (0)])])] : Nat) : Int) : Int) == 0) = true →
                              R (.bool (true)) []) ∧
                            (((((pendNU [.agg (tkU [.agg (maskU [.agg (tkU [.agg (maskU [.agg (sendU [.agg l20, .int .i64 (a)]), .int .i64 (hold)])]), .int .i64 (0)])])] : Nat) : Int) : Int) == 0) = false →
                              R (.bool (false)) []))) ∧
                        (((tkAtU [.agg (maskU [.agg (sendU [.agg l20, .int .i64 (a)]), .int .i64 (hold)])] : Int) == atU [.agg (maskU [.agg (sendU [.agg l20, .int .i64 (a)]), .int .i64 (hold)]), .int .i64 (a)]) = false →
                          R (.bool (false)) [])))) ∧
                  (((tkSigU [.agg (maskU [.agg (sendU [.agg l20, .int .i64 (a)]), .int .i64 (hold)])] : Int) == a) = false →
                    R (.bool (false)) []))) ∧
              (tkOkU [.agg (maskU [.agg (sendU [.agg l20, .int .i64 (a)]), .int .i64 (hold)])] = false →
                (((atU [.agg (maskU [.agg (sendU [.agg l20, .int .i64 (a)]), .int .i64 (hold)]), .int .i64 (a)] : Int) == 1) = true →
                  okU [.agg (tkU [.agg (maskU [.agg (sendU [.agg l20, .int .i64 (a)]), .int .i64 (hold)])])] = true ∧
                  (!(((kAnd .i64 (kShr .i64 (hold) (IntKind.wrap .u64 (a))) (1) : Int) == 1))) = true ∧
                  ((atU [.agg (maskU [.agg (sendU [.agg l20, .int .i64 (a)]), .int .i64 (hold)]), .int .i64 (a)] : Int) == 1) = true ∧
                  okU [.agg (maskU [.agg (tkU [.agg (maskU [.agg (sendU [.agg l20, .int .i64 (a)]), .int .i64 (hold)])]), .int .i64 (0)])] = true ∧
                  (((tkSigU [.agg (maskU [.agg (sendU [.agg l20, .int .i64 (a)]), .int .i64 (hold)])] : Int) == 0) = true →
                    (tkEndsU [.agg (maskU [.agg (sendU [.agg l20, .int .i64 (a)]), .int .i64 (hold)])] = true →
                      R (.bool (false)) []) ∧
                    (tkEndsU [.agg (maskU [.agg (sendU [.agg l20, .int .i64 (a)]), .int .i64 (hold)])] = false →
                      (((tkAtU [.agg (maskU [.agg (sendU [.agg l20, .int .i64 (a)]), .int .i64 (hold)])] : Int) == 0) = true →
                        (!(tkOkU [.agg (maskU [.agg (sendU [.agg l20, .int .i64 (a)]), .int .i64 (hold)])])) = true ∧
                        ((atU [.agg (maskU [.agg (sendU [.agg l20, .int .i64 (a)]), .int .i64 (hold)]), .int .i64 (a)] : Int) == 1) = true ∧
                        (tkOkU [.agg (maskU [.agg (tkU [.agg (maskU [.agg (sendU [.agg l20, .int .i64 (a)]), .int .i64 (hold)])]), .int .i64 (0)])] = true →
                          R (.bool (false)) []) ∧
                        (tkOkU [.agg (maskU [.agg (tkU [.agg (maskU [.agg (sendU [.agg l20, .int .i64 (a)]), .int .i64 (hold)])]), .int .i64 (0)])] = false →
                          okU [.agg (tkU [.agg (maskU [.agg (tkU [.agg (maskU [.agg (sendU [.agg l20, .int .i64 (a)]), .int .i64 (hold)])]), .int .i64 (0)])])] = true ∧
                          (((((pendNU [.agg (tkU [.agg (maskU [.agg (tkU [.agg (maskU [.agg (sendU [.agg l20, .int .i64 (a)]), .int .i64 (hold)])]), .int .i64 (0)])])] : Nat) : Int) : Int) == 0) = true →
                            R (.bool (true)) []) ∧
                          (((((pendNU [.agg (tkU [.agg (maskU [.agg (tkU [.agg (maskU [.agg (sendU [.agg l20, .int .i64 (a)]), .int .i64 (hold)])]), .int .i64 (0)])])] : Nat) : Int) : Int) == 0) = false →
                            R (.bool (false)) []))) ∧
                      (((tkAtU [.agg (maskU [.agg (sendU [.agg l20, .int .i64 (a)]), .int .i64 (hold)])] : Int) == 0) = false →
                        R (.bool (false)) []))) ∧
                  (((tkSigU [.agg (maskU [.agg (sendU [.agg l20, .int .i64 (a)]), .int .i64 (hold)])] : Int) == 0) = false →
                    R (.bool (false)) [])) ∧
                (((atU [.agg (maskU [.agg (sendU [.agg l20, .int .i64 (a)]), .int .i64 (hold)]), .int .i64 (a)] : Int) == 1) = false →
                  R (.bool (false)) []))) ∧
            (((((pendNU [.agg (tkU [.agg (maskU [.agg (sendU [.agg l20, .int .i64 (a)]), .int .i64 (hold)])])] : Nat) : Int) : Int) == 0) = false →
              R (.bool (false)) [])))))))) := by kernel_rfl
/-! the plain law -/
theorem lowFrom_zero : ∀ f i, lowFrom 0#32 f i = 0
  | 0, _ => rfl
  | f + 1, i => by rw [lowFrom_succ, BitVec.getLsbD_zero, if_neg (by simp)]; exact lowFrom_zero f (i + 1)
theorem lowest_zero : lowest 0#32 = 0 := lowFrom_zero _ _
theorem lowest_bit : ∀ n, n < 16 → 1 ≤ n → lowest (bitN n) = n := by decide
theorem bit_andnot (n : Nat) (hn : n < 32) (h : W) : bitN n &&& ~~~ h = if h.getLsbD n then 0#32 else bitN n := by
  apply BitVec.eq_of_getLsbD_eq
  intro j hj
  rw [BitVec.getLsbD_and, bitN_get _ _ hn, BitVec.getLsbD_not, decide_eq_true hj, Bool.true_and]
  by_cases he : j = n
  · subst he
    cases hb : h.getLsbD j
    · simp [bitN_get _ _ hn]
    · simp
  · cases hb : h.getLsbD n <;> simp [he, bitN_get _ _ hn]
section
variable {p : Sg} {n : Nat}
theorem tkN_bit (h1 : 1 ≤ n) (h2 : n < 16) (hw : p.wt = bitN n) (hh : p.hd.getLsbD n = false) : tkN p = n := by
  unfold tkN; rw [hw, bit_andnot n (by omega), hh]; exact lowest_bit n h2 h1
theorem tkN_held (h2 : n < 16) (hw : p.wt = bitN n) (hh : p.hd.getLsbD n = true) : tkN p = 0 := by
  unfold tkN; rw [hw, bit_andnot n (by omega), hh]; exact lowest_zero
theorem tkN_none (hw : p.wt = 0#32) : tkN p = 0 := by
  unfold tkN; rw [hw, BitVec.zero_and]; exact lowest_zero
theorem tkP_none (h : tkN p = 0) : tkP p = p := by unfold tkP; rw [if_pos h]
theorem tkP_wt (h1 : 1 ≤ n) (h : tkN p = n) (hw : p.wt = bitN n) : (tkP p).wt = 0#32 := by
  unfold tkP
  rw [if_neg (by omega), h]
  show (p.wt &&& ~~~ bitN n) &&& 65534#32 = 0#32
  rw [hw, BitVec.and_not_self]; exact BitVec.zero_and
theorem tkOk_none (h : tkN p = 0) : tkOk p = false := by unfold tkOk; rw [h]; rfl
theorem tkOk_bit (h1 : 1 ≤ n) (h : tkN p = n) : tkOk p = !(p.at_ n == 1#32) := by
  unfold tkOk; rw [h]
  have : Nat.beq n 0 = false := by cases n with
    | zero => omega
    | succ n => rfl
  rw [this]; rfl
theorem tkSig_bit (h1 : 1 ≤ n) (h : tkN p = n) : tkSig p = if p.at_ n == 1#32 then 0 else (n : Int) := by
  unfold tkSig; rw [tkOk_bit h1 h, h]; cases p.at_ n == 1#32 <;> rfl
theorem tkEnds_bit (h1 : 1 ≤ n) (h : tkN p = n) : tkEnds p = (p.at_ n == 0#32) := by
  unfold tkEnds; rw [tkOk_bit h1 h, h]
  by_cases h1 : p.at_ n = 1#32
  · rw [h1]; rfl
  · have : (p.at_ n == 1#32) = false := by simpa using h1
    rw [this]; rfl
theorem tkAt_bit (h1 : 1 ≤ n) (h : tkN p = n) : tkAt p = if p.at_ n == 1#32 then 0 else u (p.at_ n) := by
  unfold tkAt; rw [tkOk_bit h1 h, h]; cases p.at_ n == 1#32 <;> rfl
end
theorem mask_at (p : Sg) (b : Int) (i : Nat) : (mask p b).at_ i = p.at_ i := rfl
theorem mask_wt (p : Sg) (b : Int) : (mask p b).wt = p.wt := rfl
theorem send_at (p : Sg) (a : Int) (i : Nat) : (send p a).at_ i = p.at_ i := rfl
theorem send_wt {p : Sg} (hw : p.wt = 0#32) {a : Int} (h1 : 1 ≤ a) (h2 : a ≤ 15) : (send p a).wt = bitN a.toNat := by
  show (p.wt ||| bitN a.toNat) &&& 65534#32 = _
  rw [hw, BitVec.zero_or]
  apply BitVec.eq_of_getLsbD_eq
  intro j hj
  rw [BitVec.getLsbD_and, bitN_get _ _ (by omega)]
  by_cases he : j = a.toNat
  · subst he; rw [m34 _ (by omega)]; simp; omega
  · simp [he]
theorem mask_bit (p : Sg) (b : Int) {n : Nat} (h1 : 2 ≤ n) (h2 : n < 16) : (mask p b).hd.getLsbD n = (w32 b).getLsbD n := by
  show (w32 b &&& 65532#32).getLsbD n = _
  rw [BitVec.getLsbD_and, m32 n h2, decide_eq_true h1, Bool.and_true]
theorem mask0_bit (p : Sg) (n : Nat) : (mask p 0).hd.getLsbD n = false := by
  show (0#32 &&& 65532#32).getLsbD n = _
  simp
theorem pend_zero : (pend 0#32).length = 0 := rfl
theorem u_eq1 (x : W) : (u x == 1) = (x == 1#32) := u_beq x 1#32
theorem u_eq0 (x : W) : (u x == 0) = (x == 0#32) := u_beq x 0#32
theorem on_call (G : Nat → List AV) (B : Nat) (k n : Nat) (hold a b : Int) (hk : okI .i64 (G k) 0 (n * 3) = true) : ACalls (⟨Try.prog, G, B⟩ : Ctx) 3 [.slice true (.ro k) 0 n, .agg [.int .i64 a, .int .i64 b], .int .i64 hold] [] fun v _ => v = .bool true := by
  have key := dlaw_ok (C := (⟨Try.prog, G, B⟩ : Ctx)) (f := 3) (R := fun v _ => v = .bool true) (dgO G B) (by kernel_rfl) (by kernel_rfl) (by kernel_rfl) (fuel := 400) (n0 := 20) (args := [.slice true (.ro (.var 1 k)) (.lit 0) (.var 2 n), .agg (.of [.int .i64 (.var 3 a), .int .i64 (.var 4 b)]), .int .i64 (.var 5 hold)]) (H := []) (by
    rw [on_run]
    refine ⟨fun _ => rfl, fun g1 => ⟨fun _ => rfl, fun g2 => ⟨fun _ => rfl, fun g3 => ⟨hk, rfl, fun l20 hl => ?_⟩⟩⟩⟩
    simp only [decide_eq_false_iff_not] at g1 g2 g3
    obtain ⟨p, rfl, hw, hh⟩ := fresh_eq.1 hl
    obtain ⟨m, rfl⟩ : ∃ m : Nat, a = m := ⟨a.toNat, by omega⟩
    have hm1 : 2 ≤ m := by omega
    have hm2 : m < 16 := by omega
    simp only [sendU_enc, maskU_enc, tkU_enc, okU_enc, tkOkU_enc, tkSigU_enc, tkEndsU_enc, tkAtU_enc, atU_enc, pendNU_enc, waitsU_enc, Int.toNat_natCast, bit64 hold m hm2]
    have sw : (send p (m : Int)).wt = bitN m := by rw [send_wt hw (by omega) (by omega)]; rfl
    generalize hs : send p (m : Int) = s at *
    have qa : ∀ i, (mask s hold).at_ i = s.at_ i := fun _ => rfl
    have qw : (mask s hold).wt = bitN m := sw
    have qb := mask_bit s hold hm1 hm2
    generalize hq : mask s hold = q at *
    have c1 : decide ((0 : Int) < b) = true := decide_eq_true (by omega)
    have c2 : decide ((0 : Int) ≤ (m : Int)) = true := decide_eq_true (by omega)
    have c3 : decide ((m : Int) ≤ 15) = true := decide_eq_true (by omega)
    have c4 : decide ((0 : Int) ≤ IntKind.wrap .u64 (m : Int)) = true := decide_eq_true (by rw [IntKind.wrap_u64]; omega)
    have c5 : decide ((m : Int) < 1) = false := decide_eq_false (by omega)
    have c6 : decide ((m : Int) > 15) = false := decide_eq_false (by omega)
    have c7 : ((m : Int) == 0) = false := by rw [beq_eq_false_iff_ne]; omega
    have c8 : ((0 : Int) == (m : Int)) = false := by rw [beq_eq_false_iff_ne]; omega
    cases hb : (w32 hold).getLsbD m with
    | true =>
      rw [hb] at qb
      have t0 := tkN_held hm2 qw qb
      have t1 := tkOk_none t0
      have t2 := tkP_none t0
      have t3 : waitsB q (m : Int) = true := by unfold waitsB; rw [BitVec.getLsbD_and, qw, Int.toNat_natCast, bitN_get _ _ (by omega), qb]; simp
      have ra : ∀ i, (mask q 0).at_ i = q.at_ i := fun _ => rfl
      have rw' : (mask q 0).wt = bitN m := qw
      have rb := mask0_bit q m
      generalize hr : mask q 0 = r at *
      have t4 := tkN_bit (by omega) hm2 rw' rb
      have e1 := tkOk_bit (by omega) t4
      have e2 := tkSig_bit (by omega) t4
      have e3 := tkEnds_bit (by omega) t4
      have e4 := tkAt_bit (by omega) t4
      have t5 := tkP_wt (by omega) t4 rw'
      have t6 := tkN_none t5
      have t7 := tkOk_none t6
      have t8 := tkP_none t6
      rw [ra, qa] at e1 e2 e3 e4
      simp only [t1, t2, t3, hr, e1, e2, e3, e4, t7, t8, t5, qa, u_eq1, u_eq0, c1, c2, c3, c4, c5, c6, pend_zero]
      by_cases a1 : s.at_ m = 1#32
      · rw [a1]; simp
      · have a1' : (s.at_ m == 1#32) = false := by simpa using a1
        simp only [a1']
        by_cases a0 : s.at_ m = 0#32
        · rw [a0]; simp
        · have a0' : (s.at_ m == 0#32) = false := by simpa using a0
          simp [a0']
    | false =>
      rw [hb] at qb
      have t4 := tkN_bit (by omega) hm2 qw qb
      have e1 := tkOk_bit (by omega) t4
      have e2 := tkSig_bit (by omega) t4
      have e3 := tkEnds_bit (by omega) t4
      have e4 := tkAt_bit (by omega) t4
      have t5 := tkP_wt (by omega) t4 qw
      have t9 : (mask (tkP q) 0).wt = 0#32 := t5
      have t6 := tkN_none t9
      have t7 := tkOk_none t6
      have t8 := tkP_none t6
      rw [qa] at e1 e2 e3 e4
      simp only [e1, e2, e3, e4, t7, t8, t5, t9, qa, u_eq1, u_eq0, c1, c2, c3, c4, c5, c6, pend_zero]
      by_cases a1 : s.at_ m = 1#32
      · rw [a1]; simp
      · have a1' : (s.at_ m == 1#32) = false := by simpa using a1
        simp only [a1']
        by_cases a0 : s.at_ m = 0#32
        · rw [a0]; simp
        · have a0' : (s.at_ m == 0#32) = false := by simpa using a0
          simp [a0'])
  simp only [vVs, vV, vR, vN, vI, vL, vHp, List.map_nil] at key
  exact key
end Go.Am
