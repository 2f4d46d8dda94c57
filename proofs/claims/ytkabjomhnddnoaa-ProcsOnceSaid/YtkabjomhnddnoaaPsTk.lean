/-
  The program's sets: Take and Pending.
-/
import Derived.Test.YtkabjomhnddnoaaPsP
import Derived.Test.YtkabjomhnddnoaaBase6
namespace Go.Am
open Go.Proofs Crc
set_option maxRecDepth 100000
theorem tk_body (G : Nat → List AV) (cs r : List AV) (i : Int) (Q : Ex → List AV → Hp → Prop) (R : AV → Hp → Prop) : vT G Q R (dloop (Dc Try.prog [55, 56] [] [] 0) 200 10 1 (loopN Try.f66 0) 63 [0, 2, 4, 5] [.ptr (.rw 0) (.lit 0), .ptr (.rw 1) (.lit 0), .int .i64 (.lit 0), .int .i64 (.var 2 i)] [some ⟨1, .var 1 cs⟩, some ⟨1, .var 3 r⟩]) = (
    (decide ((i : Int) ≤ 15) = true →
      isI .u32 cs (1) = true ∧
      isI .u32 cs (2) = true ∧
      decide ((0 : Int) ≤ i) = true ∧
      (((kAnd .u32 (kShr .u32 (kAndNot .u32 (getI cs (1)) (getI cs (2))) (i)) (1) : Int) == 1) = true →
        Q (.exit 0) [.ptr (.rw 0) (0), .ptr (.rw 1) (0), .int .i64 (i), .int .i64 (i)] [some ⟨1, cs⟩, some ⟨1, r⟩]) ∧
      (((kAnd .u32 (kShr .u32 (kAndNot .u32 (getI cs (1)) (getI cs (2))) (i)) (1) : Int) == 1) = false →
        Q .normal [.ptr (.rw 0) (0), .ptr (.rw 1) (0), .int .i64 (0), .int .i64 (IntKind.wrap .i64 (i + 1))] [some ⟨1, cs⟩, some ⟨1, r⟩])) ∧
    (decide ((i : Int) ≤ 15) = false →
      Q (.exit 0) [.ptr (.rw 0) (0), .ptr (.rw 1) (0), .int .i64 (0), .int .i64 (i)] [some ⟨1, cs⟩, some ⟨1, r⟩])) := by kernel_rfl
theorem bit_eq (x : Wd) (i : Nat) (h : i < 32) : ((kAnd .u32 (kShr .u32 (u x) (i : Int)) 1 : Int) == 1) = x.getLsbD i := by
  rw [bit_sel x i h]; cases x.getLsbD i <;> rfl
def tkNU : List AV → Int := onP 0 fun p => tkN p
theorem tk_loop (G : Nat → List AV) (B : Nat) (p : Sg) (r : List AV) : AWp (⟨Try.prog, G, B⟩ : Ctx) 1 (.loop (loopN Try.f66 0)) (fl 63 [0, 2, 4, 5] [.ptr (.rw 0) 0, .ptr (.rw 1) 0, .int .i64 0, .int .i64 1]) [some ⟨1, encP p⟩, some ⟨1, r⟩]
    (lv 63 [0, 2, 4, 5] fun e vs H => e = .exit 0 ∧ wk [.ptr (.rw 0) 0, .ptr (.rw 1) 0, .int .i64 (tkN p), .undef] vs ∧ H = [some ⟨1, encP p⟩, some ⟨1, r⟩]) := by
  let x : Wd := p.wt &&& ~~~ p.hd
  refine aloop_lv (fun j vs H => ∃ i : Nat, 1 ≤ i ∧ i ≤ 16 ∧ j = 16 - i ∧ lowFrom x (16 - i) i = tkN p ∧ vs = [.ptr (.rw 0) 0, .ptr (.rw 1) 0, .int .i64 0, .int .i64 (i : Int)] ∧ H = [some ⟨1, encP p⟩, some ⟨1, r⟩]) 15
    ⟨1, by omega, by omega, rfl, rfl, rfl, rfl⟩ ?_
  rintro j vs H ⟨i, hi1, hi2, rfl, hlow, rfl, rfl⟩
  refine dloop_ok (C := (⟨Try.prog, G, B⟩ : Ctx)) (dg G B) (fuel := 200) (n0 := 10) (m := 1) (c := loopN Try.f66 0) (vs := [.ptr (.rw 0) (.lit 0), .ptr (.rw 1) (.lit 0), .int .i64 (.lit 0), .int .i64 (.var 2 (i : Int))]) (H := [some ⟨1, .var 1 (encP p)⟩, some ⟨1, .var 3 r⟩]) (by simp) ?_
  rw [tk_body]
  rw [encP_1, encP_2, kAndNot_w, w32_u, w32_u]
  refine ⟨fun h => ⟨rfl, rfl, decide_eq_true (by omega), fun hb => ?_, fun hb => ?_⟩, fun h => ?_⟩
  · have h := of_decide_eq_true h
    rw [bit_eq x i (by omega)] at hb
    have : 16 - i = (15 - i) + 1 := by omega
    rw [this, lowFrom_succ, hb, if_pos rfl] at hlow
    rw [← hlow]
    exact ⟨rfl, by simp [wk], rfl⟩
  · have h := of_decide_eq_true h
    rw [bit_eq x i (by omega)] at hb
    have : 16 - i = (15 - i) + 1 := by omega
    rw [this, lowFrom_succ, hb, if_neg (by simp)] at hlow
    refine ⟨16 - (i + 1), by omega, .inl ⟨i + 1, by omega, by omega, rfl, ?_, by rw [i64_in (by omega)]; rfl, rfl⟩⟩
    rw [show 16 - (i + 1) = 15 - i by omega]; exact hlow
  · have h := of_decide_eq_false h
    have : i = 16 := by omega
    subst this
    rw [← hlow]
    exact ⟨rfl, by simp [wk, lowFrom], rfl⟩
def tkL : DL := ⟨0, 63, [0, 2, 4, 5], fun vs H => match vs, H with
  | [.ptr (.rw 0) (.lit 0), .ptr (.rw 1) (.lit 0), .int .i64 (.lit 0), .int .i64 (.lit 1)], [some ⟨1, l⟩, some ⟨1, r⟩] =>
    some (.chk (.uf 1001 okU [.agg l]) (.one (.exit 0) [.ptr (.rw 0) (.lit 0), .ptr (.rw 1) (.lit 0), .int .i64 (.uf 1030 tkNU [.agg l]), .undef] [some ⟨1, l⟩, some ⟨1, r⟩]))
  | _, _ => none⟩
theorem tkNU_enc (p : Sg) : tkNU [.agg (encP p)] = tkN p := by simp only [tkNU, onP, decP_enc]
theorem tkL_ok (G : Nat → List AV) (B : Nat) : DLoopOk (⟨Try.prog, G, B⟩ : Ctx) 1 (loopN Try.f66 0) tkL := by
  refine .of fun vs H o ho n Q hQ => ?_
  simp only [tkL] at ho
  split at ho
  · rename_i l r
    simp only [Option.some.injEq] at ho
    subst ho
    obtain ⟨h1, h2⟩ := hQ
    simp only [vB, vVs, vV] at h1
    have hl : vL G l = encP (decP (vL G l)) := okP_eq h1
    refine lone ?_ h2
    simp only [tkL, vVs, vV, vR, vN, vI, vHp, List.map_cons, List.map_nil, Option.map_some, vBlk]
    rw [hl, tkNU_enc]
    exact tk_loop G B _ _
  · simp at ho
theorem dgT (G : Nat → List AV) (B : Nat) : DGood (⟨Try.prog, G, B⟩ : Ctx) (Dc Try.prog [55] [] [tkL] 1) (loopsOf (bodyOf Try.f66)) := dgood (mix G B) (by kernel_rfl) .nil (.cast (.cons (i := 0) (by kernel_rfl) rfl (tkL_ok G B) .nil) (by kernel_rfl))
theorem t14 (G : Nat → List AV) (cs : List AV) (Q : Ex → List AV → Hp → Prop) (R : AV → Hp → Prop) : vT G Q R (dcall (Dc Try.prog [55] [] [tkL] 1) 200 10 Try.f66 [.ptr (.rw 0) (.lit 0)] [some ⟨1, .var 1 cs⟩] 1) = (
    isB cs (0) = true ∧
    (getB cs (0) = true →
      okU [.agg cs] = true ∧
      (((tkNU [.agg cs] : Int) == 0) = true →
        R (.tup [.agg ([.int .i64 (0), .bool (false), .int .u32 (0)] : List AV), .bool (false)]) [some ⟨1, cs⟩]) ∧
      (((tkNU [.agg cs] : Int) == 0) = false →
        isI .u32 cs (1) = true ∧
        decide ((0 : Int) ≤ tkNU [.agg cs]) = true ∧
        leB (2) (List.length cs) = true ∧
        decide ((0 : Int) ≤ tkNU [.agg cs]) = true ∧
        decide ((tkNU [.agg cs] : Int) < 16) = true ∧
        isI .u32 (setPart cs (1) (.int .u32 (kAndNot .u32 (getI cs (1)) (kShl .u32 (1) (tkNU [.agg cs]))))) (Int.toNat (tkNU [.agg cs]) + 3) = true ∧
        (((getI (setPart cs (1) (.int .u32 (kAndNot .u32 (getI cs (1)) (kShl .u32 (1) (tkNU [.agg cs]))))) (Int.toNat (tkNU [.agg cs]) + 3) : Int) == 1) = true →
          R (.tup [.agg ([.int .i64 (0), .bool (false), .int .u32 (0)] : List AV), .bool (false)]) [some ⟨1, (setPart cs (1) (.int .u32 (kAndNot .u32 (getI cs (1)) (kShl .u32 (1) (tkNU [.agg cs])))))⟩]) ∧
        (((getI (setPart cs (1) (.int .u32 (kAndNot .u32 (getI cs (1)) (kShl .u32 (1) (tkNU [.agg cs]))))) (Int.toNat (tkNU [.agg cs]) + 3) : Int) == 1) = false →
          decide ((0 : Int) ≤ tkNU [.agg cs]) = true ∧
          decide ((tkNU [.agg cs] : Int) < 16) = true ∧
          isI .u32 (setPart cs (1) (.int .u32 (kAndNot .u32 (getI cs (1)) (kShl .u32 (1) (tkNU [.agg cs]))))) (Int.toNat (tkNU [.agg cs]) + 3) = true ∧
          decide ((0 : Int) ≤ tkNU [.agg cs]) = true ∧
          decide ((tkNU [.agg cs] : Int) < 16) = true ∧
          isI .u32 (setPart cs (1) (.int .u32 (kAndNot .u32 (getI cs (1)) (kShl .u32 (1) (tkNU [.agg cs]))))) (Int.toNat (tkNU [.agg cs]) + 3) = true ∧
          R (.tup [.agg ([.int .i64 (tkNU [.agg cs]), .bool (((getI (setPart cs (1) (.int .u32 (kAndNot .u32 (getI cs (1)) (kShl .u32 (1) (tkNU [.agg cs]))))) (Int.toNat (tkNU [.agg cs]) + 3) : Int) == 0)), .int .u32 (getI (setPart cs (1) (.int .u32 (kAndNot .u32 (getI cs (1)) (kShl .u32 (1) (tkNU [.agg cs]))))) (Int.toNat (tkNU [.agg cs]) + 3))] : List AV), .bool (true)]) [some ⟨1, (setPart cs (1) (.int .u32 (kAndNot .u32 (getI cs (1)) (kShl .u32 (1) (tkNU [.agg cs])))))⟩]))) ∧
    (getB cs (0) = false →
      R (.tup [.agg ([.int .i64 (0), .bool (false), .int .u32 (0)] : List AV), .bool (false)]) [some ⟨1, cs⟩])) := by kernel_rfl
theorem take_w (p : Sg) (h0 : tkN p ≠ 0) : setPart (encP p) 1 (.int .u32 (kAndNot .u32 (u p.wt) (kShl .u32 1 (tkN p : Int)))) = encP (tkP p) := by
  have hlt : tkN p < 16 := lowest_lt _
  have e : kAndNot .u32 (u p.wt) (kShl .u32 1 (tkN p : Int)) = u ((p.wt &&& ~~~ bitN (tkN p)) &&& 65534#32) := by
    rw [kShl1 (by omega), kAndNot_w, w32_u, w32_u]
    congr 1
    conv => lhs; rw [← p.hw]
    rw [BitVec.and_assoc, BitVec.and_assoc, BitVec.and_comm 65534#32]
  rw [e]
  unfold tkP
  rw [if_neg h0]
  rfl
theorem tkP_at (p : Sg) (i : Nat) : (tkP p).at_ i = p.at_ i := by unfold tkP; split <;> rfl
theorem p_take (G : Nat → List AV) (B : Nat) : TakeOk (⟨Try.prog, G, B⟩ : Ctx) 66 encP := by
  intro p
  refine Meth.of (C := (⟨Try.prog, G, B⟩ : Ctx)) (rest := []) (dgT G B) (by kernel_rfl) (by kernel_rfl) (by kernel_rfl) (fuel := 200) (n0 := 10) (fn := Try.f66) ?_
  rw [t14, tkNU_enc, encP_1, Int.toNat_natCast]
  have hlt : tkN p < 16 := lowest_lt _
  refine ⟨rfl, fun _ => ⟨okU_enc p, fun h => ?_, fun h => ?_⟩, fun h => by cases h⟩
  · have h0 : tkN p = 0 := by have := eq_of_beq h; omega
    refine ⟨by simp [takenV, tkSig, tkEnds, tkAt, tkOk, h0], by simp [tkP, h0]⟩
  · have h0 : tkN p ≠ 0 := by
      intro h1; rw [h1] at h; cases h
    have hb : Nat.beq (tkN p) 0 = false := by
      cases h1 : tkN p with
      | zero => exact absurd h1 h0
      | succ n => rfl
    rw [take_w p h0, encP_getI _ hlt, tkP_at]
    have a1 : decide ((0 : Int) ≤ (tkN p : Int)) = true := decide_eq_true (by omega)
    have a2 : decide ((tkN p : Int) < 16) = true := decide_eq_true (by omega)
    have a3 := encP_isI (tkP p) hlt
    refine ⟨rfl, a1, leB_enc p _ (by omega), a1, a2, a3, fun h1 => ?_, fun h1 => ⟨a1, a2, a3, a1, a2, a3, ?_⟩⟩
    · have h1 : p.at_ (tkN p) = 1#32 := by
        have := congrArg w32 (eq_of_beq h1)
        rw [w32_u] at this
        exact this
      exact ⟨by simp [takenV, tkSig, tkEnds, tkAt, tkOk, h1], rfl⟩
    · have h1 : (p.at_ (tkN p) == 1#32) = false := by
        rw [beq_eq_false_iff_ne]
        intro h
        rw [h] at h1
        cases h1
      have hok : tkOk p = true := by simp [tkOk, hb, h1]
      have he : (u (p.at_ (tkN p)) == 0) = (p.at_ (tkN p) == 0#32) := u_beq (p.at_ (tkN p)) 0#32
      refine ⟨?_, rfl⟩
      simp only [takenV, tkSig, tkEnds, tkAt, hok, if_true, Bool.true_and, he]

end Go.Am
