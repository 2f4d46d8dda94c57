/-
  CrcSums: the law's own loops.
-/
import Derived.Test.YtddhldihemfkcaaCrcKnown
namespace Go.Am
open Go.Proofs Crc
theorem a_body (G : Nat → List AV) (B : Nat) (k n m : Nat) (mb : Bool) (s c i : Int) (cs : List AV) (Q : Ex → List AV → Hp → Prop) : vc (Kn (⟨Try.prog, G, B⟩ : Ctx) noSum noLoop) 100 0 (.code (loopN Try.f3 0)) (fl 115 [0, 1, 2, 7, 8] [.slice mb (.ro k) 0 n, .int .u32 s, .int .i64 c, .slice false (.rw 0) 0 m, .int .i64 i]) [some ⟨1, cs⟩] (lv 115 [0, 1, 2, 7, 8] Q) = (
    tst (decide (i < (↑n : Int))) (
      chk (decide ((0 : Int) ≤ i) && decide (i < (↑n : Int))) (
      chk (isRS (G k) i.toNat) (
      chk (decide (roO (G k) i.toNat + roN (G k) i.toNat * (1 : Nat) ≤ (G (roK (G k) i.toNat)).length) && (List.take (roN (G k) i.toNat * (1 : Nat)) (List.drop (roO (G k) i.toNat) (G (roK (G k) i.toNat)))).all isCell && (decide ((m + roN (G k) i.toNat) * (1 : Nat) ≤ (140737488355328 : Nat)) && cs.length == m * (1 : Nat))) (
      nam (IntKind.i64.wrap (i + (1 : Int))) (fun y1 =>
      Q .normal [.slice mb (.ro (k)) 0 (n), .int IntKind.u32 (s), .int IntKind.i64 (c), .slice false (.rw 1) 0 (m + roN (G k) i.toNat), .int IntKind.i64 (y1)] [none, some ⟨1, (cs ++ List.take (roN (G k) i.toNat * (1 : Nat)) (List.drop (roO (G k) i.toNat) (G (roK (G k) i.toNat))))⟩]))))) (
      Q (.exit 0) [.slice mb (.ro (k)) 0 (n), .int IntKind.u32 (s), .int IntKind.i64 (c), .slice false (.rw 0) 0 (m), .int IntKind.i64 (i)] [some ⟨1, cs⟩])) := by kernel_rfl
theorem b_body (G : Nat → List AV) (B : Nat) (k n m : Nat) (mb : Bool) (s c i j : Int) (cs : List AV) (hs : Hp) (Q : Ex → List AV → Hp → Prop) : vc (Kn (⟨Try.prog, G, B⟩ : Ctx) noSum noLoop) 100 0 (.code (loopN Try.f3 1)) (fl 115 [0, 1, 2, 7, 10, 11] [.slice mb (.ro k) 0 n, .int .u32 s, .int .i64 c, .slice false (.rw 0) 0 m, .int .i64 i, .int .i64 j]) (some ⟨1, cs⟩ :: hs) (lv 115 [0, 1, 2, 7, 10, 11] Q) = (
    tst (decide (i < (↑n : Int))) (
      chk (decide ((0 : Int) ≤ i) && decide (i < (↑n : Int))) (
      chk (isRS (G k) i.toNat) (
      chk (decide (roO (G k) i.toNat + roN (G k) i.toNat ≤ (G (roK (G k) i.toNat)).length) && (List.take (roN (G k) i.toNat) (List.drop (roO (G k) i.toNat) (G (roK (G k) i.toNat)))).all isU8) (
      chk (decide ((0 : Int) ≤ i) && decide (i < (↑n : Int))) (
      chk (isRS (G k) i.toNat) (
      chk (decide ((0 : Int) ≤ j) && (decide (j ≤ IntKind.i64.wrap (j + (↑(roN (G k) i.toNat) : Int))) && decide (IntKind.i64.wrap (j + (↑(roN (G k) i.toNat) : Int)) ≤ (↑m : Int)))) (
      chk (decide (j.toNat + ((IntKind.i64.wrap (j + (↑(roN (G k) i.toNat) : Int))).toNat - j.toNat) ≤ cs.length) && (List.take ((IntKind.i64.wrap (j + (↑(roN (G k) i.toNat) : Int))).toNat - j.toNat) (List.drop j.toNat cs)).all isU8) (
      tst (!List.map toByte (List.take (roN (G k) i.toNat) (List.drop (roO (G k) i.toNat) (G (roK (G k) i.toNat)))) == List.map toByte (List.take ((IntKind.i64.wrap (j + (↑(roN (G k) i.toNat) : Int))).toNat - j.toNat) (List.drop j.toNat cs))) (
        Q .ret [.slice mb (.ro (k)) 0 (n), .int IntKind.u32 (s), .int IntKind.i64 (c), .slice false (.rw 0) 0 (m), .int IntKind.i64 (i), .int IntKind.i64 (j)] (some { esz := (1 : Nat), cells := cs } :: hs)) (
        chk (decide ((0 : Int) ≤ i) && decide (i < (↑n : Int))) (
        chk (isRS (G k) i.toNat) (
        nam (IntKind.i64.wrap (j + (↑(roN (G k) i.toNat) : Int))) (fun y1 =>
        nam (IntKind.i64.wrap (i + (1 : Int))) (fun y2 =>
        Q .normal [.slice mb (.ro (k)) 0 (n), .int IntKind.u32 (s), .int IntKind.i64 (c), .slice false (.rw 0) 0 (m), .int IntKind.i64 (y2), .int IntKind.i64 (y1)] (some { esz := (1 : Nat), cells := cs } :: hs)))))))))))))) (
      Q (.exit 2) [.slice mb (.ro (k)) 0 (n), .int IntKind.u32 (s), .int IntKind.i64 (c), .slice false (.rw 0) 0 (m), .int IntKind.i64 (i), .int IntKind.i64 (j)] (some { esz := (1 : Nat), cells := cs } :: hs))) := by kernel_rfl

def bl (l : List Int) : List AV := l.map (AV.int .u8)
theorem bl_append (a b : List Int) : bl (a ++ b) = bl a ++ bl b := by simp [bl]
theorem bl_length (a : List Int) : (bl a).length = a.length := by simp [bl]
theorem bl_flat (n : Nat) (a : List Int) : bnds n (bl a) = true := by rw [bnds_eq]; simp [bl, bnd]
theorem bl_rens (θ : List Nat) (a : List Int) : rens θ (bl a) = bl a := rens_flat θ _ (bl_flat 0 a)
theorem seg_eq {k : IntKind} {cs : List AV} {off n : Nat} (h : okI k cs off n = true) : (cs.drop off).take n = (ints cs off n).map (AV.int k) := by
  apply List.ext_getElem?
  intro j
  simp only [List.getElem?_take, List.getElem?_map, ints]
  by_cases hj : j < n
  · rw [if_pos hj, List.getElem?_drop, List.getElem?_range hj]
    exact isI_some (okI_get h hj)
  · rw [if_neg hj, List.getElem?_eq_none (by simpa using hj)]; rfl
theorem seg_len {k : IntKind} {cs : List AV} {n : Nat} (h : okI k cs 0 n = true) : n ≤ cs.length := by
  by_cases hn : n = 0
  · omega
  · have := isI_some (okI_get h (j := n - 1) (by omega))
    have := (List.getElem?_eq_some_iff.1 this).1
    omega
/-- a list of pieces, as it came in -/
def lOk (G : Nat → List AV) (k n : Nat) : Bool := (List.range n).all fun j => isRS (G k) j && (Nat.beq (roO (G k) j) 0 && okI .u8 (G (roK (G k) j)) 0 (roN (G k) j))
theorem lOk_get {G : Nat → List AV} {k n j : Nat} (h : lOk G k n = true) (hj : j < n) : isRS (G k) j = true ∧ roO (G k) j = 0 ∧ okI .u8 (G (roK (G k) j)) 0 (roN (G k) j) = true := by
  simp only [lOk, List.all_eq_true, List.mem_range, Bool.and_eq_true] at h
  obtain ⟨h1, h2, h3⟩ := h j hj
  exact ⟨h1, Nat.eq_of_beq_eq_true h2, h3⟩
theorem piece_eq {G : Nat → List AV} {k j : Nat} (h : roO (G k) j = 0) : piece G k j = ints (G (roK (G k) j)) 0 (roN (G k) j) := by unfold piece; rw [h]
theorem piece_len (G : Nat → List AV) (k j : Nat) : (piece G k j).length = roN (G k) j := by simp [piece, ints]
theorem pieces_mono (G : Nat → List AV) (k : Nat) : ∀ (n i : Nat), i ≤ n → (pieces G k 0 i).length ≤ (pieces G k 0 n).length := by
  intro n
  induction n with
  | zero => intro i hi; have : i = 0 := by omega
            subst this; exact Nat.le_refl _
  | succ n ih =>
    intro i hi
    by_cases h : i ≤ n
    · have := ih i h
      rw [pieces_succ]; simp; omega
    · have : i = n + 1 := by omega
      subst this; exact Nat.le_refl _

theorem a_loop (G : Nat → List AV) (B : Nat) (mb : Bool) (k n : Nat) (s c : Int) (m : Nat) (i : Int) (cs : List AV) (hc : (Nat.beq m 0 && (decide (i = 0) && (cs.isEmpty && (lOk G k n && (decide (n ≤ 9223372036854775807) && decide ((pieces G k 0 n).length ≤ 140737488355328)))))) = true) : AWp (⟨Try.prog, G, B⟩ : Ctx) 0 (.loop (loopN Try.f3 0)) (fl 115 [0, 1, 2, 7, 8] [.slice mb (.ro k) 0 n, .int .u32 s, .int .i64 c, .slice false (.rw 0) 0 m, .int .i64 i]) [some ⟨1, cs⟩] (lv 115 [0, 1, 2, 7, 8] fun e' vs'' H'' => e' = .exit 0 ∧ wk [.slice mb (.ro k) 0 n, .int .u32 s, .int .i64 c, .slice false (.rw 0) 0 (pieces G k 0 n).length, .undef] vs'' ∧ H'' = [some ⟨1, bl (pieces G k 0 n)⟩]) := by
  simp only [Bool.and_eq_true, decide_eq_true_eq, List.isEmpty_iff] at hc
  obtain ⟨hm, rfl, rfl, hl, hn, ht⟩ := hc
  have hm := Nat.eq_of_beq_eq_true hm
  subst hm
  refine aloop_lv (fun j vs H => ∃ i : Nat, i ≤ n ∧ j = n - i ∧ vs = [.slice mb (.ro k) 0 n, .int .u32 s, .int .i64 c, .slice false (.rw 0) 0 (pieces G k 0 i).length, .int .i64 i] ∧ H = [some ⟨1, bl (pieces G k 0 i)⟩]) n
    ⟨0, by omega, rfl, rfl, rfl⟩ ?_
  rintro j vs H ⟨i, hi, rfl, rfl, rfl⟩
  refine wpn (mix G B) (noSum_ok _) (noLoop_ok _ _) 100 ?_
  rw [a_body]
  simp only [tst_iff, chk_iff, nam_eq, Bool.and_eq_true, decide_eq_true_eq, decide_eq_false_iff_not, beq_iff_eq, Nat.mul_one]
  refine ⟨fun h => ⟨⟨by omega, h⟩, ?_⟩, fun h => ?_⟩
  · have hi' : i < n := by omega
    obtain ⟨l1, l2, l3⟩ := lOk_get hl hi'
    have hp := pieces_mono G k n (i + 1) (by omega)
    have e1 : pieces G k 0 (i + 1) = pieces G k 0 i ++ piece G k i := by rw [pieces_succ, Nat.zero_add]
    have e2 : (pieces G k 0 (i + 1)).length = (pieces G k 0 i).length + roN (G k) i := by rw [e1, List.length_append, piece_len]
    have e3 : List.take (roN (G k) i) (List.drop 0 (G (roK (G k) i))) = bl (piece G k i) := by rw [piece_eq l2]; exact seg_eq l3
    rw [show (i : Int).toNat = i from rfl, l2, e3, i64_in (by omega)]
    refine ⟨l1, ⟨⟨by have := seg_len l3; omega, by simp [bl, isCell]⟩, by omega, bl_length _⟩, n - (i + 1), by omega, .inr ⟨_, _, ⟨i + 1, by omega, rfl, rfl, rfl⟩, ?_⟩⟩
    refine View.ren (θ := [1]) (by decide) ⟨⟨bl_flat _ _, ?_⟩, trivial⟩ (by simp [bnds, bnd]) (by simp [rens, ren, wk, e2])
    rw [bl_rens, e1, bl_append]; rfl
  · have : i = n := by omega
    subst this
    exact ⟨trivial, by simp [wk], by trivial⟩

def a_S (G : Nat → List AV) (B : Nat) (vs : List AV) (H : Hp) : Option (Bool × Ex × List AV × Hp) := match vs, H with
  | [.slice mb (.ro k) 0 n, .int .u32 s, .int .i64 c, .slice false (.rw 0) 0 m, .int .i64 i], [some ⟨1, cs⟩] => some (Nat.beq m 0 && (decide (i = 0) && (cs.isEmpty && (lOk G k n && (decide (n ≤ 9223372036854775807) && decide ((pieces G k 0 n).length ≤ 140737488355328))))), .exit 0, [.slice mb (.ro k) 0 n, .int .u32 s, .int .i64 c, .slice false (.rw 0) 0 (pieces G k 0 n).length, .undef], [some ⟨1, bl (pieces G k 0 n)⟩])
  | _, _ => none
theorem a_S_ok (G : Nat → List AV) (B : Nat) (vs : List AV) (H : Hp) (e : Ex) (vs' : List AV) (H' : Hp) (h : a_S G B vs H = some (true, e, vs', H')) :
    AWp (⟨Try.prog, G, B⟩ : Ctx) 0 (.loop (loopN Try.f3 0)) (fl 115 [0, 1, 2, 7, 8] vs) H (lv 115 [0, 1, 2, 7, 8] fun e' vs'' H'' => e' = e ∧ wk vs' vs'' ∧ H'' = H') := by
  unfold a_S at h
  split at h
  · rename_i mb k n s c m i cs
    simp only [Option.some.injEq, Prod.mk.injEq] at h
    obtain ⟨hc, rfl, rfl, rfl⟩ := h
    exact a_loop G B mb k n s c m i cs hc
  · simp at h
def a_L (G : Nat → List AV) (B : Nat) : Loops := fun _ F H => lsum 115 [0, 1, 2, 7, 8] (a_S G B) F H
theorem a_ok (G : Nat → List AV) (B : Nat) : LoopOk (⟨Try.prog, G, B⟩ : Ctx) (loopN Try.f3 0) (a_L G B) := ls_ok (a_S_ok G B)
theorem b_loop (G : Nat → List AV) (B : Nat) (mb : Bool) (k n : Nat) (s c : Int) (m : Nat) (i j : Int) (cs : List AV) (hs : Hp) (hc : (Nat.beq m (pieces G k 0 n).length && (decide (i = 0) && (decide (j = 0) && (okI .u8 cs 0 m && (decide (ints cs 0 m = pieces G k 0 n) && (Nat.beq cs.length m && (lOk G k n && (decide (n ≤ 9223372036854775807) && decide (m ≤ 140737488355328))))))))) = true) : AWp (⟨Try.prog, G, B⟩ : Ctx) 0 (.loop (loopN Try.f3 1)) (fl 115 [0, 1, 2, 7, 10, 11] [.slice mb (.ro k) 0 n, .int .u32 s, .int .i64 c, .slice false (.rw 0) 0 m, .int .i64 i, .int .i64 j]) (some ⟨1, cs⟩ :: hs) (lv 115 [0, 1, 2, 7, 10, 11] fun e' vs'' H'' => e' = .exit 2 ∧ wk [.undef, .int .u32 s, .int .i64 c, .undef, .undef, .undef] vs'' ∧ H'' = (some ⟨1, cs⟩ :: hs)) := by
  simp only [Bool.and_eq_true, decide_eq_true_eq] at hc
  obtain ⟨hm, rfl, rfl, hc1, hc2, hc3, hl, hn, ht⟩ := hc
  have hm := Nat.eq_of_beq_eq_true hm
  have hc3 := Nat.eq_of_beq_eq_true hc3
  have ecs : cs = bl (pieces G k 0 n) := by
    have := seg_eq hc1
    rw [hc2, List.drop_zero, List.take_of_length_le (by omega)] at this
    exact this
  subst hm
  refine aloop_lv (fun j vs H => ∃ i : Nat, i ≤ n ∧ j = n - i ∧ vs = [.slice mb (.ro k) 0 n, .int .u32 s, .int .i64 c, .slice false (.rw 0) 0 (pieces G k 0 n).length, .int .i64 i, .int .i64 (pieces G k 0 i).length] ∧ H = some ⟨1, cs⟩ :: hs) n
    ⟨0, by omega, rfl, rfl, rfl⟩ ?_
  rintro j vs H ⟨i, hi, rfl, rfl, rfl⟩
  refine wpn (mix G B) (noSum_ok _) (noLoop_ok _ _) 100 ?_
  rw [b_body]
  simp only [tst_iff, chk_iff, nam_eq, Bool.and_eq_true, decide_eq_true_eq, decide_eq_false_iff_not]
  refine ⟨fun h => ⟨⟨by omega, h⟩, ?_⟩, fun h => ?_⟩
  · have hi' : i < n := by omega
    obtain ⟨l1, l2, l3⟩ := lOk_get hl hi'
    have hp := pieces_mono G k n (i + 1) (by omega)
    have e1 : pieces G k 0 (i + 1) = pieces G k 0 i ++ piece G k i := by rw [pieces_succ, Nat.zero_add]
    have e2 : (pieces G k 0 (i + 1)).length = (pieces G k 0 i).length + roN (G k) i := by rw [e1, List.length_append, piece_len]
    have e3 : List.take (roN (G k) i) (List.drop 0 (G (roK (G k) i))) = bl (piece G k i) := by rw [piece_eq l2]; exact seg_eq l3
    have e4 : IntKind.i64.wrap (((pieces G k 0 i).length : Int) + ((roN (G k) i : Nat) : Int)) = ((pieces G k 0 (i + 1)).length : Int) := by
      rw [i64_in (by omega), e2]; omega
    have hsp : ∃ t, pieces G k 0 n = pieces G k 0 (i + 1) ++ t := by
      refine ⟨((List.range' (i + 1) (n - (i + 1))).map fun j => piece G k (0 + j)).flatten, ?_⟩
      unfold pieces
      rw [← List.flatten_append, ← List.map_append]
      congr 2
      rw [List.range_eq_range', List.range_eq_range', show List.range' 0 n = List.range' 0 ((i + 1) + (n - (i + 1))) by congr 1; omega, ← List.range'_append]
      simp
    obtain ⟨t, hsp⟩ := hsp
    have e5 : List.take ((((pieces G k 0 (i + 1)).length : Int)).toNat - (((pieces G k 0 i).length : Int)).toNat) (List.drop (((pieces G k 0 i).length : Int)).toNat cs) = bl (piece G k i) := by
      rw [ecs, hsp, e1]
      simp only [Int.toNat_natCast, bl_append, List.length_append, List.append_assoc]
      rw [List.drop_append, List.drop_eq_nil_of_le (by rw [bl_length]; omega), bl_length, Nat.sub_self, List.drop_zero, List.nil_append, List.take_append, List.take_of_length_le (by rw [bl_length]; omega), bl_length]
      rw [show (pieces G k 0 i).length + (piece G k i).length - (pieces G k 0 i).length - (piece G k i).length = 0 by omega]
      simp
    have hu : ∀ l, (bl l).all isU8 = true := fun l => by simp [bl, isU8]
    rw [show (i : Int).toNat = i from rfl, l2, e3, e4, e5]
    simp only [Int.toNat_natCast]
    have hcl : cs.length = (pieces G k 0 n).length := hc3
    refine ⟨l1, ⟨by have := seg_len l3; omega, hu _⟩, ⟨by omega, h⟩, l1, ⟨by omega, by omega, by omega⟩, ⟨by omega, hu _⟩, fun hb => ?_, fun hb => ⟨⟨by omega, h⟩, l1, n - (i + 1), by omega, .inl ⟨i + 1, by omega, rfl, by rw [i64_in (by omega)]; rfl, by trivial⟩⟩⟩
    · simp at hb
  · exact ⟨trivial, by simp [wk], trivial⟩
def b_S (G : Nat → List AV) (B : Nat) (vs : List AV) (H : Hp) : Option (Bool × Ex × List AV × Hp) := match vs, H with
  | [.slice mb (.ro k) 0 n, .int .u32 s, .int .i64 c, .slice false (.rw 0) 0 m, .int .i64 i, .int .i64 j], (some ⟨1, cs⟩ :: hs) => some (Nat.beq m (pieces G k 0 n).length && (decide (i = 0) && (decide (j = 0) && (okI .u8 cs 0 m && (decide (ints cs 0 m = pieces G k 0 n) && (Nat.beq cs.length m && (lOk G k n && (decide (n ≤ 9223372036854775807) && decide (m ≤ 140737488355328)))))))), .exit 2, [.undef, .int .u32 s, .int .i64 c, .undef, .undef, .undef], (some ⟨1, cs⟩ :: hs))
  | _, _ => none
theorem b_S_ok (G : Nat → List AV) (B : Nat) (vs : List AV) (H : Hp) (e : Ex) (vs' : List AV) (H' : Hp) (h : b_S G B vs H = some (true, e, vs', H')) :
    AWp (⟨Try.prog, G, B⟩ : Ctx) 0 (.loop (loopN Try.f3 1)) (fl 115 [0, 1, 2, 7, 10, 11] vs) H (lv 115 [0, 1, 2, 7, 10, 11] fun e' vs'' H'' => e' = e ∧ wk vs' vs'' ∧ H'' = H') := by
  unfold b_S at h
  split at h
  · rename_i mb k n s c m i j cs hs
    simp only [Option.some.injEq, Prod.mk.injEq] at h
    obtain ⟨hc, rfl, rfl, rfl⟩ := h
    exact b_loop G B mb k n s c m i j cs hs hc
  · simp at h
def b_L (G : Nat → List AV) (B : Nat) : Loops := fun _ F H => lsum 115 [0, 1, 2, 7, 10, 11] (b_S G B) F H
theorem b_ok (G : Nat → List AV) (B : Nat) : LoopOk (⟨Try.prog, G, B⟩ : Ctx) (loopN Try.f3 1) (b_L G B) := ls_ok (b_S_ok G B)
theorem law1_run (G : Nat → List AV) (B : Nat) (k n : Nat) (mb : Bool) (s c : Int) (Q : AV → Hp → Prop) : vc (Ki (⟨Try.prog, G, B⟩ : Ctx) [7, 8, 10, 12] (sums [(5, true_sum), (6, su_sum (⟨Try.prog, G, B⟩ : Ctx)), (9, mo_sum (⟨Try.prog, G, B⟩ : Ctx)), (11, far_sum), (13, ze_sum), (15, run_sum (⟨Try.prog, G, B⟩ : Ctx)), (18, far_sum)]) (lps 0 (a_L G B) (b_L G B))) 300 0 (.code (bodyOf Try.f3)) (frame0 Try.f3 [.slice mb (.ro k) 0 n, .int .u32 s, .int .i64 c]) [] (retK (⟨Try.prog, G, B⟩ : Ctx) Try.f3 Q) = (
    nam ((0 : Int)) (fun y1 =>
    chk (decide (y1 = (0 : Int)) && (lOk G k n && (decide (n ≤ (9223372036854775807 : Nat)) && decide ((pieces G k (0 : Nat) n).length ≤ (140737488355328 : Nat))))) (
    tst (decide ((↑(pieces G k (0 : Nat) n).length : Int) > (100000 : Int))) (
      Q (.bool (true)) [some ⟨1, (bl (pieces G k (0 : Nat) n))⟩]) (
      chk (decide (n ≤ (9223372036854775807 : Nat)) && (((List.range n).all fun j => pieceOk G k ((0 : Nat) + j)) && ((G k).all norw && (List.range n).all fun j => (G (roK (G k) ((0 : Nat) + j))).all norw))) (
      nam (u (sum (pieces G k (0 : Nat) n))) (fun y2 =>
      nam ((0 : Int)) (fun y3 =>
      nam ((0 : Int)) (fun y4 =>
      chk (decide ((0 : Int) ≤ y4) && (decide (y4 < (4294967296 : Int)) && (decide ((pieces G k (0 : Nat) n).length ≤ (9223372036854775807 : Nat)) && okI IntKind.u8 (bl (pieces G k (0 : Nat) n)) (0 : Nat) (pieces G k (0 : Nat) n).length))) (
      nam (u (more (w32 y4) (ints (bl (pieces G k (0 : Nat) n)) (0 : Nat) (pieces G k (0 : Nat) n).length))) (fun y5 =>
      tst (y2 != y5) (
        Q (.bool (false)) [some ⟨1, (bl (pieces G k (0 : Nat) n))⟩]) (
        nam ((0 : Int)) (fun y6 =>
        nam (kNot IntKind.u32 s) (fun y7 =>
        chk (decide ((0 : Int) ≤ y7) && (decide (y7 < (4294967296 : Int)) && (decide ((pieces G k (0 : Nat) n).length ≤ (9223372036854775807 : Nat)) && okI IntKind.u8 (bl (pieces G k (0 : Nat) n)) (0 : Nat) (pieces G k (0 : Nat) n).length))) (
        nam (kNot IntKind.u32 (u (reg (w32 y7) (ints (bl (pieces G k (0 : Nat) n)) (0 : Nat) (pieces G k (0 : Nat) n).length)))) (fun y8 =>
        nam (s) (fun y9 =>
        chk (decide ((0 : Int) ≤ y9) && (decide (y9 < (4294967296 : Int)) && (decide ((pieces G k (0 : Nat) n).length ≤ (9223372036854775807 : Nat)) && okI IntKind.u8 (bl (pieces G k (0 : Nat) n)) (0 : Nat) (pieces G k (0 : Nat) n).length))) (
        tst (y8 != u (more (w32 y9) (ints (bl (pieces G k (0 : Nat) n)) (0 : Nat) (pieces G k (0 : Nat) n).length))) (
          Q (.bool (false)) [some ⟨1, (bl (pieces G k (0 : Nat) n))⟩]) (
          chk (decide ((pieces G k (0 : Nat) n).length ≤ (9223372036854775807 : Nat)) && okI IntKind.u8 (bl (pieces G k (0 : Nat) n)) (0 : Nat) (pieces G k (0 : Nat) n).length) (
          tst (!(u (sum (ints (bl (pieces G k (0 : Nat) n)) (0 : Nat) (pieces G k (0 : Nat) n).length)) == y2) == true) (
            Q (.bool (false)) [some ⟨1, (bl (pieces G k (0 : Nat) n))⟩, some ⟨1, ([AV.slice false (Ref.rw (0 : Nat)) (0 : Nat) (pieces G k (0 : Nat) n).length])⟩]) (
            chk (decide ((pieces G k (0 : Nat) n).length ≤ (9223372036854775807 : Nat)) && okI IntKind.u8 (bl (pieces G k (0 : Nat) n)) (0 : Nat) (pieces G k (0 : Nat) n).length) (
            tst (!(u (sum (ints (bl (pieces G k (0 : Nat) n)) (0 : Nat) (pieces G k (0 : Nat) n).length)) == s) == (s == y2)) (
              Q (.bool (false)) [some ⟨1, (bl (pieces G k (0 : Nat) n))⟩, some ⟨1, ([AV.slice false (Ref.rw (0 : Nat)) (0 : Nat) (pieces G k (0 : Nat) n).length])⟩, some ⟨1, ([AV.slice false (Ref.rw (0 : Nat)) (0 : Nat) (pieces G k (0 : Nat) n).length])⟩]) (
              nam ((0 : Int)) (fun y10 =>
              nam ((0 : Int)) (fun y11 =>
              chk ((pieces G k (0 : Nat) n).length.beq (pieces G k (0 : Nat) n).length && (decide (y10 = (0 : Int)) && (decide (y11 = (0 : Int)) && (okI IntKind.u8 (bl (pieces G k (0 : Nat) n)) (0 : Nat) (pieces G k (0 : Nat) n).length && (decide (ints (bl (pieces G k (0 : Nat) n)) (0 : Nat) (pieces G k (0 : Nat) n).length = pieces G k (0 : Nat) n) && ((bl (pieces G k (0 : Nat) n)).length.beq (pieces G k (0 : Nat) n).length && (lOk G k n && (decide (n ≤ (9223372036854775807 : Nat)) && decide ((pieces G k (0 : Nat) n).length ≤ (140737488355328 : Nat)))))))))) (
              nam (kXor IntKind.u32 s (4294967295 : Int)) (fun y12 =>
              nam (if c > (0 : Int) then c else (0 : Int)) (fun y13 =>
              chk (decide ((0 : Int) ≤ y12) && (decide (y12 < (4294967296 : Int)) && decide (y13 ≤ (9223372036854775807 : Int)))) (
              nam (kXor IntKind.u32 (u (zs y13.toNat (w32 y12))) (4294967295 : Int)) (fun y14 =>
              nam ((0 : Int)) (fun y15 =>
              nam (kNot IntKind.u32 s) (fun y16 =>
              nam (c) (fun y17 =>
              chk (decide ((0 : Int) ≤ y16) && (decide (y16 < (4294967296 : Int)) && decide (y17 ≤ (9223372036854775807 : Int)))) (
              nam (kNot IntKind.u32 (u (zs y17.toNat (w32 y16)))) (fun y18 =>
              tst (y18 == y14) (
                tst (decide (c > (500 : Int))) (
                  Q (.bool (true)) [some ⟨1, (bl (pieces G k (0 : Nat) n))⟩, some ⟨1, ([AV.slice false (Ref.rw (0 : Nat)) (0 : Nat) (pieces G k (0 : Nat) n).length])⟩, some ⟨1, ([AV.slice false (Ref.rw (0 : Nat)) (0 : Nat) (pieces G k (0 : Nat) n).length])⟩]) (
                  nam (s) (fun y19 =>
                  nam (c) (fun y20 =>
                  chk (decide ((0 : Int) ≤ y19) && (decide (y19 < (4294967296 : Int)) && decide (y20 ≤ (9223372036854775807 : Int)))) (
                  tst (y14 == u (~~~zs y20.toNat (~~~w32 y19))) (
                    Q (.bool (true)) [some ⟨1, (bl (pieces G k (0 : Nat) n))⟩, some ⟨1, ([AV.slice false (Ref.rw (0 : Nat)) (0 : Nat) (pieces G k (0 : Nat) n).length])⟩, some ⟨1, ([AV.slice false (Ref.rw (0 : Nat)) (0 : Nat) (pieces G k (0 : Nat) n).length])⟩]) (
                    Q (.bool (false)) [some ⟨1, (bl (pieces G k (0 : Nat) n))⟩, some ⟨1, ([AV.slice false (Ref.rw (0 : Nat)) (0 : Nat) (pieces G k (0 : Nat) n).length])⟩, some ⟨1, ([AV.slice false (Ref.rw (0 : Nat)) (0 : Nat) (pieces G k (0 : Nat) n).length])⟩])))))) (
                Q (.bool (false)) [some ⟨1, (bl (pieces G k (0 : Nat) n))⟩, some ⟨1, ([AV.slice false (Ref.rw (0 : Nat)) (0 : Nat) (pieces G k (0 : Nat) n).length])⟩, some ⟨1, ([AV.slice false (Ref.rw (0 : Nat)) (0 : Nat) (pieces G k (0 : Nat) n).length])⟩]))))))))))))))))))))))))))))))))))) := by kernel_rfl
theorem bl_okI (l : List Int) : okI .u8 (bl l) 0 l.length = true := okI_of fun j hj => by simp [isI, bl, hj]
theorem bl_ints (l : List Int) : ints (bl l) 0 l.length = l := by
  apply List.ext_getElem?
  intro j
  simp only [ints, List.getElem?_map]
  by_cases hj : j < l.length
  · rw [List.getElem?_range hj]; simp [getI, bl, hj]
  · rw [List.getElem?_eq_none (by simpa using hj), List.getElem?_eq_none (by omega)]; rfl
theorem law1 (G : Nat → List AV) (B : Nat) (k n : Nat) (mb : Bool) (x : W) (c : Int) (hc : c ≤ 9223372036854775807) (hl : lOk G k n = true) (hn : n ≤ 9223372036854775807) (ht : (pieces G k 0 n).length ≤ 140737488355328) (hw : (G k).all norw = true) (hw2 : ∀ j, j < n → (G (roK (G k) j)).all norw = true) :
    ACalls (⟨Try.prog, G, B⟩ : Ctx) 3 [.slice mb (.ro k) 0 n, .int .u32 (u x), .int .i64 c] [] fun v _ => v = .bool true := by
  refine calli (l := [7, 8, 10, 12]) (mix G B) (by kernel_rfl) (sums_cons (known_ok G B) (sums_cons (su_sum_ok G B) (sums_cons (mo_sum_ok G B) (sums_cons (far_sum_ok G B).2 (sums_cons (ze_sum_ok G B) (sums_cons (run_sum_ok G B) (sums_cons (far_sum_ok G B).1 (sums_nil _))))))))
    (loop := lps 0 (a_L G B) (b_L G B)) (fn := Try.f3) (c := bodyOf Try.f3) (by kernel_rfl) (by kernel_rfl) (by kernel_rfl) (.cast (.cons (.left (by kernel_rfl) (a_ok G B)) (.cons (.right (i := 2) (by kernel_rfl) (by kernel_rfl) (b_ok G B)) .nil)) (by kernel_rfl)) 300 ?_
  rw [law1_run]
  have hx := u_range x
  have hp : ∀ j, j < n → pieceOk G k (0 + j) = true := fun j hj => by
    obtain ⟨h1, h2, h3⟩ := lOk_get hl hj
    have hle : roN (G k) j ≤ (pieces G k 0 n).length := by
      have := pieces_mono G k n (j + 1) (by omega)
      rw [pieces_succ, List.length_append, piece_len, Nat.zero_add] at this
      omega
    simp only [pieceOk, Nat.zero_add, h1, h2, h3, Bool.true_and, Bool.and_true, decide_eq_true_eq]
    omega
  have hcx : (if c > 0 then c else 0) ≤ 9223372036854775807 := by split <;> omega
  have hct : (if c > 0 then c else 0).toNat = c.toNat := by split <;> omega
  generalize hl' : pieces G k 0 n = l at *
  simp only [tst_iff, chk_iff, nam_eq, Bool.and_eq_true, decide_eq_true_eq, decide_eq_false_iff_not, bl_okI, bl_ints, bl_length, Nat.beq_refl, kNot_u, kXor_not, w32_u, List.all_eq_true, List.mem_range, hl, hct, Nat.zero_add]
  have e0 : w32 0 = 0#32 := by decide
  refine ⟨⟨trivial, trivial, hn, ht⟩, fun _ => by trivial, fun h => ⟨⟨hn, fun j hj => by have := hp j hj; rwa [Nat.zero_add] at this, List.all_eq_true.1 hw, fun j hj => List.all_eq_true.1 (hw2 j hj)⟩, ⟨by decide, by decide, by omega, trivial⟩, ?_, ?_⟩⟩
  · intro hb
    rw [e0] at hb
    simp [sum, more] at hb
  intro _
  refine ⟨⟨(u_range _).1, (u_range _).2, by omega, trivial⟩, ⟨hx.1, hx.2, by omega, trivial⟩, fun hb => absurd rfl (bne_iff_ne.1 hb), fun _ => ⟨⟨by omega, trivial⟩, fun hb => by simp at hb, fun _ => ⟨⟨by omega, trivial⟩, fun hb => ?_, fun _ => ?_⟩⟩⟩
  · rw [u_beq, u_beq] at hb
    exfalso
    have : (sum l == x) = (x == sum l) := by rw [Bool.eq_iff_iff, beq_iff_eq, beq_iff_eq]; exact eq_comm
    rw [this] at hb
    simp at hb
  · refine ⟨⟨trivial, trivial, trivial, trivial, trivial, trivial, trivial, hn, ht⟩, ⟨(u_range _).1, (u_range _).2, hcx⟩, ⟨(u_range _).1, (u_range _).2, hc⟩, fun _ => ⟨fun _ => by trivial, fun _ => ⟨⟨hx.1, hx.2, hc⟩, fun _ => by trivial, fun hb => ?_⟩⟩, fun hb => ?_⟩
    · simp at hb
    · simp at hb
end Go.Am
