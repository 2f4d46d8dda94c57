/-
  WireBack: the law's call.
-/
import Derived.Test.YtcodkoholbmkkaaWrK
import Derived.Test.YtcodkoholbmkkaaWrP
import Derived.Test.YtcodkoholbmkkaaWrY
namespace Go.Am
open Go.Proofs
set_option maxRecDepth 100000
set_option maxHeartbeats 2000000

theorem rd_of {s : List AV} {a v j : Nat} {k : IntKind} (h : wrd s a = some (v, j)) : rdVU [.agg s, .int k (a : Int)] = (v : Int) ∧ rdEU [.agg s, .int k (a : Int)] = 0 ∧ rdAU [.agg s, .int k (a : Int)] = ((a + j : Nat) : Int) := by
  simp [rdVU, rdEU, rdAU, h]
theorem foldI_nn (m : Int) (h : -9223372036854775808 ≤ m ∧ m ≤ 9223372036854775807) : 0 ≤ foldI m ∧ foldI m ≤ 18446744073709551615 := by
  unfold foldI; split <;> omega
theorem kXor0 {x : Int} (h : 0 ≤ x ∧ x ≤ 9223372036854775807) : kXor .i64 x 0 = x := by
  show IntKind.i64.wrap (((BitVec.ofInt 64 x ^^^ BitVec.ofInt 64 0).toNat : Nat) : Int) = x
  have e : BitVec.ofInt 64 0 = 0#64 := by decide
  rw [e, BitVec.xor_zero, BitVec.toNat_ofInt]
  have : (x % (2 ^ 64 : Nat)).toNat = x.toNat := by omega
  rw [this, i64_in (by omega)]; omega
theorem i64_high {n : Int} (h : 9223372036854775808 ≤ n ∧ n ≤ 18446744073709551615) : IntKind.i64.wrap n = n - 18446744073709551616 := by
  have e : n % 18446744073709551616 = n := by omega
  simp only [IntKind.wrap, IntKind.signed, IntKind.bits, Bool.true_and]
  simp [e]
  omega
theorem kXorM {x : Int} (h : 0 ≤ x ∧ x ≤ 9223372036854775807) : kXor .i64 x (-1) = -x - 1 := by
  show IntKind.i64.wrap (((BitVec.ofInt 64 x ^^^ BitVec.ofInt 64 (-1)).toNat : Nat) : Int) = -x - 1
  have e : BitVec.ofInt 64 (-1) = BitVec.allOnes 64 := by decide
  rw [e, BitVec.xor_allOnes, BitVec.toNat_not, BitVec.toNat_ofInt]
  have : (x % (2 ^ 64 : Nat)).toNat = x.toNat := by omega
  rw [this, i64_high (by omega)]
  omega
theorem kAnd1 {u : Int} (h : 0 ≤ u ∧ u ≤ 18446744073709551615) : kAnd .u64 u 1 = u % 2 := by
  show IntKind.u64.wrap (((BitVec.ofInt 64 u &&& BitVec.ofInt 64 1).toNat : Nat) : Int) = u % 2
  have e : (BitVec.ofInt 64 1).toNat = 1 := by decide
  rw [BitVec.toNat_and, e, Nat.and_one_is_mod, BitVec.toNat_ofInt]
  have : (u % (2 ^ 64 : Nat)).toNat = u.toNat := by omega
  rw [this, u64_in (by omega)]; omega
theorem kShr1 {u : Int} (h : 0 ≤ u ∧ u ≤ 18446744073709551615) : kShr .u64 u 1 = u / 2 := by
  unfold kShr
  have : (2 : Int) ^ (min (1 : Int).toNat IntKind.u64.bits) = 2 := by decide
  rw [this, Int.fdiv_eq_ediv_of_nonneg _ (by omega)]
theorem unfold_fold {m : Int} (h : -9223372036854775808 ≤ m ∧ m ≤ 9223372036854775807) :
    kXor .i64 (IntKind.wrap .i64 (kShr .u64 (foldI m) 1)) (IntKind.wrap .i64 (0 - (IntKind.wrap .i64 (kAnd .u64 (foldI m) 1)))) = m := by
  have hf := foldI_nn m h
  rw [kAnd1 hf, kShr1 hf]
  unfold foldI at hf ⊢
  split
  · rename_i hm
    rw [if_pos hm] at hf
    have e1 : (2 * (-(m + 1)) + 1) / 2 = -(m + 1) := by omega
    have e2 : (2 * (-(m + 1)) + 1) % 2 = 1 := by omega
    rw [e1, e2, i64_in (by omega), i64_in (n := 1) (by omega), i64_in (n := 0 - 1) (by omega), show (0 - 1 : Int) = -1 from rfl, kXorM (by omega)]
    omega
  · rename_i hm
    rw [if_neg hm] at hf
    have e1 : (2 * m) / 2 = m := by omega
    have e2 : (2 * m) % 2 = 0 := by omega
    rw [e1, e2, i64_in (by omega), i64_in (n := 0) (by omega), show (0 - 0 : Int) = 0 from rfl, i64_in (n := 0) (by omega), kXor0 (by omega)]
theorem b8s_bytes : ∀ (a : List UInt8), b8s (bytesL a) = true
  | [] => rfl
  | x :: a => by
    have := b8s_bytes a
    have hx := x.toNat_lt
    simp only [b8s, bytesL, List.map_cons, List.all_cons, Bool.and_eq_true, b8, decide_eq_true_eq] at this ⊢
    exact ⟨by omega, this⟩
theorem b8s_append (a b : List AV) : b8s (a ++ b) = (b8s a && b8s b) := by simp [b8s]
theorem b8s_sub {l : List AV} (h : b8s l = true) (o n : Nat) : b8s (subL l o n) = true := by
  simp only [b8s, List.all_eq_true, subL] at h ⊢
  intro v hv
  exact h v (List.mem_of_mem_drop (List.mem_of_mem_take hv))
theorem b8s_flag (b : Bool) : b8s ([.int .u8 (flagI [.bool b])] : List AV) = true := by cases b <;> rfl
theorem okRd_of {l : List AV} {a : Nat} (hb : b8s l = true) (hl : l.length ≤ 1099511627776) (ha : a ≤ l.length) : okRdU [.agg l, .ptr (.rw 0) l.length, .int .i64 (a : Int)] = true :=
  okRd_iff.2 ⟨hb, rfl, by omega, by omega, by omega⟩
/-- bytes that are whole are read -/
theorem rb_of {l : List AV} {a v j m : Nat} (h : wrd l a = some (v, j)) (hm : v ≤ m) (hl : a + j + v ≤ l.length) :
    rbEU [.agg l, .ptr (.rw 0) l.length, .int .i64 (a : Int), .int .i64 (m : Int)] = 0 ∧ rbNU [.agg l, .ptr (.rw 0) l.length, .int .i64 (a : Int), .int .i64 (m : Int)] = v ∧
      rbCU [.agg l, .ptr (.rw 0) l.length, .int .i64 (a : Int), .int .i64 (m : Int)] = subL l (a + j) v ∧ rbAU [.agg l, .ptr (.rw 0) l.length, .int .i64 (a : Int), .int .i64 (m : Int)] = ((a + j + v : Nat) : Int) := by
  obtain ⟨g1, g2, g3⟩ := rd_of (k := .i64) h
  have hok : rbOk l l.length (a : Int) (m : Int) = true := by simp only [rbOk, g1, g2, g3, Bool.and_eq_true, decide_eq_true_eq, true_and]; omega
  simp only [rbEU, rbNU, rbCU, rbAU, hok, g1, g2, g3, if_true]
  refine ⟨by rw [if_pos (by omega), if_pos (by omega)], by omega, by rw [show ((v : Int)).toNat = v by omega, show (((a + j : Nat) : Int)).toNat = a + j by omega], by omega⟩
theorem rf_of {l : List AV} {a : Nat} {b : Bool} (h : l[a]? = some (.int .u8 (flagI [.bool b]))) :
    rfVU [.agg l, .int .i64 (a : Int)] = b ∧ rfEU [.agg l, .int .i64 (a : Int)] = 0 ∧ rfAU [.agg l, .int .i64 (a : Int)] = ((a + 1 : Nat) : Int) := by
  obtain ⟨h1, _⟩ := List.getElem?_eq_some_iff.1 h
  have e : getI l a = flagI [.bool b] := by simp [getI, h]
  have hok : rfOk l a = true := by
    simp only [rfOk, e, Bool.and_eq_true, decide_eq_true_eq]
    exact ⟨h1, by cases b <;> simp [flagI]⟩
  simp only [rfVU, rfEU, rfAU, show ((a : Int)).toNat = a by omega, hok, e, if_true, Bool.true_and, true_and]
  refine ⟨by cases b <;> rfl, by omega⟩
/-- a form that is cut short is refused -/
theorem rb_short {l : List AV} {m : Nat} (h : ∀ v j, wrd l 0 = some (v, j) → v ≤ m ∧ l.length < j + v) : rbEU [.agg l, .ptr (.rw 0) l.length, .int .i64 0, .int .i64 (m : Int)] = 4 := by
  cases hw : wrd l 0 with
  | none =>
    have : rdEU [.agg l, .int .i64 0] = 4 := by simp [rdEU, hw]
    simp [rbEU, this]
  | some p =>
    obtain ⟨v, j⟩ := p
    obtain ⟨g1, g2, g3⟩ := rd_of (k := .i64) hw
    obtain ⟨g4, g5⟩ := h v j hw
    simp only [Int.natCast_zero] at g1 g2 g3
    simp only [rbEU, g1, g2, g3, if_true]
    rw [if_pos (by omega), if_neg (by omega)]
theorem rb_cases {l : List AV} {m : Nat} : (∃ v j, wrd l 0 = some (v, j) ∧ v ≤ m ∧ j + v ≤ l.length) ∨
    ((rbEU [.agg l, .ptr (.rw 0) l.length, .int .i64 0, .int .i64 (m : Int)] = 3 ∨ rbEU [.agg l, .ptr (.rw 0) l.length, .int .i64 0, .int .i64 (m : Int)] = 4) ∧ rbAU [.agg l, .ptr (.rw 0) l.length, .int .i64 0, .int .i64 (m : Int)] = 0) := by
  cases hw : wrd l 0 with
  | none =>
    have : rdEU [.agg l, .int .i64 0] = 4 := by simp [rdEU, hw]
    right
    simp [rbEU, rbAU, rbOk, this]
  | some p =>
    obtain ⟨v, j⟩ := p
    obtain ⟨g1, g2, g3⟩ := rd_of (k := .i64) hw
    simp only [Int.natCast_zero] at g1 g2 g3
    by_cases h : v ≤ m ∧ j + v ≤ l.length
    · exact .inl ⟨v, j, rfl, h.1, h.2⟩
    · right
      have hok : rbOk l l.length 0 (m : Int) = false := by
        simp only [rbOk, g1, g2, g3, Bool.and_eq_false_iff, decide_eq_false_iff_not]
        omega
      simp only [rbEU, rbAU, g1, g2, g3, if_true, hok, Bool.false_eq_true, if_false, and_true]
      by_cases h1 : v ≤ m
      · rw [if_pos (by omega), if_neg (by omega)]; exact .inr rfl
      · rw [if_neg (by omega)]; exact .inl rfl
abbrev bkS (G : Nat → List AV) (n m : Int) (b : Bool) (k5 n5 : Nat) : List AV := ((bytesL (nformU [.int .u64 n]) ++ bytesL (nformU [.int .u64 (foldU [.int .i64 m])])) ++ (bytesL (nformU [.int .u64 ((n5 : Nat) : Int)]) ++ G k5)) ++ ([.int .u8 (flagI [.bool b])] : List AV)
theorem bk_call (G : Nat → List AV) (B : Nat) (n m : Int) (b : Bool) (k5 n5 k n7 : Nat) (hn : inU64 [.int .u64 n] = true) (hm : inI64 [.int .i64 m] = true) (hl5 : (G k5).length = n5) (hu5 : b8s (G k5) = true) (h5 : n5 ≤ 1048576)
    (hl : (G k).length = n7) (hu : b8s (G k) = true) (h7 : n7 ≤ 1048576) :
    ACalls (⟨Try.prog, G, B⟩ : Ctx) 4 [.agg [.int .u64 n, .int .i64 m, .bool b, .slice true (.ro k5) 0 n5], .slice true (.ro k) 0 n7] [] fun v _ => v = .bool true := by
  have key := dlaw_ok (C := (⟨Try.prog, G, B⟩ : Ctx)) (f := 4) (R := fun v _ => v = .bool true) (dgood (inl := [19, 21, 24, 25, 26, 38]) (mix G B) (by kernel_rfl) (progK_ok G B) .nil) (by kernel_rfl) (by kernel_rfl) (by kernel_rfl) (fuel := 600) (n0 := 30) (args := [.agg (.of [.int .u64 (.var 1 n), .int .i64 (.var 2 m), .bool (.var 3 b), .slice true (.ro (.var 4 k5)) (.lit 0) (.var 5 n5)]), .slice true (.ro (.var 6 k)) (.lit 0) (.var 7 n7)]) (H := []) (by
    rw [bk_run]
    obtain ⟨en, hn'⟩ := inU64_eq hn
    have hm' : -9223372036854775808 ≤ m ∧ m ≤ 9223372036854775807 := by simpa [inI64] using hm
    have hf := foldI_nn m hm'
    -- what is written
    have e1 : subL (G k5) 0 n5 = G k5 := subL_all hl5
    have ln := nformU_len [.int .u64 n]
    have lm := nformU_len [.int .u64 (foldU [.int .i64 m])]
    have l5 := nformU_len [.int .u64 ((n5 : Nat) : Int)]
    have bl : ∀ a, (bytesL a).length = a.length := bytesL_length
    have hu5' := b8s_u8 hu5
    obtain ⟨S, hS⟩ : ∃ S, S = bkS G n m b k5 n5 := ⟨_, rfl⟩
    have hSb : b8s S = true := by rw [hS]; simp [bkS, b8s_append, b8s_bytes, hu5, b8s_flag]
    have hSl : S.length = (nformU [.int .u64 n]).length + (nformU [.int .u64 (foldU [.int .i64 m])]).length + ((nformU [.int .u64 ((n5 : Nat) : Int)]).length + n5) + 1 := by rw [hS]; simp [bkS, bl, hl5]; omega
    have w1 : wrd S 0 = some (n.toNat, (nformU [.int .u64 n]).length) := wrd_form (r := bytesL (nformU [.int .u64 (foldU [.int .i64 m])]) ++ ((bytesL (nformU [.int .u64 ((n5 : Nat) : Int)]) ++ G k5) ++ ([.int .u8 (flagI [.bool b])] : List AV))) hn' (by rw [hS]; simp only [bkS, List.append_assoc, List.drop_zero]; rfl)
    have w2 : wrd S (nformU [.int .u64 n]).length = some ((foldI m).toNat, (nformU [.int .u64 (foldU [.int .i64 m])]).length) := wrd_form (r := (bytesL (nformU [.int .u64 ((n5 : Nat) : Int)]) ++ G k5) ++ ([.int .u8 (flagI [.bool b])] : List AV)) (by omega) (by
      rw [hS]; simp only [bkS, List.append_assoc]; rw [List.drop_append, List.drop_of_length_le (by rw [bl]; omega), bl, Nat.sub_self]; rfl)
    have w3 : wrd S ((nformU [.int .u64 n]).length + (nformU [.int .u64 (foldU [.int .i64 m])]).length) = some (n5, (nformU [.int .u64 ((n5 : Nat) : Int)]).length) := wrd_form (r := G k5 ++ ([.int .u8 (flagI [.bool b])] : List AV)) (by omega) (by
      rw [hS]; simp only [bkS]; rw [List.append_assoc, List.drop_append, List.drop_of_length_le (by simp [bl]), List.length_append, bl, bl, Nat.sub_self, List.append_assoc]; rfl)
    have w4 : S[(nformU [.int .u64 n]).length + (nformU [.int .u64 (foldU [.int .i64 m])]).length + (nformU [.int .u64 ((n5 : Nat) : Int)]).length + n5]? = some (.int .u8 (flagI [.bool b])) := by
      rw [hS]; simp only [bkS]; rw [List.getElem?_append_right (by simp [bl, hl5]; omega)]
      have : (nformU [.int .u64 n]).length + (nformU [.int .u64 (foldU [.int .i64 m])]).length + (nformU [.int .u64 ((n5 : Nat) : Int)]).length + n5 - (bytesL (nformU [.int .u64 n]) ++ bytesL (nformU [.int .u64 (foldU [.int .i64 m])]) ++ (bytesL (nformU [.int .u64 ((n5 : Nat) : Int)]) ++ G k5)).length = 0 := by simp [bl, hl5]; omega
      rw [this]; rfl
    obtain ⟨a1, a2, a3⟩ := rd_of (k := .i64) w1
    simp only [Int.natCast_zero, Nat.zero_add] at a1 a2 a3
    rw [← en] at a1
    obtain ⟨b1, b2, b3⟩ := rd_of (k := .i64) w2
    rw [show (((foldI m).toNat : Nat) : Int) = foldI m by omega] at b1
    obtain ⟨c1, c2, c3, c4⟩ := rb_of (m := n5) w3 (Nat.le_refl _) (by omega)
    obtain ⟨d1, d2, d3⟩ := rf_of w4
    have c5 : subL S ((nformU [.int .u64 n]).length + (nformU [.int .u64 (foldU [.int .i64 m])]).length + (nformU [.int .u64 ((n5 : Nat) : Int)]).length) n5 = G k5 := by
      rw [hS]; simp only [bkS]
      simp only [subL, List.append_assoc]
      rw [← List.append_assoc, ← List.append_assoc, List.drop_append, List.drop_of_length_le (by simp [bl]; omega)]
      have : (nformU [.int .u64 n]).length + (nformU [.int .u64 (foldU [.int .i64 m])]).length + (nformU [.int .u64 ((n5 : Nat) : Int)]).length - (bytesL (nformU [.int .u64 n]) ++ bytesL (nformU [.int .u64 (foldU [.int .i64 m])]) ++ bytesL (nformU [.int .u64 ((n5 : Nat) : Int)])).length = 0 := by simp [bl]; omega
      rw [this]; simp [← hl5]
    have uf := unfold_fold hm'
    have eS : subL S 0 S.length = S := subL_all rfl
    have ok0 : okRdU [.agg S, .ptr (.rw 0) S.length, .int .i64 0] = true := okRd_of (a := 0) hSb (by omega) (by omega)
    have ok1 := okRd_of (a := (nformU [.int .u64 n]).length) hSb (by omega) (by omega)
    have ok2 := okRd_of (a := (nformU [.int .u64 n]).length + (nformU [.int .u64 (foldU [.int .i64 m])]).length) hSb (by omega) (by omega)
    have ok3 := okRd_of (a := (nformU [.int .u64 n]).length + (nformU [.int .u64 (foldU [.int .i64 m])]).length + (nformU [.int .u64 ((n5 : Nat) : Int)]).length + n5) hSb (by omega) (by omega)
    have hSu := u8s_cells (b8s_u8 hSb)
    have hku := b8s_u8 hu
    have e2 : subL (G k) 0 n7 = G k := subL_all hl
    have hkc := u8s_cells hku
    have okk : okRdU [.agg (G k), .ptr (.rw 0) n7, .int .i64 0] = true := by rw [← hl]; exact okRd_of (a := 0) hu (by omega) (by omega)
    have eJ := hS.symm
    simp only [bkS] at eJ
    have ef : foldU [.int .i64 m] = foldI m := rfl
    have bl1 : ∀ x : Int, (bytesL (nformU [.int .u64 x])).length = (nformU [.int .u64 x]).length := fun _ => bytesL_length _
    have g5 : subL (G k5) 0 (G k5).length = G k5 := subL_all rfl
    have wS1 : IntKind.i64.wrap ((S.length : Int) + 1) = (S.length : Int) + 1 := i64_in (by omega)
    have wS2 : IntKind.i64.wrap ((S.length : Int) - (((nformU [.int .u64 n]).length + (nformU [.int .u64 (foldU [.int .i64 m])]).length + (nformU [.int .u64 ((n5 : Nat) : Int)]).length + n5 + 1 : Nat) : Int)) = 0 := by rw [hSl, i64_in (by omega)]; omega
    have wn1 : IntKind.i64.wrap ((n7 : Int) + 1) = (n7 : Int) + 1 := i64_in (by omega)
    have wn0 : IntKind.i64.wrap ((n7 : Int) - 0) = (n7 : Int) := by rw [i64_in (by omega)]; omega
    have w0 : IntKind.i64.wrap 0 = 0 := i64_in (by omega)
    have w4 : IntKind.i64.wrap 4 = 4 := i64_in (by omega)
    have gt0 : decide ((0 : Int) > 0) = false := rfl
    have hlS : leB S.length S.length = true := leB_iff.2 (Nat.le_refl _)
    have hb5 : Nat.beq ((nformU [.int .u64 ((n5 : Nat) : Int)]).length + n5) ((nformU [.int .u64 ((n5 : Nat) : Int)]).length + n5) = true := Nat.beq_refl _
    rcases rb_cases (l := G k) (m := n7) with ⟨v, j, q1, q2, q3⟩ | ⟨q1, q2⟩
    · obtain ⟨p1, p2, p3⟩ := wrd_back hu q1
      obtain ⟨r1, r2, r3, r4⟩ := rb_of (m := n7) q1 q2 (by omega)
      simp only [Int.natCast_zero, Nat.zero_add] at r1 r2 r3 r4
      rw [hl] at r1 r2 r3 r4
      have ej : nformU [.int .u64 ((v : Nat) : Int)] = nform v := by simp [nformU]
      have hj1 : 1 ≤ j := by
        have : nform v ≠ [] := nfd_ne
        have := List.length_pos_iff.2 this
        omega
      have hjb : j ≤ 10 := by have := nform_len v; omega
      have sl : ∀ o n, o + n ≤ n7 → (subL (G k) o n).length = n := fun o n h => by simp [subL, hl]; omega
      have eC : subL (subL (G k) j v) 0 v = subL (G k) j v := subL_all (sl _ _ (by omega))
      have eT : bytesL (nform v) ++ subL (G k) j v = subL (G k) 0 (j + v) := by
        rw [← p1]; simp only [subL, List.drop_zero]; rw [List.take_add]
      have eT2 : subL (subL (G k) 0 (j + v)) 0 (j + v) = subL (G k) 0 (j + v) := subL_all (sl _ _ (by omega))
      have eW : Int.toNat (IntKind.i64.wrap (((j + v : Nat) : Int) - 1)) = j + v - 1 := by rw [i64_in (by omega)]; omega
      have eW1 : IntKind.i64.wrap (((j + v : Nat) : Int) - 1) = ((j + v - 1 : Nat) : Int) := by rw [i64_in (by omega)]; omega
      have eW2 : IntKind.i64.wrap (((j + v - 1 : Nat) : Int) + 1) = ((j + v : Nat) : Int) := by rw [i64_in (by omega)]; omega
      have eW3 : IntKind.i64.wrap ((n7 : Int) - IntKind.i64.wrap ((n7 : Int) - ((j + v : Nat) : Int))) = ((j + v : Nat) : Int) := by rw [i64_in (n := (n7 : Int) - ((j + v : Nat) : Int)) (by omega), i64_in (by omega)]; omega
      have eU : subL (subL (G k) 0 (j + v)) 0 (j + v - 1) = subL (G k) 0 (j + v - 1) := by simp only [subL, List.drop_zero, List.take_take]; congr 1; omega
      have lU := sl 0 (j + v - 1) (by omega)
      have bU : b8s (subL (G k) 0 (j + v - 1)) = true := b8s_sub hu _ _
      have okU : okRdU [.agg (subL (G k) 0 (j + v - 1)), .ptr (.rw 0) (j + v - 1), .int .i64 0] = true := by
        have := okRd_of (a := 0) bU (by omega) (by omega)
        rw [lU] at this; exact this
      have sU := rb_short (l := subL (G k) 0 (j + v - 1)) (m := n7) (fun v' j' hw => by
        rcases Nat.eq_zero_or_pos v with h0 | h0
        · subst h0
          have : j = 1 := by rw [p2]; rfl
          subst this
          have : wrd (subL (G k) 0 (1 + 0 - 1)) 0 = none := by simp [subL, wrd, wrdF]
          rw [this] at hw; cases hw
        · have : wrd (subL (G k) 0 (j + v - 1)) 0 = some (v, (nform v).length) := wrd_form (r := subL (G k) j (v - 1)) p3 (by
            rw [List.drop_zero, ← p1]; simp only [subL, List.drop_zero]; rw [← List.take_add]; congr 1; omega)
          rw [this] at hw
          simp only [Option.some.injEq, Prod.mk.injEq] at hw
          rw [lU]; omega)
      rw [lU] at sU
      have uC : u8s (subL (G k) j v) = true := b8s_u8 (b8s_sub hu _ _)
      have uT : u8s (subL (G k) 0 (j + v)) = true := b8s_u8 (b8s_sub hu _ _)
      have cU : cellsB (subL (G k) 0 (j + v - 1)) = true := u8s_cells (b8s_u8 bU)
      have lT := sl 0 (j + v) (by omega)
      have lC := sl j v (by omega)
      have lD : (nform v).length = j := p2.symm
      simp only [e1, eJ, eS, a1, a2, a3, b1, b2, b3, c1, c2, c3, c4, c5, d1, d2, d3, uf, ok0, ok1, ok2, ok3, hSu, hku, hkc, e2, okk, hn, hm, hu5', beq_self_eq_true, bigF, wS1, wS2, wn1, wn0, w0, w4, gt0, Int.add_zero, Int.zero_add, Int.mul_one, leB_iff, decide_eq_true_eq, bl1, u8s_append, u8s_bytes, u8s_flag, hl, hl5, hlS, List.length_append, List.length_cons, List.length_nil, Nat.beq_refl, Bool.and_self, true_and, and_true, r1, r2, r3, r4, ej, eC, eT, eT2, lT, lC, lD, eW, eW1, eW2, eW3, eU, okU, sU, uC, uT, cU, Int.toNat_natCast]
      repeat' first | refine And.intro ?_ ?_ | intro _
      all_goals first
        | omega
        | trivial
        | (rename_i q; simp at q; done)
        | (rename_i p q; rw [p] at q; cases q)
    · rw [hl] at q1 q2
      simp only [e1, eJ, eS, a1, a2, a3, b1, b2, b3, c1, c2, c3, c4, c5, d1, d2, d3, uf, ok0, ok1, ok2, ok3, hSu, hku, hkc, e2, okk, hn, hm, hu5', q2, beq_self_eq_true, bigF, wS1, wS2, wn1, wn0, w0, w4, gt0, Int.add_zero, Int.zero_add, Int.mul_one, leB_iff, decide_eq_true_eq, bl1, u8s_append, u8s_bytes, u8s_flag, hl, hl5, hlS, List.length_append, List.length_cons, List.length_nil, Nat.beq_refl, Bool.and_self, true_and, and_true]
      have hE : decide (rbEU [.agg (G k), .ptr (.rw 0) n7, .int .i64 0, .int .i64 (n7 : Int)] > 2) = true := decide_eq_true (by omega)
      have hE2 : (rbEU [.agg (G k), .ptr (.rw 0) n7, .int .i64 0, .int .i64 (n7 : Int)] == 0) = false := by
        rcases q1 with q1 | q1 <;> rw [q1] <;> rfl
      simp only [hE2]
      repeat' first | refine And.intro ?_ ?_ | intro _
      all_goals first
        | omega
        | trivial
        | (rename_i q; simp [hE] at q; done)
        | (rename_i p q; rw [p] at q; cases q))
  simp only [vVs, vV, vR, vN, vI, vL, vB, vHp, List.map_nil] at key
  exact key
end Go.Am
