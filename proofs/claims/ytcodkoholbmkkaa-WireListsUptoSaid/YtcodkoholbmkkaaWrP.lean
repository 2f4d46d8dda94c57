/-
  Wire, plainly: what was written is read; what is read has the form.
-/
import Derived.Test.YtcodkoholbmkkaaWrQ
namespace Go.Am
open Go.Proofs
set_option maxRecDepth 100000

theorem getI_drop {s : List AV} {a : Nat} {k : IntKind} {n : Int} {r : List AV} (h : s.drop a = .int k n :: r) : a < s.length ∧ getI s a = n ∧ s.drop (a + 1) = r := by
  have h1 : s[a]? = some (.int k n) := by
    have := congrArg (fun l : List AV => l[0]?) h
    simpa [List.getElem?_drop] using this
  have h2 : a < s.length := by
    have := (List.getElem?_eq_some_iff.1 h1).1; exact this
  refine ⟨h2, by simp [getI, h1], ?_⟩
  have h3 := List.drop_drop (i := 1) (j := a) (l := s)
  rw [← h3, h]; rfl
/-- what was written is read -/
theorem wrdF_form {s : List AV} {t : Nat} : ∀ (f k v : Nat) (r : List AV), f + k = 10 → v * 128 ^ k ≤ 18446744073709551615 → v < 128 ^ f → (0 < k → 0 < v) → s.drop (t + k) = bytesL (nfd f v) ++ r → wrdF s t f k = some (v, (nfd f v).length)
  | 0, k, v, r, _, _, hv, h0, _ => by
    simp at hv
    omega
  | f + 1, k, v, r, hk, hb, hv, h0, hs => by
    rw [wrdF]
    by_cases hl : v < 128
    · rw [nfd_low hl, bytesL_one (by omega)] at hs
      obtain ⟨g1, g2, g3⟩ := getI_drop hs
      rw [g2, if_pos g1]
      have : ¬ ((k = 9 ∧ 1 < ((v : Nat) : Int).toNat) ∨ (0 < k ∧ ((v : Nat) : Int).toNat = 0)) := by
        rintro (⟨rfl, h⟩ | ⟨h, h'⟩)
        · have e : 128 ^ 9 = 9223372036854775808 := by decide
          rw [e] at hb; omega
        · have := h0 h; omega
      rw [if_neg this, if_pos (by omega), nfd_low hl]
      simp
    · rw [nfd_high hl] at hs ⊢
      have hs' : s.drop (t + k) = .int .u8 ((v % 128 + 128 : Nat) : Int) :: (bytesL (nfd f (v / 128)) ++ r) := by
        rw [hs, show UInt8.ofNat (v % 128 + 128) :: nfd f (v / 128) = [UInt8.ofNat (v % 128 + 128)] ++ nfd f (v / 128) from rfl, bytesL_append, bytesL_one (by omega)]
        rfl
      obtain ⟨g1, g2, g3⟩ := getI_drop hs'
      rw [g2, if_pos g1]
      have : ¬ ((k = 9 ∧ 1 < ((v % 128 + 128 : Nat) : Int).toNat) ∨ (0 < k ∧ ((v % 128 + 128 : Nat) : Int).toNat = 0)) := by
        rintro (⟨rfl, h⟩ | ⟨h, h'⟩)
        · have e : 128 ^ 9 = 9223372036854775808 := by decide
          rw [e] at hb; omega
        · omega
      rw [if_neg this, if_neg (by omega)]
      have hp : v / 128 * 128 ^ (k + 1) ≤ v * 128 ^ k := by
        rw [Nat.pow_succ, Nat.mul_comm (128 ^ k) 128, ← Nat.mul_assoc]
        exact Nat.mul_le_mul (Nat.div_mul_le_self v 128) (Nat.le_refl _)
      have := wrdF_form f (k + 1) (v / 128) r (by omega) (by omega) (by rw [Nat.div_lt_iff_lt_mul (by omega)]; rw [Nat.pow_succ] at hv; exact hv) (fun _ => by omega) (by rw [← Nat.add_assoc]; exact g3)
      rw [this]
      simp only [Option.map_some, List.length_cons, Option.some.injEq, Prod.mk.injEq, and_true]
      omega
theorem wrd_form {s : List AV} {t v : Nat} {r : List AV} (hv : v ≤ 18446744073709551615) (hs : s.drop t = bytesL (nform v) ++ r) : wrd s t = some (v, (nform v).length) :=
  wrdF_form 10 0 v r rfl (by simpa using hv) (by have := pow_le; omega) (fun h => absurd h (by omega)) (by rw [Nat.add_zero]; exact hs)
theorem b8s_at {s : List AV} (h : b8s s = true) {i : Nat} (hi : i < s.length) : ∃ n : Nat, n < 256 ∧ s[i]? = some (.int .u8 (n : Int)) ∧ getI s i = n := by
  obtain ⟨g1, g2, g3⟩ := b8s_get h hi
  simp only [isI, getI] at g1 g2 g3
  split at g1
  · rename_i k n hn
    rw [hn] at g2 g3
    simp only at g2 g3
    refine ⟨n.toNat, by omega, ?_, ?_⟩
    · rw [hn, ← eq_of_beq g1]; congr 2; omega
    · simp only [getI, hn]; omega
  · simp at g1
theorem drop_cons {s : List AV} {i : Nat} {v : AV} (h : s[i]? = some v) : s.drop i = v :: s.drop (i + 1) := by
  obtain ⟨h1, h2⟩ := List.getElem?_eq_some_iff.1 h
  rw [List.drop_eq_getElem_cons h1, h2]
/-- what is read has the form -/
theorem wrdF_back {s : List AV} {t : Nat} (hb : b8s s = true) : ∀ (f k v j : Nat), f + k = 10 → wrdF s t f k = some (v, j) → subL s (t + k) j = bytesL (nfd f v) ∧ j = (nfd f v).length ∧ v * 128 ^ k ≤ 18446744073709551615 ∧ (0 < k → 0 < v)
  | 0, k, v, j, _, h => by simp [wrdF] at h
  | f + 1, k, v, j, hk, h => by
    rw [wrdF] at h
    split at h
    · rename_i hl
      obtain ⟨c, hc, hg, hi⟩ := b8s_at hb hl
      have e : (getI s (t + k)).toNat = c := by rw [hi]; omega
      rw [e] at h
      have e9 : 128 ^ 9 = 9223372036854775808 := by decide
      split at h
      · simp at h
      · rename_i hbad
        split at h
        · rename_i hlow
          simp only [Option.some.injEq, Prod.mk.injEq] at h
          obtain ⟨rfl, rfl⟩ := h
          rw [nfd_low hlow, bytesL_one hc]
          refine ⟨by simp only [subL, drop_cons hg]; simp, rfl, ?_, fun h => by omega⟩
          by_cases h9 : k = 9
          · subst h9; rw [e9]; omega
          · have := pow8 (k := k) (by omega)
            have : c * 128 ^ k ≤ 127 * 72057594037927936 := Nat.mul_le_mul (by omega) this
            omega
        · rename_i hhigh
          cases hr : wrdF s t f (k + 1) with
          | none => rw [hr] at h; simp at h
          | some p =>
            obtain ⟨v', j'⟩ := p
            rw [hr] at h
            simp only [Option.map_some, Option.some.injEq, Prod.mk.injEq] at h
            obtain ⟨rfl, rfl⟩ := h
            obtain ⟨g1, g2, g3, g4⟩ := wrdF_back hb f (k + 1) v' j' (by omega) hr
            have hv' := g4 (by omega)
            have hn : ¬ c % 128 + 128 * v' < 128 := by omega
            have q1 : (c % 128 + 128 * v') / 128 = v' := by omega
            have q2 : (c % 128 + 128 * v') % 128 + 128 = c := by omega
            rw [nfd_high hn, q1, q2]
            refine ⟨?_, by simp [g2], ?_, fun _ => by omega⟩
            · rw [show UInt8.ofNat c :: nfd f v' = [UInt8.ofNat c] ++ nfd f v' from rfl, bytesL_append, bytesL_one hc, ← g1]
              simp only [subL, drop_cons hg, List.take_succ_cons, Nat.add_assoc]
              rfl
            · have h8 : k ≤ 8 := by
                rcases Nat.lt_or_ge k 9 with h | h
                · omega
                · have : k = 9 := by
                    have : f = 0 ∨ 0 < f := by omega
                    rcases this with rfl | hf
                    · omega
                    · omega
                  subst this
                  exact absurd (Or.inl ⟨rfl, by omega⟩) hbad
              have hdvd : ∃ q, 18446744073709551616 = q * 128 ^ (k + 1) := by
                have : k = 0 ∨ k = 1 ∨ k = 2 ∨ k = 3 ∨ k = 4 ∨ k = 5 ∨ k = 6 ∨ k = 7 ∨ k = 8 := by omega
                rcases this with rfl | rfl | rfl | rfl | rfl | rfl | rfl | rfl | rfl
                · exact ⟨144115188075855872, by decide⟩
                · exact ⟨1125899906842624, by decide⟩
                · exact ⟨8796093022208, by decide⟩
                · exact ⟨68719476736, by decide⟩
                · exact ⟨536870912, by decide⟩
                · exact ⟨4194304, by decide⟩
                · exact ⟨32768, by decide⟩
                · exact ⟨256, by decide⟩
                · exact ⟨2, by decide⟩
              obtain ⟨q, hq⟩ := hdvd
              have hlt : v' < q := by
                rcases Nat.lt_or_ge v' q with h | h
                · exact h
                · have := Nat.mul_le_mul h (Nat.le_refl (128 ^ (k + 1)))
                  omega
              have h1 : (v' + 1) * 128 ^ (k + 1) ≤ 18446744073709551616 := by rw [hq]; exact Nat.mul_le_mul hlt (Nat.le_refl _)
              rw [Nat.add_mul, Nat.one_mul] at h1
              have h2 : c % 128 * 128 ^ k ≤ 127 * 128 ^ k := Nat.mul_le_mul (by omega) (Nat.le_refl _)
              have e3 : 128 * v' * 128 ^ k = v' * 128 ^ (k + 1) := by rw [Nat.pow_succ, Nat.mul_comm 128 v', Nat.mul_assoc, Nat.mul_comm 128]
              have e4 : 128 ^ (k + 1) = 128 * 128 ^ k := by rw [Nat.pow_succ, Nat.mul_comm]
              rw [Nat.add_mul, e3]
              generalize v' * 128 ^ (k + 1) = X at *
              generalize c % 128 * 128 ^ k = Y at *
              generalize 128 ^ (k + 1) = Z at *
              generalize 128 ^ k = W at *
              omega
    · simp at h
theorem wrd_back {s : List AV} {t v j : Nat} (hb : b8s s = true) (h : wrd s t = some (v, j)) : subL s t j = bytesL (nform v) ∧ j = (nform v).length ∧ v ≤ 18446744073709551615 := by
  obtain ⟨g1, g2, g3, _⟩ := wrdF_back hb 10 0 v j rfl h
  exact ⟨by rw [Nat.add_zero] at g1; exact g1, g2, by simpa using g3⟩
theorem rd_of {s : List AV} {a v j : Nat} {k : IntKind} (h : wrd s a = some (v, j)) : rdVU [.agg s, .int k (a : Int)] = (v : Int) ∧ rdEU [.agg s, .int k (a : Int)] = 0 ∧ rdAU [.agg s, .int k (a : Int)] = ((a + j : Nat) : Int) := by
  simp [rdVU, rdEU, rdAU, h]
theorem foldI_nn (m : Int) (h : -9223372036854775808 ≤ m ∧ m ≤ 9223372036854775807) : 0 ≤ foldI m ∧ foldI m ≤ 18446744073709551615 := by
  unfold foldI; split <;> omega
theorem kXor0 {x : Int} (h : 0 ≤ x ∧ x ≤ 9223372036854775807) : kXor .i64 x 0 = x := by
  show IntKind.i64.wrap (((BitVec.ofInt 64 x ^^^ BitVec.ofInt 64 0).toNat : Nat) : Int) = x
  have e : BitVec.ofInt 64 0 = 0#64 := by decide
  rw [e, BitVec.xor_zero, BitVec.toNat_ofInt]
  have : (x % (2 ^ 64 : Nat)).toNat = x.toNat := by omega
  rw [this, i64_in (by omega)]; omega
theorem i64_high {n : Int} (h : 9223372036854775808 ≤ n ∧ n ≤ 18446744073709551615) : IntKind.i64.wrap n = n - 18446744073709551616 := by
  have e : n % 18446744073709551616 = n := by omega
  simp only [IntKind.wrap, IntKind.signed, IntKind.bits, Bool.true_and]
  simp [e]
  omega
theorem kXorM {x : Int} (h : 0 ≤ x ∧ x ≤ 9223372036854775807) : kXor .i64 x (-1) = -x - 1 := by
  show IntKind.i64.wrap (((BitVec.ofInt 64 x ^^^ BitVec.ofInt 64 (-1)).toNat : Nat) : Int) = -x - 1
  have e : BitVec.ofInt 64 (-1) = BitVec.allOnes 64 := by decide
  rw [e, BitVec.xor_allOnes, BitVec.toNat_not, BitVec.toNat_ofInt]
  have : (x % (2 ^ 64 : Nat)).toNat = x.toNat := by omega
  rw [this, i64_high (by omega)]
  omega
theorem kAnd1 {u : Int} (h : 0 ≤ u ∧ u ≤ 18446744073709551615) : kAnd .u64 u 1 = u % 2 := by
  show IntKind.u64.wrap (((BitVec.ofInt 64 u &&& BitVec.ofInt 64 1).toNat : Nat) : Int) = u % 2
  have e : (BitVec.ofInt 64 1).toNat = 1 := by decide
  rw [BitVec.toNat_and, e, Nat.and_one_is_mod, BitVec.toNat_ofInt]
  have : (u % (2 ^ 64 : Nat)).toNat = u.toNat := by omega
  rw [this, u64_in (by omega)]; omega
theorem kShr1 {u : Int} (h : 0 ≤ u ∧ u ≤ 18446744073709551615) : kShr .u64 u 1 = u / 2 := by
  unfold kShr
  have : (2 : Int) ^ (min (1 : Int).toNat IntKind.u64.bits) = 2 := by decide
  rw [this, Int.fdiv_eq_ediv_of_nonneg _ (by omega)]
theorem unfold_fold {m : Int} (h : -9223372036854775808 ≤ m ∧ m ≤ 9223372036854775807) :
    kXor .i64 (IntKind.wrap .i64 (kShr .u64 (foldI m) 1)) (IntKind.wrap .i64 (0 - (IntKind.wrap .i64 (kAnd .u64 (foldI m) 1)))) = m := by
  have hf := foldI_nn m h
  rw [kAnd1 hf, kShr1 hf]
  unfold foldI at hf ⊢
  split
  · rename_i hm
    rw [if_pos hm] at hf
    have e1 : (2 * (-(m + 1)) + 1) / 2 = -(m + 1) := by omega
    have e2 : (2 * (-(m + 1)) + 1) % 2 = 1 := by omega
    rw [e1, e2, i64_in (by omega), i64_in (n := 1) (by omega), i64_in (n := 0 - 1) (by omega), show (0 - 1 : Int) = -1 from rfl, kXorM (by omega)]
    omega
  · rename_i hm
    rw [if_neg hm] at hf
    have e1 : (2 * m) / 2 = m := by omega
    have e2 : (2 * m) % 2 = 0 := by omega
    rw [e1, e2, i64_in (by omega), i64_in (n := 0) (by omega), show (0 - 0 : Int) = 0 from rfl, i64_in (n := 0) (by omega), kXor0 (by omega)]
theorem b8s_bytes : ∀ (a : List UInt8), b8s (bytesL a) = true
  | [] => rfl
  | x :: a => by
    have := b8s_bytes a
    have hx := x.toNat_lt
    simp only [b8s, bytesL, List.map_cons, List.all_cons, Bool.and_eq_true, b8, decide_eq_true_eq] at this ⊢
    exact ⟨by omega, this⟩
theorem b8s_append (a b : List AV) : b8s (a ++ b) = (b8s a && b8s b) := by simp [b8s]
theorem b8s_sub {l : List AV} (h : b8s l = true) (o n : Nat) : b8s (subL l o n) = true := by
  simp only [b8s, List.all_eq_true, subL] at h ⊢
  intro v hv
  exact h v (List.mem_of_mem_drop (List.mem_of_mem_take hv))
theorem b8s_flag (b : Bool) : b8s ([.int .u8 (flagI [.bool b])] : List AV) = true := by cases b <;> rfl
theorem okRd_of {l : List AV} {a : Nat} (hb : b8s l = true) (hl : l.length ≤ 1099511627776) (ha : a ≤ l.length) : okRdU [.agg l, .ptr (.rw 0) l.length, .int .i64 (a : Int)] = true :=
  okRd_iff.2 ⟨hb, rfl, by omega, by omega, by omega⟩
/-- bytes that are whole are read -/
theorem rb_of {l : List AV} {a v j m : Nat} (h : wrd l a = some (v, j)) (hm : v ≤ m) (hl : a + j + v ≤ l.length) :
    rbEU [.agg l, .ptr (.rw 0) l.length, .int .i64 (a : Int), .int .i64 (m : Int)] = 0 ∧ rbNU [.agg l, .ptr (.rw 0) l.length, .int .i64 (a : Int), .int .i64 (m : Int)] = v ∧
      rbCU [.agg l, .ptr (.rw 0) l.length, .int .i64 (a : Int), .int .i64 (m : Int)] = subL l (a + j) v ∧ rbAU [.agg l, .ptr (.rw 0) l.length, .int .i64 (a : Int), .int .i64 (m : Int)] = ((a + j + v : Nat) : Int) := by
  obtain ⟨g1, g2, g3⟩ := rd_of (k := .i64) h
  have hok : rbOk l l.length (a : Int) (m : Int) = true := by simp only [rbOk, g1, g2, g3, Bool.and_eq_true, decide_eq_true_eq, true_and]; omega
  simp only [rbEU, rbNU, rbCU, rbAU, hok, g1, g2, g3, if_true]
  refine ⟨by rw [if_pos (by omega), if_pos (by omega)], by omega, by rw [show ((v : Int)).toNat = v by omega, show (((a + j : Nat) : Int)).toNat = a + j by omega], by omega⟩
theorem rf_of {l : List AV} {a : Nat} {b : Bool} (h : l[a]? = some (.int .u8 (flagI [.bool b]))) :
    rfVU [.agg l, .int .i64 (a : Int)] = b ∧ rfEU [.agg l, .int .i64 (a : Int)] = 0 ∧ rfAU [.agg l, .int .i64 (a : Int)] = ((a + 1 : Nat) : Int) := by
  obtain ⟨h1, _⟩ := List.getElem?_eq_some_iff.1 h
  have e : getI l a = flagI [.bool b] := by simp [getI, h]
  have hok : rfOk l a = true := by
    simp only [rfOk, e, Bool.and_eq_true, decide_eq_true_eq]
    exact ⟨h1, by cases b <;> simp [flagI]⟩
  simp only [rfVU, rfEU, rfAU, show ((a : Int)).toNat = a by omega, hok, e, if_true, Bool.true_and, true_and]
  refine ⟨by cases b <;> rfl, by omega⟩
/-- a form that is cut short is refused -/
theorem rb_short {l : List AV} {m : Nat} (h : ∀ v j, wrd l 0 = some (v, j) → v ≤ m ∧ l.length < j + v) : rbEU [.agg l, .ptr (.rw 0) l.length, .int .i64 0, .int .i64 (m : Int)] = 4 := by
  cases hw : wrd l 0 with
  | none =>
    have : rdEU [.agg l, .int .i64 0] = 4 := by simp [rdEU, hw]
    simp [rbEU, this]
  | some p =>
    obtain ⟨v, j⟩ := p
    obtain ⟨g1, g2, g3⟩ := rd_of (k := .i64) hw
    obtain ⟨g4, g5⟩ := h v j hw
    simp only [Int.natCast_zero] at g1 g2 g3
    simp only [rbEU, g1, g2, g3, if_true]
    rw [if_pos (by omega), if_neg (by omega)]
theorem rb_cases {l : List AV} {m : Nat} : (∃ v j, wrd l 0 = some (v, j) ∧ v ≤ m ∧ j + v ≤ l.length) ∨
    ((rbEU [.agg l, .ptr (.rw 0) l.length, .int .i64 0, .int .i64 (m : Int)] = 3 ∨ rbEU [.agg l, .ptr (.rw 0) l.length, .int .i64 0, .int .i64 (m : Int)] = 4) ∧ rbAU [.agg l, .ptr (.rw 0) l.length, .int .i64 0, .int .i64 (m : Int)] = 0) := by
  cases hw : wrd l 0 with
  | none =>
    have : rdEU [.agg l, .int .i64 0] = 4 := by simp [rdEU, hw]
    right
    simp [rbEU, rbAU, rbOk, this]
  | some p =>
    obtain ⟨v, j⟩ := p
    obtain ⟨g1, g2, g3⟩ := rd_of (k := .i64) hw
    simp only [Int.natCast_zero] at g1 g2 g3
    by_cases h : v ≤ m ∧ j + v ≤ l.length
    · exact .inl ⟨v, j, rfl, h.1, h.2⟩
    · right
      have hok : rbOk l l.length 0 (m : Int) = false := by
        simp only [rbOk, g1, g2, g3, Bool.and_eq_false_iff, decide_eq_false_iff_not]
        omega
      simp only [rbEU, rbAU, g1, g2, g3, if_true, hok, Bool.false_eq_true, if_false, and_true]
      by_cases h1 : v ≤ m
      · rw [if_pos (by omega), if_neg (by omega)]; exact .inr rfl
      · rw [if_neg (by omega)]; exact .inl rfl
end Go.Am
