/-
  Wire: a number is read, by both sides.
-/
import Derived.Test.YtcodkoholbmkkaaWrW
namespace Go.Am
open Go.Proofs
set_option maxRecDepth 100000
theorem rb20 (G : Nat → List AV) (s : List AV) (n : Nat) (a v t h : Int) (Q : Ex → List AV → Hp → Prop) (R : AV → Hp → Prop) : vT G Q R (dloop (Dc Try.prog [] [] [] 2) 200 10 2 (loopN Try.f20 0) 61 [0, 2, 3, 4, 5, 6] [.ptr (.rw 0) (.lit 0), .int .u64 (.lit 0), .int .i64 (.lit 0), .int .u64 (.var 1 v), .int .i64 (.var 2 t), .int .u64 (.var 3 h)] [some ⟨1, .of [.slice false (.rw 1) (.lit 0) (.var 4 n), .int .i64 (.var 5 a)]⟩, some ⟨1, .var 6 s⟩]) = (
    (decide ((t : Int) < ((n : Nat) : Int)) = true →
      decide ((0 : Int) ≤ t) = true ∧
      decide ((t : Int) < ((n : Nat) : Int)) = true ∧
      isI .u8 s (Int.toNat (t)) = true ∧
      (((h : Int) == 63) = true →
        (decide ((getI s (Int.toNat (t)) : Int) > 1) = true →
          Q (.exit 0) [.ptr (.rw 0) (0), .int .u64 (0), .int .i64 (0), .int .u64 (v), .int .i64 (t), .int .u64 (h)] [some ⟨1, ([.slice false (.rw 1) (0) (n), .int .i64 (a)] : List AV)⟩, some ⟨1, s⟩]) ∧
        (decide ((getI s (Int.toNat (t)) : Int) > 1) = false →
          decide ((h : Int) > 0) = true ∧
          (((getI s (Int.toNat (t)) : Int) == 0) = true →
            Q (.exit 0) [.ptr (.rw 0) (0), .int .u64 (0), .int .i64 (0), .int .u64 (v), .int .i64 (t), .int .u64 (h)] [some ⟨1, ([.slice false (.rw 1) (0) (n), .int .i64 (a)] : List AV)⟩, some ⟨1, s⟩]) ∧
          (((getI s (Int.toNat (t)) : Int) == 0) = false →
            decide ((0 : Int) ≤ h) = true ∧
            decide ((getI s (Int.toNat (t)) : Int) < 128) = true ∧
            Q .ret [.ptr (.rw 0) (0), .int .u64 (kOr .u64 (v) (kShl .u64 (IntKind.wrap .u64 (kAnd .u8 (getI s (Int.toNat (t))) (127))) (h))), .int .i64 (0), .int .u64 (kOr .u64 (v) (kShl .u64 (IntKind.wrap .u64 (kAnd .u8 (getI s (Int.toNat (t))) (127))) (h))), .int .i64 (IntKind.wrap .i64 (t + 1)), .int .u64 (h)] [some ⟨1, ([.slice false (.rw 1) (0) (n), .int .i64 (IntKind.wrap .i64 (t + 1))] : List AV)⟩, some ⟨1, s⟩]))) ∧
      (((h : Int) == 63) = false →
        (decide ((h : Int) > 0) = true →
          (((getI s (Int.toNat (t)) : Int) == 0) = true →
            Q (.exit 0) [.ptr (.rw 0) (0), .int .u64 (0), .int .i64 (0), .int .u64 (v), .int .i64 (t), .int .u64 (h)] [some ⟨1, ([.slice false (.rw 1) (0) (n), .int .i64 (a)] : List AV)⟩, some ⟨1, s⟩]) ∧
          (((getI s (Int.toNat (t)) : Int) == 0) = false →
            decide ((0 : Int) ≤ h) = true ∧
            (decide ((getI s (Int.toNat (t)) : Int) < 128) = true →
              Q .ret [.ptr (.rw 0) (0), .int .u64 (kOr .u64 (v) (kShl .u64 (IntKind.wrap .u64 (kAnd .u8 (getI s (Int.toNat (t))) (127))) (h))), .int .i64 (0), .int .u64 (kOr .u64 (v) (kShl .u64 (IntKind.wrap .u64 (kAnd .u8 (getI s (Int.toNat (t))) (127))) (h))), .int .i64 (IntKind.wrap .i64 (t + 1)), .int .u64 (h)] [some ⟨1, ([.slice false (.rw 1) (0) (n), .int .i64 (IntKind.wrap .i64 (t + 1))] : List AV)⟩, some ⟨1, s⟩]) ∧
            (decide ((getI s (Int.toNat (t)) : Int) < 128) = false →
              Q .normal [.ptr (.rw 0) (0), .int .u64 (0), .int .i64 (0), .int .u64 (kOr .u64 (v) (kShl .u64 (IntKind.wrap .u64 (kAnd .u8 (getI s (Int.toNat (t))) (127))) (h))), .int .i64 (IntKind.wrap .i64 (t + 1)), .int .u64 (IntKind.wrap .u64 (h + 7))] [some ⟨1, ([.slice false (.rw 1) (0) (n), .int .i64 (a)] : List AV)⟩, some ⟨1, s⟩]))) ∧
        (decide ((h : Int) > 0) = false →
          decide ((0 : Int) ≤ h) = true ∧
          (decide ((getI s (Int.toNat (t)) : Int) < 128) = true →
            Q .ret [.ptr (.rw 0) (0), .int .u64 (kOr .u64 (v) (kShl .u64 (IntKind.wrap .u64 (kAnd .u8 (getI s (Int.toNat (t))) (127))) (h))), .int .i64 (0), .int .u64 (kOr .u64 (v) (kShl .u64 (IntKind.wrap .u64 (kAnd .u8 (getI s (Int.toNat (t))) (127))) (h))), .int .i64 (IntKind.wrap .i64 (t + 1)), .int .u64 (h)] [some ⟨1, ([.slice false (.rw 1) (0) (n), .int .i64 (IntKind.wrap .i64 (t + 1))] : List AV)⟩, some ⟨1, s⟩]) ∧
          (decide ((getI s (Int.toNat (t)) : Int) < 128) = false →
            Q .normal [.ptr (.rw 0) (0), .int .u64 (0), .int .i64 (0), .int .u64 (kOr .u64 (v) (kShl .u64 (IntKind.wrap .u64 (kAnd .u8 (getI s (Int.toNat (t))) (127))) (h))), .int .i64 (IntKind.wrap .i64 (t + 1)), .int .u64 (IntKind.wrap .u64 (h + 7))] [some ⟨1, ([.slice false (.rw 1) (0) (n), .int .i64 (a)] : List AV)⟩, some ⟨1, s⟩])))) ∧
    (decide ((t : Int) < ((n : Nat) : Int)) = false →
      Q (.exit 0) [.ptr (.rw 0) (0), .int .u64 (0), .int .i64 (0), .int .u64 (v), .int .i64 (t), .int .u64 (h)] [some ⟨1, ([.slice false (.rw 1) (0) (n), .int .i64 (a)] : List AV)⟩, some ⟨1, s⟩])) := by kernel_rfl
theorem rb40 (G : Nat → List AV) (k n : Nat) (a v i : Int) (Q : Ex → List AV → Hp → Prop) (R : AV → Hp → Prop) : vT G Q R (dloop (Dc Try.prog [] [] [] 1) 200 10 1 (loopN Try.f40 0) 72 [0, 2, 3, 4, 5] [.ptr (.rw 0) (.lit 0), .int .u64 (.lit 0), .int .i64 (.lit 0), .int .u64 (.var 1 v), .int .i64 (.var 2 i)] [some ⟨1, .of [.slice true (.ro (.var 6 k)) (.lit 0) (.var 4 n), .int .i64 (.var 5 a)]⟩]) = (
    (decide ((i : Int) < 10) = true →
      (decide ((IntKind.wrap .i64 (a + i) : Int) < ((n : Nat) : Int)) = true →
        decide ((0 : Int) ≤ IntKind.wrap .i64 (a + i)) = true ∧
        decide ((IntKind.wrap .i64 (a + i) : Int) < ((n : Nat) : Int)) = true ∧
        isI .u8 (G (k)) (Int.toNat (IntKind.wrap .i64 (a + i))) = true ∧
        (((i : Int) == 9) = true →
          (decide ((getI (G (k)) (Int.toNat (IntKind.wrap .i64 (a + i))) : Int) > 1) = true →
            Q .ret [.ptr (.rw 0) (0), .int .u64 (0), .int .i64 (4), .int .u64 (v), .int .i64 (i)] [some ⟨1, ([.slice true (.ro (k)) (0) (n), .int .i64 (a)] : List AV)⟩]) ∧
          (decide ((getI (G (k)) (Int.toNat (IntKind.wrap .i64 (a + i))) : Int) > 1) = false →
            decide ((i : Int) > 0) = true ∧
            (((getI (G (k)) (Int.toNat (IntKind.wrap .i64 (a + i))) : Int) == 0) = true →
              Q .ret [.ptr (.rw 0) (0), .int .u64 (0), .int .i64 (4), .int .u64 (v), .int .i64 (i)] [some ⟨1, ([.slice true (.ro (k)) (0) (n), .int .i64 (a)] : List AV)⟩]) ∧
            (((getI (G (k)) (Int.toNat (IntKind.wrap .i64 (a + i))) : Int) == 0) = false →
              decide ((0 : Int) ≤ IntKind.wrap .i64 (7 * i)) = true ∧
              decide ((getI (G (k)) (Int.toNat (IntKind.wrap .i64 (a + i))) : Int) < 128) = true ∧
              Q .ret [.ptr (.rw 0) (0), .int .u64 (IntKind.wrap .u64 (v + kShl .u64 (IntKind.wrap .u64 (Int.tmod (getI (G (k)) (Int.toNat (IntKind.wrap .i64 (a + i)))) (128))) (IntKind.wrap .i64 (7 * i)))), .int .i64 (0), .int .u64 (IntKind.wrap .u64 (v + kShl .u64 (IntKind.wrap .u64 (Int.tmod (getI (G (k)) (Int.toNat (IntKind.wrap .i64 (a + i)))) (128))) (IntKind.wrap .i64 (7 * i)))), .int .i64 (i)] [some ⟨1, ([.slice true (.ro (k)) (0) (n), .int .i64 (IntKind.wrap .i64 (IntKind.wrap .i64 (a + i) + 1))] : List AV)⟩]))) ∧
        (((i : Int) == 9) = false →
          (decide ((i : Int) > 0) = true →
            (((getI (G (k)) (Int.toNat (IntKind.wrap .i64 (a + i))) : Int) == 0) = true →
              Q .ret [.ptr (.rw 0) (0), .int .u64 (0), .int .i64 (4), .int .u64 (v), .int .i64 (i)] [some ⟨1, ([.slice true (.ro (k)) (0) (n), .int .i64 (a)] : List AV)⟩]) ∧
            (((getI (G (k)) (Int.toNat (IntKind.wrap .i64 (a + i))) : Int) == 0) = false →
              decide ((0 : Int) ≤ IntKind.wrap .i64 (7 * i)) = true ∧
              (decide ((getI (G (k)) (Int.toNat (IntKind.wrap .i64 (a + i))) : Int) < 128) = true →
                Q .ret [.ptr (.rw 0) (0), .int .u64 (IntKind.wrap .u64 (v + kShl .u64 (IntKind.wrap .u64 (Int.tmod (getI (G (k)) (Int.toNat (IntKind.wrap .i64 (a + i)))) (128))) (IntKind.wrap .i64 (7 * i)))), .int .i64 (0), .int .u64 (IntKind.wrap .u64 (v + kShl .u64 (IntKind.wrap .u64 (Int.tmod (getI (G (k)) (Int.toNat (IntKind.wrap .i64 (a + i)))) (128))) (IntKind.wrap .i64 (7 * i)))), .int .i64 (i)] [some ⟨1, ([.slice true (.ro (k)) (0) (n), .int .i64 (IntKind.wrap .i64 (IntKind.wrap .i64 (a + i) + 1))] : List AV)⟩]) ∧
              (decide ((getI (G (k)) (Int.toNat (IntKind.wrap .i64 (a + i))) : Int) < 128) = false →
                Q .normal [.ptr (.rw 0) (0), .int .u64 (0), .int .i64 (0), .int .u64 (IntKind.wrap .u64 (v + kShl .u64 (IntKind.wrap .u64 (Int.tmod (getI (G (k)) (Int.toNat (IntKind.wrap .i64 (a + i)))) (128))) (IntKind.wrap .i64 (7 * i)))), .int .i64 (IntKind.wrap .i64 (i + 1))] [some ⟨1, ([.slice true (.ro (k)) (0) (n), .int .i64 (a)] : List AV)⟩]))) ∧
          (decide ((i : Int) > 0) = false →
            decide ((0 : Int) ≤ IntKind.wrap .i64 (7 * i)) = true ∧
            (decide ((getI (G (k)) (Int.toNat (IntKind.wrap .i64 (a + i))) : Int) < 128) = true →
              Q .ret [.ptr (.rw 0) (0), .int .u64 (IntKind.wrap .u64 (v + kShl .u64 (IntKind.wrap .u64 (Int.tmod (getI (G (k)) (Int.toNat (IntKind.wrap .i64 (a + i)))) (128))) (IntKind.wrap .i64 (7 * i)))), .int .i64 (0), .int .u64 (IntKind.wrap .u64 (v + kShl .u64 (IntKind.wrap .u64 (Int.tmod (getI (G (k)) (Int.toNat (IntKind.wrap .i64 (a + i)))) (128))) (IntKind.wrap .i64 (7 * i)))), .int .i64 (i)] [some ⟨1, ([.slice true (.ro (k)) (0) (n), .int .i64 (IntKind.wrap .i64 (IntKind.wrap .i64 (a + i) + 1))] : List AV)⟩]) ∧
            (decide ((getI (G (k)) (Int.toNat (IntKind.wrap .i64 (a + i))) : Int) < 128) = false →
              Q .normal [.ptr (.rw 0) (0), .int .u64 (0), .int .i64 (0), .int .u64 (IntKind.wrap .u64 (v + kShl .u64 (IntKind.wrap .u64 (Int.tmod (getI (G (k)) (Int.toNat (IntKind.wrap .i64 (a + i)))) (128))) (IntKind.wrap .i64 (7 * i)))), .int .i64 (IntKind.wrap .i64 (i + 1))] [some ⟨1, ([.slice true (.ro (k)) (0) (n), .int .i64 (a)] : List AV)⟩])))) ∧
      (decide ((IntKind.wrap .i64 (a + i) : Int) < ((n : Nat) : Int)) = false →
        Q (.exit 0) [.ptr (.rw 0) (0), .int .u64 (0), .int .i64 (0), .int .u64 (v), .int .i64 (i)] [some ⟨1, ([.slice true (.ro (k)) (0) (n), .int .i64 (a)] : List AV)⟩])) ∧
    (decide ((i : Int) < 10) = false →
      Q (.exit 0) [.ptr (.rw 0) (0), .int .u64 (0), .int .i64 (0), .int .u64 (v), .int .i64 (i)] [some ⟨1, ([.slice true (.ro (k)) (0) (n), .int .i64 (a)] : List AV)⟩])) := by kernel_rfl
/-! the number that stands at a place -/
def wrdF (s : List AV) (t : Nat) : Nat → Nat → Option (Nat × Nat)
  | 0, _ => none
  | f + 1, k => if t + k < s.length then
      if (k = 9 ∧ 1 < (getI s (t + k)).toNat) ∨ (0 < k ∧ (getI s (t + k)).toNat = 0) then none
      else if (getI s (t + k)).toNat < 128 then some ((getI s (t + k)).toNat, 1)
      else (wrdF s t f (k + 1)).map fun p => ((getI s (t + k)).toNat % 128 + 128 * p.1, p.2 + 1)
    else none
def wrd (s : List AV) (t : Nat) : Option (Nat × Nat) := wrdF s t 10 0
def upd (acc k : Nat) (p : Nat × Nat) : Nat × Nat := (acc + 128 ^ k * p.1, k + p.2)
/-- whole bytes -/
def b8 : AV → Bool
  | .int .u8 n => decide (0 ≤ n) && decide (n ≤ 255)
  | _ => false
def b8s (l : List AV) : Bool := l.all b8
theorem b8s_get {l : List AV} (h : b8s l = true) {i : Nat} (hi : i < l.length) : isI .u8 l i = true ∧ 0 ≤ getI l i ∧ getI l i ≤ 255 := by
  simp only [b8s, List.all_eq_true] at h
  have := h l[i] (List.getElem_mem hi)
  have e := List.getElem?_eq_getElem hi
  generalize l[i] = x at this e
  cases x with
  | int k n => cases k <;> simp_all [b8, isI, getI]
  | _ => simp [b8] at this
theorem b8s_u8 {l : List AV} (h : b8s l = true) : u8s l = true := by
  simp only [b8s, u8s, List.all_eq_true] at h ⊢
  intro v hv
  have := h v hv
  cases v with
  | int k n => cases k <;> simp_all [b8, isU8]
  | _ => simp [b8] at this
theorem pow9 {k : Nat} (h : k ≤ 9) : 128 ^ k ≤ 9223372036854775808 := by
  have := Nat.pow_le_pow_right (n := 128) (by omega) h
  have e : 128 ^ 9 = 9223372036854775808 := by decide
  omega
theorem pow8 {k : Nat} (h : k ≤ 8) : 128 ^ k ≤ 72057594037927936 := by
  have := Nat.pow_le_pow_right (n := 128) (by omega) h
  have e : 128 ^ 8 = 72057594037927936 := by decide
  omega
theorem dig_fit {k d : Nat} (h : k ≤ 9) (hd : d < 128) (h9 : k = 9 → d ≤ 1) : d * 128 ^ k ≤ 9223372036854775808 := by
  by_cases e : k = 9
  · subst e
    have := h9 rfl
    have e : 128 ^ 9 = 9223372036854775808 := by decide
    rw [e]; omega
  · have := pow8 (k := k) (by omega)
    have : d * 128 ^ k ≤ 127 * 72057594037927936 := Nat.mul_le_mul (by omega) this
    omega
theorem and127 : ∀ b : BitVec 8, (b &&& 127#8).toNat = b.toNat % 128 := by decide +kernel
theorem low7 {c : Int} (h0 : 0 ≤ c) (h1 : c ≤ 255) : IntKind.wrap .u64 (kAnd .u8 c 127) = ((c.toNat % 128 : Nat) : Int) := by
  have e : kAnd .u8 c 127 = ((c.toNat % 128 : Nat) : Int) := by
    show IntKind.u8.wrap (((BitVec.ofInt 8 c &&& BitVec.ofInt 8 127).toNat : Nat) : Int) = _
    have e2 : BitVec.ofInt 8 127 = 127#8 := by decide
    rw [e2, and127, u8_wrap, BitVec.toNat_ofInt]
    omega
  rw [e, u64_in (by omega)]
theorem two_128 (k : Nat) : (2 : Int) ^ (7 * k) = ((128 ^ k : Nat) : Int) := by
  rw [Int.pow_mul]
  have : (2 : Int) ^ 7 = 128 := by decide
  rw [this]
  simp
theorem shl_dig {k d : Nat} (h : k ≤ 9) (hd : d < 128) (h9 : k = 9 → d ≤ 1) : kShl .u64 (d : Int) ((7 * k : Nat) : Int) = ((d * 128 ^ k : Nat) : Int) := by
  unfold kShl
  have : min ((7 * k : Nat) : Int).toNat IntKind.u64.bits = 7 * k := by
    show min ((7 * k : Nat) : Int).toNat 64 = 7 * k
    omega
  rw [this, two_128, u64_wrap]
  have := dig_fit h hd h9
  rw [← Int.natCast_mul]
  omega
theorem or_dig {k d acc : Nat} (h : k ≤ 9) (hd : d < 128) (h9 : k = 9 → d ≤ 1) (ha : acc < 128 ^ k) : kOr .u64 (acc : Int) ((d * 128 ^ k : Nat) : Int) = ((acc + d * 128 ^ k : Nat) : Int) := by
  have hf := dig_fit h hd h9
  have hp := pow9 h
  show IntKind.u64.wrap (((BitVec.ofInt 64 (acc : Int) ||| BitVec.ofInt 64 ((d * 128 ^ k : Nat) : Int)).toNat : Nat) : Int) = _
  have e1 : (BitVec.ofInt 64 (acc : Int)).toNat = acc := by rw [BitVec.toNat_ofInt]; omega
  have e2 : (BitVec.ofInt 64 ((d * 128 ^ k : Nat) : Int)).toNat = d * 128 ^ k := by rw [BitVec.toNat_ofInt]; omega
  rw [BitVec.toNat_or, e1, e2]
  have e3 : (128 : Nat) ^ k = 2 ^ (7 * k) := by rw [Nat.pow_mul]
  have e4 := Nat.two_pow_add_eq_or_of_lt (i := 7 * k) (b := acc) (by rw [← e3]; exact ha) d
  rw [← e3] at e4
  have e5 : acc ||| d * 128 ^ k = acc + d * 128 ^ k := by
    rw [Nat.or_comm, Nat.mul_comm, ← e4, Nat.add_comm]
  rw [e5, u64_in (by omega)]
abbrev Bad (s : List AV) (t k : Nat) : Prop := (k = 9 ∧ 1 < (getI s (t + k)).toNat) ∨ (0 < k ∧ (getI s (t + k)).toNat = 0)
theorem wrdF_stop {s : List AV} {a k : Nat} (hk : k ≤ 9) (h : ¬ a + k < s.length ∨ Bad s a k) : wrdF s a (10 - k) k = none := by
  have e : 10 - k = (9 - k) + 1 := by omega
  rw [e, wrdF]
  rcases h with h | h
  · rw [if_neg h]
  · by_cases hl : a + k < s.length
    · rw [if_pos hl, if_pos h]
    · rw [if_neg hl]
theorem wrd_stop {s : List AV} {a k acc : Nat} (hs : wrd s a = (wrdF s a (10 - k) k).map (upd acc k)) (hk : k ≤ 9) (h : ¬ a + k < s.length ∨ Bad s a k) : wrd s a = none := by
  rw [hs, wrdF_stop hk h]; rfl
theorem wrd_last {s : List AV} {a k acc : Nat} (hs : wrd s a = (wrdF s a (10 - k) k).map (upd acc k)) (hk : k ≤ 9) (hl : a + k < s.length) (hb : ¬ Bad s a k) (hc : (getI s (a + k)).toNat < 128) :
    wrd s a = some (acc + (getI s (a + k)).toNat * 128 ^ k, k + 1) := by
  have e : 10 - k = (9 - k) + 1 := by omega
  rw [hs, e, wrdF, if_pos hl, if_neg hb, if_pos hc]
  simp [upd, Nat.mul_comm]
theorem wrd_next {s : List AV} {a k acc : Nat} (hs : wrd s a = (wrdF s a (10 - k) k).map (upd acc k)) (hk : k ≤ 9) (hl : a + k < s.length) (hb : ¬ Bad s a k) (hc : ¬ (getI s (a + k)).toNat < 128) :
    k ≤ 8 ∧ wrd s a = (wrdF s a (10 - (k + 1)) (k + 1)).map (upd (acc + (getI s (a + k)).toNat % 128 * 128 ^ k) (k + 1)) := by
  have h8 : k ≤ 8 := by
    rcases Nat.lt_or_ge k 9 with h | h
    · omega
    · exfalso
      apply hb
      left
      omega
  refine ⟨h8, ?_⟩
  have e : 10 - k = (9 - k) + 1 := by omega
  have e2 : 10 - (k + 1) = 9 - k := by omega
  rw [hs, e, wrdF, if_pos hl, if_neg hb, if_neg hc, e2, Option.map_map]
  congr 1
  funext p
  simp only [Function.comp, upd, Prod.mk.injEq]
  refine ⟨?_, by omega⟩
  rw [Nat.pow_succ, Nat.mul_add, Nat.mul_comm (128 ^ k) (_ % 128), Nat.mul_assoc, Nat.add_assoc]
def rdBlk (n a : Nat) : Option Blk := some ⟨1, [.slice false (.rw 1) 0 n, .int .i64 (a : Int)]⟩
theorem acc_next {k acc d : Nat} (h : acc < 128 ^ k) (hd : d < 128) : acc + d * 128 ^ k < 128 ^ (k + 1) := by
  have : d * 128 ^ k ≤ 127 * 128 ^ k := Nat.mul_le_mul (by omega) (Nat.le_refl _)
  rw [Nat.pow_succ]; omega
theorem dg02 (G : Nat → List AV) (B : Nat) : DGood (⟨Try.prog, G, B⟩ : Ctx) (Dc Try.prog [] [] [] 2) [] := dgood (mix G B) (by kernel_rfl) .nil .nil
theorem rl20 (G : Nat → List AV) (B : Nat) (s : List AV) (n a : Nat) (hb : b8s s = true) (hn : s.length = n) (h62 : n ≤ 4611686018427387904) (ha : a ≤ n) :
    AWp (⟨Try.prog, G, B⟩ : Ctx) 2 (.loop (loopN Try.f20 0)) (fl 61 [0, 2, 3, 4, 5, 6] [.ptr (.rw 0) 0, .int .u64 0, .int .i64 0, .int .u64 0, .int .i64 (a : Int), .int .u64 0]) [rdBlk n a, some ⟨1, s⟩]
      (lv 61 [0, 2, 3, 4, 5, 6] fun e vs H => (e = .exit 0 ∧ wrd s a = none ∧ wk [.ptr (.rw 0) 0, .int .u64 0, .int .i64 0, .undef, .undef, .undef] vs ∧ H = [rdBlk n a, some ⟨1, s⟩])
        ∨ (e = .ret ∧ ∃ v j, wrd s a = some (v, j) ∧ wk [.ptr (.rw 0) 0, .int .u64 (v : Int), .int .i64 0, .undef, .undef, .undef] vs ∧ H = [rdBlk n (a + j), some ⟨1, s⟩])) := by
  refine aloop_lv (fun j vs H => ∃ k acc : Nat, k ≤ 9 ∧ j = 9 - k ∧ acc < 128 ^ k ∧ wrd s a = (wrdF s a (10 - k) k).map (upd acc k) ∧ vs = [.ptr (.rw 0) 0, .int .u64 0, .int .i64 0, .int .u64 (acc : Int), .int .i64 ((a + k : Nat) : Int), .int .u64 ((7 * k : Nat) : Int)] ∧ H = [rdBlk n a, some ⟨1, s⟩]) 9
    ⟨0, 0, by omega, rfl, by simp, by rw [show upd 0 0 = id from by funext p; simp [upd]]; simp [wrd], rfl, rfl⟩ ?_
  rintro j vs H ⟨k, acc, hk, rfl, hacc, hs, rfl, rfl⟩
  refine dloop_ok (C := (⟨Try.prog, G, B⟩ : Ctx)) (dg02 G B) (fuel := 200) (n0 := 10) (m := 2) (c := loopN Try.f20 0) (vs := [.ptr (.rw 0) (.lit 0), .int .u64 (.lit 0), .int .i64 (.lit 0), .int .u64 (.var 1 (acc : Int)), .int .i64 (.var 2 ((a + k : Nat) : Int)), .int .u64 (.var 3 ((7 * k : Nat) : Int))])
    (H := [some ⟨1, .of [.slice false (.rw 1) (.lit 0) (.var 4 n), .int .i64 (.var 5 (a : Int))]⟩, some ⟨1, .var 6 s⟩]) (by simp) ?_
  rw [rb20, Int.toNat_natCast]
  have i1 : IntKind.wrap .i64 (((a + k : Nat) : Int) + 1) = ((a + k + 1 : Nat) : Int) := by rw [i64_in (by omega)]; omega
  have i2 : IntKind.wrap .u64 (((7 * k : Nat) : Int) + 7) = ((7 * (k + 1) : Nat) : Int) := by rw [u64_in (by omega)]; omega
  rw [i1, i2]
  by_cases hl : a + k < s.length
  · obtain ⟨g1, g2, g3⟩ := b8s_get hb hl
    have hc : getI s (a + k) = ((getI s (a + k)).toNat : Int) := by omega
    have hd : (getI s (a + k)).toNat % 128 < 128 := Nat.mod_lt _ (by omega)
    have g0 : decide ((0 : Int) ≤ ((a + k : Nat) : Int)) = true := decide_eq_true (by omega)
    have g7 : decide ((0 : Int) ≤ ((7 * k : Nat) : Int)) = true := decide_eq_true (by omega)
    rw [low7 g2 g3]
    -- the number with one digit more
    have vals : ¬ Bad s a k → kOr .u64 (acc : Int) (kShl .u64 (((getI s (a + k)).toNat % 128 : Nat) : Int) ((7 * k : Nat) : Int)) = ((acc + (getI s (a + k)).toNat % 128 * 128 ^ k : Nat) : Int) := fun hb => by
      have h9 : k = 9 → (getI s (a + k)).toNat % 128 ≤ 1 := fun h => by
        have : ¬ 1 < (getI s (a + k)).toNat := fun h1 => hb (.inl ⟨h, h1⟩)
        omega
      rw [shl_dig hk hd h9, or_dig hk hd h9 hacc]
    have ret : ¬ Bad s a k → (getI s (a + k)).toNat < 128 → wrd s a = some (acc + (getI s (a + k)).toNat % 128 * 128 ^ k, k + 1) := fun hb hc => by
      have := wrd_last hs hk hl hb hc
      rwa [Nat.mod_eq_of_lt hc]
    refine ⟨fun _ => ⟨g0, decide_eq_true (by omega), g1, fun h63 => ⟨fun h => ?_, fun h => ⟨decide_eq_true (by have := eq_of_beq h63; omega), fun h0 => ?_, fun h0 => ?_⟩⟩, fun h63 => ⟨fun hp => ⟨fun h0 => ?_, fun h0 => ⟨g7, fun hlt => ?_, fun hlt => ?_⟩⟩, fun hp => ⟨g7, fun hlt => ?_, fun hlt => ?_⟩⟩⟩, fun h => absurd (of_decide_eq_false h) (by omega)⟩
    all_goals try simp only [decide_eq_true_eq, decide_eq_false_iff_not, beq_iff_eq, beq_eq_false_iff_ne, ne_eq] at *
    · exact .inl ⟨by trivial, wrd_stop hs hk (.inr (.inl ⟨by omega, by omega⟩)), by simp [wk], rfl⟩
    · exact .inl ⟨by trivial, wrd_stop hs hk (.inr (.inr ⟨by omega, by omega⟩)), by simp [wk], rfl⟩
    · have nb : ¬ Bad s a k := by rintro (⟨_, h2⟩ | ⟨_, h2⟩) <;> omega
      rw [vals nb]
      exact ⟨by omega, by omega, .inr ⟨by trivial, _, _, ret nb (by omega), by simp [wk], rfl⟩⟩
    · exact .inl ⟨by trivial, wrd_stop hs hk (.inr (.inr ⟨by omega, by omega⟩)), by simp [wk], rfl⟩
    · have nb : ¬ Bad s a k := by rintro (⟨_, h2⟩ | ⟨_, h2⟩) <;> omega
      rw [vals nb]
      exact .inr ⟨by trivial, _, _, ret nb (by omega), by simp [wk], rfl⟩
    · have nb : ¬ Bad s a k := by rintro (⟨_, h2⟩ | ⟨_, h2⟩) <;> omega
      rw [vals nb]
      obtain ⟨n1, n2⟩ := wrd_next hs hk hl nb (by omega)
      exact ⟨9 - (k + 1), by omega, .inl ⟨k + 1, _, by omega, rfl, acc_next hacc hd, n2, rfl, rfl⟩⟩
    · have nb : ¬ Bad s a k := by rintro (⟨_, h2⟩ | ⟨_, h2⟩) <;> omega
      rw [vals nb]
      exact .inr ⟨by trivial, _, _, ret nb (by omega), by simp [wk], rfl⟩
    · have nb : ¬ Bad s a k := by rintro (⟨_, h2⟩ | ⟨_, h2⟩) <;> omega
      rw [vals nb]
      obtain ⟨n1, n2⟩ := wrd_next hs hk hl nb (by omega)
      exact ⟨9 - (k + 1), by omega, .inl ⟨k + 1, _, by omega, rfl, acc_next hacc hd, n2, rfl, rfl⟩⟩
  · refine ⟨fun h => absurd (of_decide_eq_true h) (by omega), fun _ => .inl ⟨by trivial, wrd_stop hs hk (.inl hl), by simp [wk], rfl⟩⟩
/-! written out -/
def rdOkU (xs : List AV) : Bool := match xs with
  | [.agg l, .int _ t] => (wrd l t.toNat).isSome
  | _ => false
def rdVU (xs : List AV) : Int := match xs with
  | [.agg l, .int _ t] => match wrd l t.toNat with
    | some (v, _) => v
    | none => 0
  | _ => 0
def rdEU (xs : List AV) : Int := match xs with
  | [.agg l, .int _ t] => match wrd l t.toNat with
    | some _ => 0
    | none => 4
  | _ => 4
def rdAU (xs : List AV) : Int := match xs with
  | [.agg l, .int _ t] => match wrd l t.toNat with
    | some (_, j) => ((t.toNat + j : Nat) : Int)
    | none => t
  | _ => 0
def okRdU (xs : List AV) : Bool := match xs with
  | [.agg l, .ptr _ n, .int _ a] => b8s l && (Nat.beq l.length n && (leB n 4611686018427387904 && (decide (0 ≤ a) && decide (a ≤ (n : Int)))))
  | _ => false
structure RdOk (l : List AV) (n : Nat) (a : Int) : Prop where
  b : b8s l = true
  len : l.length = n
  big : n ≤ 4611686018427387904
  pos : a = (a.toNat : Int)
  le : a.toNat ≤ n
theorem okRd_iff {l : List AV} {r : Ref} {n : Nat} {k : IntKind} {a : Int} : okRdU [.agg l, .ptr r n, .int k a] = true ↔ RdOk l n a := by
  simp only [okRdU, Bool.and_eq_true, leB_iff, decide_eq_true_eq]
  exact ⟨fun ⟨h1, h2, h3, h4, h5⟩ => ⟨h1, Nat.eq_of_beq_eq_true h2, h3, by omega, by omega⟩, fun h => ⟨h.b, by rw [h.len]; exact Nat.beq_refl _, h.big, by have := h.pos; omega, by have := h.pos; have := h.le; omega⟩⟩
def rL20 : DL := ⟨0, 61, [0, 2, 3, 4, 5, 6], fun vs H => match vs, H with
  | [.ptr (.rw 0) (.lit 0), .int .u64 (.lit 0), .int .i64 (.lit 0), .int .u64 (.lit 0), .int .i64 a, .int .u64 (.lit 0)], [some ⟨1, .of [.slice false (.rw 1) (.lit 0) n, .int .i64 b]⟩, some ⟨1, l⟩] =>
    some (.chk (.uf 1120 okRdU [.agg l, .ptr (.rw 0) n, .int .i64 a]) <| .chk (.cmp .eql a b) <| .tst (.uf 1121 rdOkU [.agg l, .int .i64 a])
      (.one .ret [.ptr (.rw 0) (.lit 0), .int .u64 (.uf 1122 rdVU [.agg l, .int .i64 a]), .int .i64 (.lit 0), .undef, .undef, .undef] [some ⟨1, .of [.slice false (.rw 1) (.lit 0) n, .int .i64 (.uf 1124 rdAU [.agg l, .int .i64 a])]⟩, some ⟨1, l⟩])
      (.one (.exit 0) [.ptr (.rw 0) (.lit 0), .int .u64 (.lit 0), .int .i64 (.lit 0), .undef, .undef, .undef] [some ⟨1, .of [.slice false (.rw 1) (.lit 0) n, .int .i64 b]⟩, some ⟨1, l⟩]))
  | _, _ => none⟩
theorem rL20_ok (G : Nat → List AV) (B : Nat) : DLoopOk (⟨Try.prog, G, B⟩ : Ctx) 2 (loopN Try.f20 0) rL20 := by
  refine .of fun vs H o ho n Q hQ => ?_
  simp only [rL20] at ho
  split at ho
  · rename_i a n b l
    simp only [Option.some.injEq] at ho
    subst ho
    obtain ⟨h1, h2, h3, h4⟩ := hQ
    simp only [vB, vVs, vV, vR, vN] at h1 h2 h3 h4
    have ok := okRd_iff.1 h1
    have h2 : vI G a = vI G b := by simpa [cmpI] using h2
    simp only [rL20, vVs, vV, vR, vN, vI, vL, vHp, List.map_cons, List.map_nil, Option.map_some, vBlk]
    rw [← h2, ok.pos]
    refine (rl20 G B _ _ _ ok.b ok.len ok.big ok.le).lmono ?_
    rintro e vs'' H'' (⟨rfl, g1, g2, rfl⟩ | ⟨rfl, v, j, g1, g2, rfl⟩)
    · have := h4 (by simp [rdOkU, g1])
      refine .inl ⟨_, g2, ?_⟩
      simp only [lHolds, vVs, vV, vR, vN, vI, vB, vL, vHp, List.map_cons, List.map_nil, Option.map_some, vBlk] at this
      rw [← h2, ok.pos] at this
      exact this
    · have := h3 (by simp [rdOkU, g1])
      refine .inl ⟨_, g2, ?_⟩
      simp only [lHolds, vVs, vV, vR, vN, vI, vB, vL, vHp, List.map_cons, List.map_nil, Option.map_some, vBlk, rdVU, rdAU, g1] at this
      exact this
  · simp at ho
theorem dgR20 (G : Nat → List AV) (B : Nat) : DGood (⟨Try.prog, G, B⟩ : Ctx) (Dc Try.prog [38] [] [rL20] 2) (loopsOf (bodyOf Try.f20)) := dgood (mix G B) (by kernel_rfl) .nil (.cast (.cons (i := 0) (by kernel_rfl) rfl (rL20_ok G B) .nil) (by kernel_rfl))
theorem t20 (G : Nat → List AV) (s : List AV) (n : Nat) (a : Int) (Q : Ex → List AV → Hp → Prop) (R : AV → Hp → Prop) : vT G Q R (dcall (Dc Try.prog [38] [] [rL20] 2) 200 10 Try.f20 [.ptr (.rw 0) (.lit 0)] [some ⟨1, .of [.slice false (.rw 1) (.lit 0) (.var 4 n), .int .i64 (.var 5 a)]⟩, some ⟨1, .var 6 s⟩] 2) = (
    okRdU [.agg s, .ptr (.rw 0) (n), .int .i64 (a)] = true ∧
    ((a : Int) == a) = true ∧
    (rdOkU [.agg s, .int .i64 (a)] = true →
      R (.tup [.int .u64 (rdVU [.agg s, .int .i64 (a)]), .int .i64 (0)]) [some ⟨1, ([.slice false (.rw 1) (0) (n), .int .i64 (rdAU [.agg s, .int .i64 (a)])] : List AV)⟩, some ⟨1, s⟩]) ∧
    (rdOkU [.agg s, .int .i64 (a)] = false →
      R (.tup [.int .u64 (0), .int .i64 (4)]) [some ⟨1, ([.slice false (.rw 1) (0) (n), .int .i64 (a)] : List AV)⟩, some ⟨1, s⟩])) := by kernel_rfl
theorem rd_vals {l : List AV} {k : IntKind} {a : Int} : (rdOkU [.agg l, .int k a] = true → rdEU [.agg l, .int k a] = 0) ∧ (rdOkU [.agg l, .int k a] = false → rdEU [.agg l, .int k a] = 4 ∧ rdVU [.agg l, .int k a] = 0 ∧ rdAU [.agg l, .int k a] = a) := by
  simp only [rdOkU, rdEU, rdVU, rdAU]
  cases wrd l a.toNat with
  | none => exact ⟨fun h => by simp at h, fun _ => ⟨rfl, rfl, rfl⟩⟩
  | some p => exact ⟨fun _ => rfl, fun h => by simp at h⟩
theorem read20 (G : Nat → List AV) (B : Nat) (s : List AV) (n : Nat) (a : Int) (h : okRdU [.agg s, .ptr (.rw 0) n, .int .i64 a] = true) : ACalls (⟨Try.prog, G, B⟩ : Ctx) 20 [.ptr (.rw 0) 0] [some ⟨1, [.slice false (.rw 1) 0 n, .int .i64 a]⟩, some ⟨1, s⟩]
    fun v' H' => v' = .tup [.int .u64 (rdVU [.agg s, .int .i64 a]), .int .i64 (rdEU [.agg s, .int .i64 a])] ∧ H' = [some ⟨1, [.slice false (.rw 1) 0 n, .int .i64 (rdAU [.agg s, .int .i64 a])]⟩, some ⟨1, s⟩] := by
  have hf : ∀ j, bnds j s = true := fun j => u8s_flat (b8s_u8 (okRd_iff.1 h).b)
  have key := dcall_ok (C := (⟨Try.prog, G, B⟩ : Ctx)) (fn := Try.f20) (f := 20) (R := fun v' H' => v' = .tup [.int .u64 (rdVU [.agg s, .int .i64 a]), .int .i64 (rdEU [.agg s, .int .i64 a])] ∧ H' = [some ⟨1, [.slice false (.rw 1) 0 n, .int .i64 (rdAU [.agg s, .int .i64 a])]⟩, some ⟨1, s⟩])
    (dgR20 G B) (by kernel_rfl) (by kernel_rfl) (by kernel_rfl) (fuel := 200) (n0 := 10) (keep := 2) (args := [.ptr (.rw 0) (.lit 0)]) (H := [some ⟨1, .of [.slice false (.rw 1) (.lit 0) (.var 4 n), .int .i64 (.var 5 a)]⟩, some ⟨1, .var 6 s⟩]) (by
    rw [t20]
    obtain ⟨g1, g2⟩ := rd_vals (l := s) (k := .i64) (a := a)
    refine ⟨h, beq_self_eq_true a, fun hk => ?_, fun hk => ?_⟩
    · rw [g1 hk]; exact ⟨rfl, rfl⟩
    · obtain ⟨e1, e2, e3⟩ := g2 hk
      rw [e1, e2, e3]; exact ⟨rfl, rfl⟩)
  exact ACalls.keep (H := [some ⟨1, [.slice false (.rw 1) 0 n, .int .i64 a]⟩, some ⟨1, s⟩]) key (by simp) (by simp [hpB, bnds, bnd, hf]) (by simp [bnd, bnds]) (by simp)
def readS : DSum := fun xs H => match xs with
  | [.ptr (.rw i) (.lit 0)] => match H[i]? with
    | some (some ⟨1, .of [.slice false (.rw m) (.lit 0) n, .int .i64 a]⟩) => match H[m]? with
      | some (some ⟨1, l⟩) => match Nat.beq i m with
        | true => none
        | false => some (.chk (.uf 1120 okRdU [.agg l, .ptr (.rw 0) n, .int .i64 a]) (.one (.tup [.int .u64 (.uf 1122 rdVU [.agg l, .int .i64 a]), .int .i64 (.uf 1123 rdEU [.agg l, .int .i64 a])]) [.set i ⟨1, .of [.slice false (.rw m) (.lit 0) n, .int .i64 (.uf 1124 rdAU [.agg l, .int .i64 a])]⟩]))
      | _ => none
    | _ => none
  | _ => none
theorem readS_ok (G : Nat → List AV) (B : Nat) : DSumOk (⟨Try.prog, G, B⟩ : Ctx) 20 readS := by
  intro xs H o ho
  simp only [readS] at ho
  split at ho
  · rename_i i
    split at ho
    · rename_i m n a hi
      split at ho
      · rename_i l hm
        split at ho
        · simp at ho
        · rename_i him
          have him : i ≠ m := fun h => by rw [h, Nat.beq_refl] at him; simp at him
          simp only [Option.some.injEq] at ho
          subst ho
          intro h1
          simp only [vB, vVs, vV, vR, vN] at h1
          have hf : ∀ j, bnds j (vL G l) = true := fun j => u8s_flat (b8s_u8 (okRd_iff.1 h1).b)
          have key := read20 G B (vL G l) (vN G n) (vI G a) h1
          refine DOut.fr (θ := [i, m]) (by simp [him]) rfl (fun k b hk => ?_) (by simp [bnds, bnd]) (by simp [vVs, vV, vR, vN, rens, ren]) key (by simp) (by simp [bnd, bnds]) (by simp [hpB, hf, bnds, bnd]) (by simp [vV, vVs, vI, ren, rens]) ?_
          · match k with
            | 0 => simp at hk; subst hk; exact ⟨_, rfl, by simp [bnds, bnd], by simpa [renB, vBlk, vL, vVs, vV, vR, vN, rens, ren] using vHp_some (G := G) hi⟩
            | 1 => simp at hk; subst hk; exact ⟨_, rfl, hf _, by simpa [renB, vBlk, rens_flat _ _ (hf 0)] using vHp_some (G := G) hm⟩
            | k + 2 => simp at hk
          · have hs := vHp_set_same (G := G) hm
            simp only [vBlk] at hs
            simp only [List.map_cons, List.map_nil, acts, Hop.act, vHop, vBlk, merge, lay, renO, renB, Option.map_some, rens_flat _ _ (hf 0), List.length_cons, List.length_nil, List.drop_succ_cons, List.drop_nil, List.append_nil, vL, vVs, vV, vR, vN, vI]
            rw [List.set_comm _ _ him, hs]
            simp [rens, ren, wide]
      · simp at ho
    · simp at ho
  · simp at ho
end Go.Am
