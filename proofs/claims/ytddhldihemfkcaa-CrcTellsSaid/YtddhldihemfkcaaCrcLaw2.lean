/-
  CrcTells: the law's own loops.
-/
import Derived.Test.YtddhldihemfkcaaCrcLaw1
import Derived.Test.YtddhldihemfkcaaCrcFlip
namespace Go.Am
open Go.Proofs Crc
theorem bl_get {l : List Int} {j : Nat} (h : j < l.length) : isI .u8 (bl l) j = true ∧ getI (bl l) j = l.getD j 0 := by simp [isI, getI, bl, h]
theorem bl_set (l : List Int) (j : Nat) (x : Int) : (bl l).set j (.int .u8 x) = bl (l.set j x) := by simp [bl, List.map_set]
theorem kXor8 (a b : Int) : kXor .u8 a b = x8 a b := by
  show IntKind.u8.wrap (x8 a b) = x8 a b
  have := x8_range a b
  rw [IntKind.wrap_u8]; omega
theorem kShl8 {m : Nat} (h : m < 8) : kShl .u8 1 (m : Int) = 2 ^ m := by
  rcases m with _ | _ | _ | _ | _ | _ | _ | _ | m
  all_goals first | decide | omega
theorem bl_eq {cs : List AV} {m : Nat} (h : okI .u8 cs 0 m = true) (hl : cs.length = m) : cs = bl (ints cs 0 m) := by
  have := seg_eq h
  rw [List.drop_zero, List.take_of_length_le (by omega)] at this
  exact this
/-- a row of bytes -/
def rowB (cs : List AV) (m : Nat) : Bool := Nat.beq cs.length m && (okI .u8 cs 0 m && (List.range m).all fun j => decide (0 ≤ getI cs j) && decide (getI cs j < 256))
theorem rowB_get {cs : List AV} {m : Nat} (h : rowB cs m = true) : ∃ l : List Int, cs = bl l ∧ l.length = m ∧ BytesR l ∧ l = ints cs 0 m := by
  simp only [rowB, Bool.and_eq_true, List.all_eq_true, List.mem_range, decide_eq_true_eq] at h
  obtain ⟨h1, h2, h3⟩ := h
  have h1 := Nat.eq_of_beq_eq_true h1
  refine ⟨_, bl_eq h2 h1, ints_length _ _ _, fun c hc => ?_, rfl⟩
  simp only [ints, List.mem_map, List.mem_range] at hc
  obtain ⟨j, hj, rfl⟩ := hc
  rw [Nat.zero_add]
  exact h3 j hj
theorem rowB_mk {l : List Int} (h : BytesR l) : rowB (bl l) l.length = true := by
  simp only [rowB, Bool.and_eq_true, List.all_eq_true, List.mem_range, decide_eq_true_eq]
  refine ⟨by rw [bl_length]; exact Nat.beq_refl _, bl_okI l, fun j hj => ?_⟩
  rw [(bl_get hj).2]
  have : l.getD j 0 = l[j] := by simp [hj]
  rw [this]
  exact h _ (List.getElem_mem hj)
/-- the place of a number -/
def posOf (n : Nat) (a : Int) : Nat := (a.tmod (8 * n)).natAbs
theorem posOf_lt {n : Nat} (hn : 0 < n) (a : Int) : posOf n a < 8 * n := by
  unfold posOf
  have := Int.natAbs_tmod a (8 * (n : Int))
  have h2 : (8 * (n : Int)).natAbs = 8 * n := by omega
  rw [this, h2]
  exact Nat.mod_lt _ (by omega)
def flips (l : List Int) (n : Nat) (at_ : Nat → Int) : Nat → List Int
  | 0 => l
  | i + 1 => flip (flips l n at_ i) (posOf n (at_ i))
theorem flips_len (l : List Int) (n : Nat) (f : Nat → Int) : ∀ i, (flips l n f i).length = l.length
  | 0 => rfl
  | i + 1 => by simp only [flips, flip_length, flips_len l n f i]
theorem flips_range {l : List Int} (h : BytesR l) (n : Nat) (f : Nat → Int) : ∀ i, BytesR (flips l n f i)
  | 0 => h
  | i + 1 => flip_range (flips_range h n f i)

theorem p_body (G : Nat → List AV) (B : Nat) (k n : Nat) (c : AV) (a0 a1 a2 bu i : Int) (cs : List AV) (h0 : Option Blk) (Q : Ex → List AV → Hp → Prop) : vc (Kn (⟨Try.prog, G, B⟩ : Ctx) noSum noLoop) 100 0 (.code (loopN Try.f4 0)) (fl 205 [2, 4, 7, 8, 9, 10] [.int .u32 bu, .ptr (.rw 1) 0, .slice true (.ro k) 0 n, c, .slice false (.rw 3) 0 n, .int .i64 i]) [h0, some ⟨1, [.int .i64 a0, .int .i64 a1, .int .i64 a2]⟩, none, some ⟨1, cs⟩] (lv 205 [2, 4, 7, 8, 9, 10] Q) = (
    tst (decide (i < (3 : Int))) (
      chk (decide ((0 : Int) ≤ i) && decide (i < (3 : Int))) (
      chk (isI IntKind.i64 [AV.int IntKind.i64 a0, AV.int IntKind.i64 a1, AV.int IntKind.i64 a2] i.toNat) (
      chk (!IntKind.i64.wrap ((8 : Int) * (↑n : Int)) == (0 : Int)) (
      nam ((getI [AV.int IntKind.i64 a0, AV.int IntKind.i64 a1, AV.int IntKind.i64 a2] i.toNat).tmod (IntKind.i64.wrap ((8 : Int) * (↑n : Int)))) (fun y1 =>
      tst (decide (y1 < (0 : Int))) (
        nam (IntKind.i64.wrap ((0 : Int) - y1)) (fun y2 =>
        chk (decide ((0 : Int) ≤ IntKind.i64.wrap (y2.tdiv (8 : Int))) && decide (IntKind.i64.wrap (y2.tdiv (8 : Int)) < (↑n : Int))) (
        chk (isI IntKind.u8 cs (IntKind.i64.wrap (y2.tdiv (8 : Int))).toNat) (
        chk (decide ((0 : Int) ≤ y2.tmod (8 : Int))) (
        chk (decide ((0 : Int) ≤ IntKind.i64.wrap (y2.tdiv (8 : Int))) && decide (IntKind.i64.wrap (y2.tdiv (8 : Int)) < (↑n : Int))) (
        chk (decide ((IntKind.i64.wrap (y2.tdiv (8 : Int))).toNat + (1 : Nat) ≤ cs.length)) (
        nam (IntKind.i64.wrap (i + (1 : Int))) (fun y3 =>
        Q .normal [.int IntKind.u32 (bu), .ptr (.rw 1) 0, .slice true (.ro (k)) 0 (n), (c), .slice false (.rw 3) 0 (n), .int IntKind.i64 (y3)] [(h0), some ⟨1, [.int IntKind.i64 (a0), .int IntKind.i64 (a1), .int IntKind.i64 (a2)]⟩, none, some ⟨1, (cs.set (IntKind.i64.wrap (y2.tdiv (8 : Int))).toNat (AV.int IntKind.u8 (kXor IntKind.u8 (getI cs (IntKind.i64.wrap (y2.tdiv (8 : Int))).toNat) (kShl IntKind.u8 (1 : Int) (y2.tmod (8 : Int))))))⟩])))))))) (
        chk (decide ((0 : Int) ≤ IntKind.i64.wrap (y1.tdiv (8 : Int))) && decide (IntKind.i64.wrap (y1.tdiv (8 : Int)) < (↑n : Int))) (
        chk (isI IntKind.u8 cs (IntKind.i64.wrap (y1.tdiv (8 : Int))).toNat) (
        chk (decide ((0 : Int) ≤ y1.tmod (8 : Int))) (
        chk (decide ((0 : Int) ≤ IntKind.i64.wrap (y1.tdiv (8 : Int))) && decide (IntKind.i64.wrap (y1.tdiv (8 : Int)) < (↑n : Int))) (
        chk (decide ((IntKind.i64.wrap (y1.tdiv (8 : Int))).toNat + (1 : Nat) ≤ cs.length)) (
        nam (IntKind.i64.wrap (i + (1 : Int))) (fun y2 =>
        Q .normal [.int IntKind.u32 (bu), .ptr (.rw 1) 0, .slice true (.ro (k)) 0 (n), (c), .slice false (.rw 3) 0 (n), .int IntKind.i64 (y2)] [(h0), some ⟨1, [.int IntKind.i64 (a0), .int IntKind.i64 (a1), .int IntKind.i64 (a2)]⟩, none, some ⟨1, (cs.set (IntKind.i64.wrap (y1.tdiv (8 : Int))).toNat (AV.int IntKind.u8 (kXor IntKind.u8 (getI cs (IntKind.i64.wrap (y1.tdiv (8 : Int))).toNat) (kShl IntKind.u8 (1 : Int) (y1.tmod (8 : Int))))))⟩])))))))))))) (
      Q (.exit 0) [.int IntKind.u32 (bu), .ptr (.rw 1) 0, .slice true (.ro (k)) 0 (n), (c), .slice false (.rw 3) 0 (n), .int IntKind.i64 (i)] [(h0), some ⟨1, [.int IntKind.i64 (a0), .int IntKind.i64 (a1), .int IntKind.i64 (a2)]⟩, none, some ⟨1, cs⟩])) := by kernel_rfl
theorem q_body (G : Nat → List AV) (B : Nat) (k n : Nat) (c x : AV) (bu p i : Int) (ys : List AV) (h0 h1 h2 h3 : Option Blk) (Q : Ex → List AV → Hp → Prop) : vc (Kn (⟨Try.prog, G, B⟩ : Ctx) noSum noLoop) 100 0 (.code (loopN Try.f4 1)) (fl 205 [2, 7, 8, 9, 12, 13, 14] [.int .u32 bu, .slice true (.ro k) 0 n, c, x, .slice false (.rw 5) 0 n, .int .i64 p, .int .i64 i]) [h0, h1, h2, h3, none, some ⟨1, ys⟩] (lv 205 [2, 7, 8, 9, 12, 13, 14] Q) = (
    tst (decide (i < (32 : Int))) (
      tst (decide (IntKind.i64.wrap (p + i) < IntKind.i64.wrap ((8 : Int) * (↑n : Int)))) (
        chk (decide ((0 : Int) ≤ i)) (
        tst ((kShr IntKind.u32 bu i).tmod (2 : Int) == (1 : Int)) (
          chk (decide ((0 : Int) ≤ IntKind.i64.wrap ((IntKind.i64.wrap (p + i)).tdiv (8 : Int))) && decide (IntKind.i64.wrap ((IntKind.i64.wrap (p + i)).tdiv (8 : Int)) < (↑n : Int))) (
          chk (isI IntKind.u8 ys (IntKind.i64.wrap ((IntKind.i64.wrap (p + i)).tdiv (8 : Int))).toNat) (
          chk (decide ((0 : Int) ≤ (IntKind.i64.wrap (p + i)).tmod (8 : Int))) (
          chk (decide ((0 : Int) ≤ IntKind.i64.wrap ((IntKind.i64.wrap (p + i)).tdiv (8 : Int))) && decide (IntKind.i64.wrap ((IntKind.i64.wrap (p + i)).tdiv (8 : Int)) < (↑n : Int))) (
          chk (decide ((IntKind.i64.wrap ((IntKind.i64.wrap (p + i)).tdiv (8 : Int))).toNat + (1 : Nat) ≤ ys.length)) (
          nam (IntKind.i64.wrap (i + (1 : Int))) (fun y1 =>
          Q .normal [.int IntKind.u32 (bu), .slice true (.ro (k)) 0 (n), (c), (x), .slice false (.rw 5) 0 (n), .int IntKind.i64 (p), .int IntKind.i64 (y1)] [(h0), (h1), (h2), (h3), none, some ⟨1, (ys.set (IntKind.i64.wrap ((IntKind.i64.wrap (p + i)).tdiv (8 : Int))).toNat (AV.int IntKind.u8 (kXor IntKind.u8 (getI ys (IntKind.i64.wrap ((IntKind.i64.wrap (p + i)).tdiv (8 : Int))).toNat) (kShl IntKind.u8 (1 : Int) ((IntKind.i64.wrap (p + i)).tmod (8 : Int))))))⟩]))))))) (
          nam (IntKind.i64.wrap (i + (1 : Int))) (fun y1 =>
          Q .normal [.int IntKind.u32 (bu), .slice true (.ro (k)) 0 (n), (c), (x), .slice false (.rw 5) 0 (n), .int IntKind.i64 (p), .int IntKind.i64 (y1)] [(h0), (h1), (h2), (h3), none, some ⟨1, ys⟩])))) (
        Q (.exit 2) [.int IntKind.u32 (bu), .slice true (.ro (k)) 0 (n), (c), (x), .slice false (.rw 5) 0 (n), .int IntKind.i64 (p), .int IntKind.i64 (i)] [(h0), (h1), (h2), (h3), none, some ⟨1, ys⟩])) (
      Q (.exit 2) [.int IntKind.u32 (bu), .slice true (.ro (k)) 0 (n), (c), (x), .slice false (.rw 5) 0 (n), .int IntKind.i64 (p), .int IntKind.i64 (i)] [(h0), (h1), (h2), (h3), none, some ⟨1, ys⟩])) := by kernel_rfl
theorem z_body (G : Nat → List AV) (B : Nat) (k n k2 n2 : Nat) (x : AV) (i : Int) (zs : List AV) (h0 : Option Blk) (Q : Ex → List AV → Hp → Prop) : vc (Kn (⟨Try.prog, G, B⟩ : Ctx) noSum noLoop) 100 0 (.code (loopN Try.f4 2)) (fl 205 [7, 8, 9, 15, 16] [.slice true (.ro k) 0 n, .slice true (.ro k2) 0 n2, x, .slice false (.rw 1) 0 n, .int .i64 i]) [h0, some ⟨1, zs⟩] (lv 205 [7, 8, 9, 15, 16] Q) = (
    tst (decide (i < (↑n : Int))) (
      tst (decide (i < (↑n2 : Int))) (
        chk (decide ((0 : Int) ≤ i) && decide (i < (↑n2 : Int))) (
        chk (isI IntKind.u8 (G k2) i.toNat) (
        chk (decide ((0 : Int) ≤ i) && decide (i < (↑n : Int))) (
        chk (decide (i.toNat + (1 : Nat) ≤ zs.length)) (
        nam (IntKind.i64.wrap (i + (1 : Int))) (fun y1 =>
        Q .normal [.slice true (.ro (k)) 0 (n), .slice true (.ro (k2)) 0 (n2), (x), .slice false (.rw 1) 0 (n), .int IntKind.i64 (y1)] [(h0), some ⟨1, (zs.set i.toNat (AV.int IntKind.u8 (getI (G k2) i.toNat)))⟩])))))) (
        nam (IntKind.i64.wrap (i + (1 : Int))) (fun y1 =>
        Q .normal [.slice true (.ro (k)) 0 (n), .slice true (.ro (k2)) 0 (n2), (x), .slice false (.rw 1) 0 (n), .int IntKind.i64 (y1)] [(h0), some ⟨1, zs⟩]))) (
      Q (.exit 4) [.slice true (.ro (k)) 0 (n), .slice true (.ro (k2)) 0 (n2), (x), .slice false (.rw 1) 0 (n), .int IntKind.i64 (i)] [(h0), some ⟨1, zs⟩])) := by kernel_rfl
theorem w_body (G : Nat → List AV) (B : Nat) (k n : Nat) (i : Int) (xs zs ws : List AV) (Q : Ex → List AV → Hp → Prop) : vc (Kn (⟨Try.prog, G, B⟩ : Ctx) noSum noLoop) 100 0 (.code (loopN Try.f4 3)) (fl 205 [7, 9, 15, 17, 18] [.slice true (.ro k) 0 n, .slice false (.rw 0) 0 n, .slice false (.rw 1) 0 n, .slice false (.rw 2) 0 n, .int .i64 i]) [some ⟨1, xs⟩, some ⟨1, zs⟩, some ⟨1, ws⟩] (lv 205 [7, 9, 15, 17, 18] Q) = (
    tst (decide (i < (↑n : Int))) (
      chk (decide ((0 : Int) ≤ i) && decide (i < (↑n : Int))) (
      chk (isI IntKind.u8 (G k) i.toNat) (
      chk (decide ((0 : Int) ≤ i) && decide (i < (↑n : Int))) (
      chk (isI IntKind.u8 xs i.toNat) (
      chk (decide ((0 : Int) ≤ i) && decide (i < (↑n : Int))) (
      chk (isI IntKind.u8 zs i.toNat) (
      chk (decide ((0 : Int) ≤ i) && decide (i < (↑n : Int))) (
      chk (decide (i.toNat + (1 : Nat) ≤ ws.length)) (
      nam (IntKind.i64.wrap (i + (1 : Int))) (fun y1 =>
      Q .normal [.slice true (.ro (k)) 0 (n), .slice false (.rw 0) 0 (n), .slice false (.rw 1) 0 (n), .slice false (.rw 2) 0 (n), .int IntKind.i64 (y1)] [some ⟨1, xs⟩, some ⟨1, zs⟩, some ⟨1, (ws.set i.toNat (AV.int IntKind.u8 (kXor IntKind.u8 (kXor IntKind.u8 (getI (G k) i.toNat) (getI xs i.toNat)) (getI zs i.toNat))))⟩])))))))))) (
      Q (.exit 6) [.slice true (.ro (k)) 0 (n), .slice false (.rw 0) 0 (n), .slice false (.rw 1) 0 (n), .slice false (.rw 2) 0 (n), .int IntKind.i64 (i)] [some ⟨1, xs⟩, some ⟨1, zs⟩, some ⟨1, ws⟩])) := by kernel_rfl
def at3 (a0 a1 a2 : Int) (i : Nat) : Int := getI [.int .i64 a0, .int .i64 a1, .int .i64 a2] i
theorem i64_8n {n : Nat} (h : n ≤ 65536) : IntKind.i64.wrap (8 * (n : Int)) = 8 * (n : Int) := i64_in (by omega)
/-- one flip, as the program makes it -/
theorem flip_step {l : List Int} {p : Nat} (hp : p < 8 * l.length) (hl : l.length ≤ 65536) :
    IntKind.i64.wrap ((p : Int).tdiv 8) = ((p / 8 : Nat) : Int) ∧ (p : Int).tmod 8 = ((p % 8 : Nat) : Int) ∧ isI .u8 (bl l) (p / 8) = true ∧
    (bl l).set (p / 8) (AV.int .u8 (kXor .u8 (getI (bl l) (p / 8)) (kShl .u8 1 ((p % 8 : Nat) : Int)))) = bl (flip l p) := by
  have h8 : p / 8 < l.length := by omega
  refine ⟨?_, ?_, (bl_get h8).1, ?_⟩
  · rw [Int.tdiv_eq_ediv_of_nonneg (by omega)]
    exact i64_in (by omega)
  · rw [Int.tmod_eq_emod_of_nonneg (by omega)]; rfl
  · rw [(bl_get h8).2, kShl8 (by omega), kXor8, bl_set]; rfl

theorem p_loop (G : Nat → List AV) (B : Nat) (bu : Int) (k n k2 n2 m : Nat) (i : Int) (h0 : Option Blk) (a0 a1 a2 : Int) (cs : List AV) (hc : (decide (i = 0) && (Nat.beq m n && (decide (0 < n) && (decide (n ≤ 65536) && rowB cs n)))) = true) : AWp (⟨Try.prog, G, B⟩ : Ctx) 0 (.loop (loopN Try.f4 0)) (fl 205 [2, 4, 7, 8, 9, 10] [.int .u32 bu, .ptr (.rw 1) 0, .slice true (.ro k) 0 n, .slice true (.ro k2) 0 n2, .slice false (.rw 3) 0 m, .int .i64 i]) [h0, some ⟨1, [.int .i64 a0, .int .i64 a1, .int .i64 a2]⟩, none, some ⟨1, cs⟩] (lv 205 [2, 4, 7, 8, 9, 10] fun e' vs'' H'' => e' = .exit 0 ∧ View 0 [.int .u32 bu, .ptr (.rw 0) 0, .slice true (.ro k) 0 n, .slice true (.ro k2) 0 n2, .slice false (.rw 1) 0 n, .undef] [some ⟨1, [.int .i64 a0, .int .i64 a1, .int .i64 a2]⟩, some ⟨1, bl (flips (ints cs 0 n) n (at3 a0 a1 a2) 3)⟩] vs'' H'') := by
  simp only [Bool.and_eq_true, decide_eq_true_eq] at hc
  obtain ⟨rfl, hm, hn0, hn, hr⟩ := hc
  have hm := Nat.eq_of_beq_eq_true hm
  subst hm
  obtain ⟨l, rfl, hl, hb, hle⟩ := rowB_get hr
  rw [← hle]
  refine AWp.lmono (Q := fun e vs H => e = .exit 0 ∧ vs = [.int .u32 bu, .ptr (.rw 1) 0, .slice true (.ro k) 0 m, .slice true (.ro k2) 0 n2, .slice false (.rw 3) 0 m, .int .i64 3] ∧ H = [h0, some ⟨1, [.int .i64 a0, .int .i64 a1, .int .i64 a2]⟩, none, some ⟨1, bl (flips l m (at3 a0 a1 a2) 3)⟩]) ?_ ?_
  · refine aloop_lv (fun j vs H => ∃ i : Nat, i ≤ 3 ∧ j = 3 - i ∧ vs = [.int .u32 bu, .ptr (.rw 1) 0, .slice true (.ro k) 0 m, .slice true (.ro k2) 0 n2, .slice false (.rw 3) 0 m, .int .i64 i] ∧ H = [h0, some ⟨1, [.int .i64 a0, .int .i64 a1, .int .i64 a2]⟩, none, some ⟨1, bl (flips l m (at3 a0 a1 a2) i)⟩]) 3
      ⟨0, by omega, rfl, rfl, rfl⟩ ?_
    rintro j vs H ⟨i, hi, rfl, rfl, rfl⟩
    refine wpn (mix G B) (noSum_ok _) (noLoop_ok _ _) 100 ?_
    rw [p_body]
    have hfl : (flips l m (at3 a0 a1 a2) i).length = m := by rw [flips_len, hl]
    simp only [tst_iff, chk_iff, nam_eq, Bool.and_eq_true, decide_eq_true_eq, decide_eq_false_iff_not, i64_8n hn, show (i : Int).toNat = i from rfl, bl_length, hfl]
    rw [show getI [AV.int IntKind.i64 a0, AV.int IntKind.i64 a1, AV.int IntKind.i64 a2] i = at3 a0 a1 a2 i from rfl]
    have hpl := posOf_lt hn0 (at3 a0 a1 a2 i)
    have hpd : posOf m (at3 a0 a1 a2 i) = ((at3 a0 a1 a2 i).tmod (8 * (m : Int))).natAbs := rfl
    have hf3 : flips l m (at3 a0 a1 a2) (i + 1) = flip (flips l m (at3 a0 a1 a2) i) (posOf m (at3 a0 a1 a2 i)) := rfl
    obtain ⟨f1, f2, f3, f4⟩ := flip_step (l := flips l m (at3 a0 a1 a2) i) (p := posOf m (at3 a0 a1 a2 i)) (by rw [hfl]; exact hpl) (by omega)
    generalize hA : (at3 a0 a1 a2 i).tmod (8 * (m : Int)) = A at *
    refine ⟨fun h => ⟨⟨by omega, h⟩, ?_, by simp; omega, fun hneg => ?_, fun hneg => ?_⟩, fun h => ?_⟩
    · have : i = 0 ∨ i = 1 ∨ i = 2 := by omega
      rcases this with rfl | rfl | rfl <;> rfl
    · have eA : IntKind.i64.wrap (0 - A) = ((posOf m (at3 a0 a1 a2 i) : Nat) : Int) := by rw [i64_in (by omega)]; omega
      rw [eA, f1, f2, show ((posOf m (at3 a0 a1 a2 i) / 8 : Nat) : Int).toNat = posOf m (at3 a0 a1 a2 i) / 8 from rfl, f4]
      refine ⟨⟨by omega, by omega⟩, f3, by omega, ⟨by omega, by omega⟩, by omega, 3 - (i + 1), by omega, .inl ⟨i + 1, by omega, rfl, by rw [i64_in (by omega)]; rfl, by rw [hf3]⟩⟩
    · have eA : A = ((posOf m (at3 a0 a1 a2 i) : Nat) : Int) := by omega
      rw [eA, f1, f2, show ((posOf m (at3 a0 a1 a2 i) / 8 : Nat) : Int).toNat = posOf m (at3 a0 a1 a2 i) / 8 from rfl, f4]
      refine ⟨⟨by omega, by omega⟩, f3, by omega, ⟨by omega, by omega⟩, by omega, 3 - (i + 1), by omega, .inl ⟨i + 1, by omega, rfl, by rw [i64_in (by omega)]; rfl, by rw [hf3]⟩⟩
    · have : i = 3 := by omega
      subst this
      exact ⟨by trivial, by trivial, by trivial⟩
  · rintro e vs H ⟨rfl, rfl, rfl⟩
    refine ⟨rfl, View.ren (θ := [1, 3]) (by decide) ⟨⟨by simp [bnds, bnd], by simp [rens, ren]⟩, ⟨bl_flat _ _, by rw [bl_rens]; rfl⟩, trivial⟩ (by simp [bnds, bnd]) (by simp [rens, ren, wk])⟩

def p_S (G : Nat → List AV) (B : Nat) (vs : List AV) (H : Hp) : Option (Bool × Ex × List AV × Hp) := match vs, H with
  | [.int .u32 bu, .ptr (.rw 1) 0, .slice true (.ro k) 0 n, .slice true (.ro k2) 0 n2, .slice false (.rw 3) 0 m, .int .i64 i], [h0, some ⟨1, [.int .i64 a0, .int .i64 a1, .int .i64 a2]⟩, none, some ⟨1, cs⟩] => some (decide (i = 0) && (Nat.beq m n && (decide (0 < n) && (decide (n ≤ 65536) && rowB cs n))), .exit 0, [.int .u32 bu, .ptr (.rw 0) 0, .slice true (.ro k) 0 n, .slice true (.ro k2) 0 n2, .slice false (.rw 1) 0 n, .undef], [some ⟨1, [.int .i64 a0, .int .i64 a1, .int .i64 a2]⟩, some ⟨1, bl (flips (ints cs 0 n) n (at3 a0 a1 a2) 3)⟩])
  | _, _ => none
theorem p_S_ok (G : Nat → List AV) (B : Nat) (vs : List AV) (H : Hp) (e : Ex) (vs' : List AV) (H' : Hp) (h : p_S G B vs H = some (true, e, vs', H')) :
    AWp (⟨Try.prog, G, B⟩ : Ctx) 0 (.loop (loopN Try.f4 0)) (fl 205 [2, 4, 7, 8, 9, 10] vs) H (lv 205 [2, 4, 7, 8, 9, 10] fun e' vs'' H'' => e' = e ∧ View 0 vs' H' vs'' H'') := by
  unfold p_S at h
  split at h
  · rename_i bu k n k2 n2 m i h0 a0 a1 a2 cs
    simp only [Option.some.injEq, Prod.mk.injEq] at h
    obtain ⟨hc, rfl, rfl, rfl⟩ := h
    exact p_loop G B bu k n k2 n2 m i h0 a0 a1 a2 cs hc
  · simp at h
def p_L (G : Nat → List AV) (B : Nat) : Loops := fun _ F H => lsum 205 [2, 4, 7, 8, 9, 10] (p_S G B) F H
theorem p_ok (G : Nat → List AV) (B : Nat) : LoopOk (⟨Try.prog, G, B⟩ : Ctx) (loopN Try.f4 0) (p_L G B) := lv_ok (p_S_ok G B)
theorem q_loop (G : Nat → List AV) (B : Nat) (bu : Int) (k n k2 n2 m1 m : Nat) (p i : Int) (h0 : Option Blk) (xs : List AV) (h2 h3 : Option Blk) (ys : List AV) (hc : (decide (i = 0) && (Nat.beq m n && (Nat.beq m1 n && (decide (0 < n) && (decide (n ≤ 65536) && (rowB xs n && (rowB ys n && (decide (0 ≤ p) && (decide (p < 8 * n) && (decide (0 ≤ bu) && decide (bu < 4294967296))))))))))) = true) : AWp (⟨Try.prog, G, B⟩ : Ctx) 0 (.loop (loopN Try.f4 1)) (fl 205 [2, 7, 8, 9, 12, 13, 14] [.int .u32 bu, .slice true (.ro k) 0 n, .slice true (.ro k2) 0 n2, .slice false (.rw 1) 0 m1, .slice false (.rw 5) 0 m, .int .i64 p, .int .i64 i]) [h0, some ⟨1, xs⟩, h2, h3, none, some ⟨1, ys⟩] (lv 205 [2, 7, 8, 9, 12, 13, 14] fun e' vs'' H'' => e' = .exit 2 ∧ View 0 [.undef, .slice true (.ro k) 0 n, .slice true (.ro k2) 0 n2, .slice false (.rw 0) 0 n, .slice false (.rw 1) 0 n, .undef, .undef] [some ⟨1, xs⟩, some ⟨1, bl (burstN (ints ys 0 n) p.toNat (w32 bu) (min 32 (8 * n - p.toNat)))⟩] vs'' H'') := by
  simp only [Bool.and_eq_true, decide_eq_true_eq] at hc
  obtain ⟨rfl, hm, hm1, hn0, hn, hrx, hr, hp0, hp1, hb0, hb1⟩ := hc
  have hm := Nat.eq_of_beq_eq_true hm
  have hm1 := Nat.eq_of_beq_eq_true hm1
  subst hm hm1
  obtain ⟨lx, rfl, hlx, _, _⟩ := rowB_get hrx
  obtain ⟨l, rfl, hl, hb, hle⟩ := rowB_get hr
  rw [← hle]
  obtain ⟨q, rfl⟩ := Int.eq_ofNat_of_zero_le hp0
  have hq : q < 8 * m1 := by omega
  rw [show (q : Int).toNat = q from rfl, ← u_w32 ⟨hb0, hb1⟩, w32_u]
  generalize w32 bu = w
  let N := min 32 (8 * m1 - q)
  refine AWp.lmono (Q := fun e vs H => e = .exit 2 ∧ (∃ i : Int, vs = [.int .u32 (u w), .slice true (.ro k) 0 m1, .slice true (.ro k2) 0 n2, .slice false (.rw 1) 0 m1, .slice false (.rw 5) 0 m1, .int .i64 q, .int .i64 i]) ∧ H = [h0, some ⟨1, bl lx⟩, h2, h3, none, some ⟨1, bl (burstN l q w N)⟩]) ?_ ?_
  · refine aloop_lv (fun j vs H => ∃ i : Nat, i ≤ N ∧ j = N - i ∧ vs = [.int .u32 (u w), .slice true (.ro k) 0 m1, .slice true (.ro k2) 0 n2, .slice false (.rw 1) 0 m1, .slice false (.rw 5) 0 m1, .int .i64 q, .int .i64 i] ∧ H = [h0, some ⟨1, bl lx⟩, h2, h3, none, some ⟨1, bl (burstN l q w i)⟩]) N
      ⟨0, by omega, rfl, rfl, rfl⟩ ?_
    rintro j vs H ⟨i, hi, rfl, rfl, rfl⟩
    refine wpn (mix G B) (noSum_ok _) (noLoop_ok _ _) 100 ?_
    rw [q_body]
    have hfl : (burstN l q w i).length = m1 := by rw [burst_len, hl]
    have eqi : IntKind.i64.wrap ((q : Int) + (i : Int)) = ((q + i : Nat) : Int) := by rw [i64_in (by omega)]; omega
    simp only [tst_iff, chk_iff, nam_eq, Bool.and_eq_true, decide_eq_true_eq, decide_eq_false_iff_not, i64_8n hn, eqi, bl_length, hfl]
    refine ⟨fun h => ⟨fun h' => ⟨by omega, fun hbit => ?_, fun hbit => ?_⟩, fun h' => ?_⟩, fun h => ?_⟩
    · have hiN : i < N := by simp only [N]; omega
      rw [bit_odd w i (by omega)] at hbit
      obtain ⟨f1, f2, f3, f4⟩ := flip_step (l := burstN l q w i) (p := q + i) (by rw [hfl]; omega) (by omega)
      rw [f1, f2, show (((q + i) / 8 : Nat) : Int).toNat = (q + i) / 8 from rfl, f4]
      refine ⟨⟨by omega, by omega⟩, f3, by omega, ⟨by omega, by omega⟩, by omega, N - (i + 1), by omega, .inl ⟨i + 1, by omega, rfl, by rw [i64_in (by omega)]; rfl, ?_⟩⟩
      simp only [burstN, hbit, if_true]
    · have hiN : i < N := by simp only [N]; omega
      rw [bit_odd w i (by omega)] at hbit
      refine ⟨N - (i + 1), by omega, .inl ⟨i + 1, by omega, rfl, by rw [i64_in (by omega)]; rfl, ?_⟩⟩
      simp [burstN, hbit]
    · have : i = N := by simp only [N] at *; omega
      subst this
      exact ⟨by trivial, ⟨_, by trivial⟩, by trivial⟩
    · have : i = N := by simp only [N] at *; omega
      subst this
      exact ⟨by trivial, ⟨_, by trivial⟩, by trivial⟩
  · rintro e vs H ⟨rfl, ⟨i, rfl⟩, rfl⟩
    refine ⟨rfl, View.ren (θ := [1, 5]) (by decide) ⟨⟨bl_flat _ _, by rw [bl_rens]; rfl⟩, ⟨bl_flat _ _, by rw [bl_rens]; rfl⟩, trivial⟩ (by simp [bnds, bnd]) (by simp [rens, ren, wk])⟩

def q_S (G : Nat → List AV) (B : Nat) (vs : List AV) (H : Hp) : Option (Bool × Ex × List AV × Hp) := match vs, H with
  | [.int .u32 bu, .slice true (.ro k) 0 n, .slice true (.ro k2) 0 n2, .slice false (.rw 1) 0 m1, .slice false (.rw 5) 0 m, .int .i64 p, .int .i64 i], [h0, some ⟨1, xs⟩, h2, h3, none, some ⟨1, ys⟩] => some (decide (i = 0) && (Nat.beq m n && (Nat.beq m1 n && (decide (0 < n) && (decide (n ≤ 65536) && (rowB xs n && (rowB ys n && (decide (0 ≤ p) && (decide (p < 8 * n) && (decide (0 ≤ bu) && decide (bu < 4294967296)))))))))), .exit 2, [.undef, .slice true (.ro k) 0 n, .slice true (.ro k2) 0 n2, .slice false (.rw 0) 0 n, .slice false (.rw 1) 0 n, .undef, .undef], [some ⟨1, xs⟩, some ⟨1, bl (burstN (ints ys 0 n) p.toNat (w32 bu) (min 32 (8 * n - p.toNat)))⟩])
  | _, _ => none
theorem q_S_ok (G : Nat → List AV) (B : Nat) (vs : List AV) (H : Hp) (e : Ex) (vs' : List AV) (H' : Hp) (h : q_S G B vs H = some (true, e, vs', H')) :
    AWp (⟨Try.prog, G, B⟩ : Ctx) 0 (.loop (loopN Try.f4 1)) (fl 205 [2, 7, 8, 9, 12, 13, 14] vs) H (lv 205 [2, 7, 8, 9, 12, 13, 14] fun e' vs'' H'' => e' = e ∧ View 0 vs' H' vs'' H'') := by
  unfold q_S at h
  split at h
  · rename_i bu k n k2 n2 m1 m p i h0 xs h2 h3 ys
    simp only [Option.some.injEq, Prod.mk.injEq] at h
    obtain ⟨hc, rfl, rfl, rfl⟩ := h
    exact q_loop G B bu k n k2 n2 m1 m p i h0 xs h2 h3 ys hc
  · simp at h
def q_L (G : Nat → List AV) (B : Nat) : Loops := fun _ F H => lsum 205 [2, 7, 8, 9, 12, 13, 14] (q_S G B) F H
theorem q_ok (G : Nat → List AV) (B : Nat) : LoopOk (⟨Try.prog, G, B⟩ : Ctx) (loopN Try.f4 1) (q_L G B) := lv_ok (q_S_ok G B)
/-- the other one's bytes, as far as they go -/
def zl (n n2 : Nat) (f : Nat → Int) (i : Nat) : List Int := (List.range n).map fun j => if j < i ∧ j < n2 then f j else 0
theorem zl_length (n n2 : Nat) (f : Nat → Int) (i : Nat) : (zl n n2 f i).length = n := by simp [zl]
theorem zl_set (n n2 : Nat) (f : Nat → Int) (i : Nat) (h : i < n) (h2 : i < n2) : (zl n n2 f i).set i (f i) = zl n n2 f (i + 1) := by
  apply List.ext_getElem?
  intro j
  simp only [List.getElem?_set, zl_length]
  by_cases hj : j < n
  · simp only [zl, List.getElem?_map, List.getElem?_range hj, Option.map_some]
    by_cases he : i = j
    · subst he; simp [h, h2]
    · have : (j < i + 1 ∧ j < n2) ↔ (j < i ∧ j < n2) := by omega
      simp [he, this]
  · rw [List.getElem?_eq_none (l := zl n n2 f (i + 1)) (by rw [zl_length]; omega), List.getElem?_eq_none (l := zl n n2 f i) (by rw [zl_length]; omega)]
    have : i ≠ j := by omega
    simp [this]
theorem zl_skip (n n2 : Nat) (f : Nat → Int) (i : Nat) (h2 : ¬ i < n2) : zl n n2 f (i + 1) = zl n n2 f i := by
  unfold zl
  apply List.map_congr_left
  intro j _
  have : (j < i + 1 ∧ j < n2) ↔ (j < i ∧ j < n2) := by omega
  simp [this]

theorem z_loop (G : Nat → List AV) (B : Nat) (k n k2 n2 m1 m : Nat) (i : Int) (xs zs : List AV) (hc : (decide (i = 0) && (Nat.beq m n && (Nat.beq m1 n && (decide (n ≤ 65536) && (Nat.beq zs.length n && (okI .u8 zs 0 n && (decide (ints zs 0 n = List.replicate n 0) && okI .u8 (G k2) 0 n2))))))) = true) : AWp (⟨Try.prog, G, B⟩ : Ctx) 0 (.loop (loopN Try.f4 2)) (fl 205 [7, 8, 9, 15, 16] [.slice true (.ro k) 0 n, .slice true (.ro k2) 0 n2, .slice false (.rw 0) 0 m1, .slice false (.rw 1) 0 m, .int .i64 i]) [some ⟨1, xs⟩, some ⟨1, zs⟩] (lv 205 [7, 8, 9, 15, 16] fun e' vs'' H'' => e' = .exit 4 ∧ wk [.slice true (.ro k) 0 n, .undef, .slice false (.rw 0) 0 n, .slice false (.rw 1) 0 n, .undef] vs'' ∧ H'' = [some ⟨1, xs⟩, some ⟨1, bl (zl n n2 (fun j => getI (G k2) j) n)⟩]) := by
  simp only [Bool.and_eq_true, decide_eq_true_eq] at hc
  obtain ⟨rfl, hm, hm1, hn, hzl, hz1, hz2, hg⟩ := hc
  have hm := Nat.eq_of_beq_eq_true hm
  have hm1 := Nat.eq_of_beq_eq_true hm1
  have hzl := Nat.eq_of_beq_eq_true hzl
  subst hm hm1
  have ez : zs = bl (zl m1 n2 (fun j => getI (G k2) j) 0) := by
    rw [bl_eq hz1 hzl, hz2]
    congr 1
    simp [zl, List.map_const']
  subst ez
  refine aloop_lv (fun j vs H => ∃ i : Nat, i ≤ m1 ∧ j = m1 - i ∧ vs = [.slice true (.ro k) 0 m1, .slice true (.ro k2) 0 n2, .slice false (.rw 0) 0 m1, .slice false (.rw 1) 0 m1, .int .i64 i] ∧ H = [some ⟨1, xs⟩, some ⟨1, bl (zl m1 n2 (fun j => getI (G k2) j) i)⟩]) m1
    ⟨0, by omega, rfl, rfl, rfl⟩ ?_
  rintro j vs H ⟨i, hi, rfl, rfl, rfl⟩
  refine wpn (mix G B) (noSum_ok _) (noLoop_ok _ _) 100 ?_
  rw [z_body]
  simp only [tst_iff, chk_iff, nam_eq, Bool.and_eq_true, decide_eq_true_eq, decide_eq_false_iff_not, show (i : Int).toNat = i from rfl, bl_length, zl_length, bl_set]
  refine ⟨fun h => ⟨fun h' => ⟨⟨by omega, h'⟩, ?_, ⟨by omega, h⟩, by omega, m1 - (i + 1), by omega, .inl ⟨i + 1, by omega, rfl, by rw [i64_in (by omega)]; rfl, ?_⟩⟩, fun h' => ⟨m1 - (i + 1), by omega, .inl ⟨i + 1, by omega, rfl, by rw [i64_in (by omega)]; rfl, ?_⟩⟩⟩, fun h => ?_⟩
  · have := okI_get hg (j := i) (by omega); rwa [Nat.zero_add] at this
  · rw [zl_set m1 n2 (fun j => getI (G k2) j) i (by omega) (by omega)]
  · rw [zl_skip _ _ _ _ (by omega)]
  · have : i = m1 := by omega
    subst this
    exact ⟨by trivial, by simp [wk], by trivial⟩

def z_S (G : Nat → List AV) (B : Nat) (vs : List AV) (H : Hp) : Option (Bool × Ex × List AV × Hp) := match vs, H with
  | [.slice true (.ro k) 0 n, .slice true (.ro k2) 0 n2, .slice false (.rw 0) 0 m1, .slice false (.rw 1) 0 m, .int .i64 i], [some ⟨1, xs⟩, some ⟨1, zs⟩] => some (decide (i = 0) && (Nat.beq m n && (Nat.beq m1 n && (decide (n ≤ 65536) && (Nat.beq zs.length n && (okI .u8 zs 0 n && (decide (ints zs 0 n = List.replicate n 0) && okI .u8 (G k2) 0 n2)))))), .exit 4, [.slice true (.ro k) 0 n, .undef, .slice false (.rw 0) 0 n, .slice false (.rw 1) 0 n, .undef], [some ⟨1, xs⟩, some ⟨1, bl (zl n n2 (fun j => getI (G k2) j) n)⟩])
  | _, _ => none
theorem z_S_ok (G : Nat → List AV) (B : Nat) (vs : List AV) (H : Hp) (e : Ex) (vs' : List AV) (H' : Hp) (h : z_S G B vs H = some (true, e, vs', H')) :
    AWp (⟨Try.prog, G, B⟩ : Ctx) 0 (.loop (loopN Try.f4 2)) (fl 205 [7, 8, 9, 15, 16] vs) H (lv 205 [7, 8, 9, 15, 16] fun e' vs'' H'' => e' = e ∧ wk vs' vs'' ∧ H'' = H') := by
  unfold z_S at h
  split at h
  · rename_i k n k2 n2 m1 m i xs zs
    simp only [Option.some.injEq, Prod.mk.injEq] at h
    obtain ⟨hc, rfl, rfl, rfl⟩ := h
    exact z_loop G B k n k2 n2 m1 m i xs zs hc
  · simp at h
def z_L (G : Nat → List AV) (B : Nat) : Loops := fun _ F H => lsum 205 [7, 8, 9, 15, 16] (z_S G B) F H
theorem z_ok (G : Nat → List AV) (B : Nat) : LoopOk (⟨Try.prog, G, B⟩ : Ctx) (loopN Try.f4 2) (z_L G B) := ls_ok (z_S_ok G B)
/-- the same, behind what the comparison left -/
def zz_S (G : Nat → List AV) (B : Nat) (vs : List AV) (H : Hp) : Option (Bool × Ex × List AV × Hp) := match vs, H with
  | [.slice true (.ro k) 0 n, .slice true (.ro k2) 0 n2, .slice false (.rw 0) 0 m1, .slice false (.rw 2) 0 m, .int .i64 i], [some ⟨1, xs⟩, _, some ⟨1, zs⟩] =>
    match z_S G B [.slice true (.ro k) 0 n, .slice true (.ro k2) 0 n2, .slice false (.rw 0) 0 m1, .slice false (.rw 1) 0 m, .int .i64 i] [some ⟨1, xs⟩, some ⟨1, zs⟩] with
    | some (c, e, vs', H') => some (bnds 0 xs && (bnds 0 zs && c), e, vs', H')
    | none => none
  | [.slice true (.ro k) 0 n, .slice true (.ro k2) 0 n2, .slice false (.rw 0) 0 m1, .slice false (.rw 4) 0 m, .int .i64 i], [some ⟨1, xs⟩, _, _, _, some ⟨1, zs⟩] =>
    match z_S G B [.slice true (.ro k) 0 n, .slice true (.ro k2) 0 n2, .slice false (.rw 0) 0 m1, .slice false (.rw 1) 0 m, .int .i64 i] [some ⟨1, xs⟩, some ⟨1, zs⟩] with
    | some (c, e, vs', H') => some (bnds 0 xs && (bnds 0 zs && c), e, vs', H')
    | none => none
  | _, _ => none
theorem zz_S_ok (G : Nat → List AV) (B : Nat) (vs : List AV) (H : Hp) (e : Ex) (vs' : List AV) (H' : Hp) (h : zz_S G B vs H = some (true, e, vs', H')) :
    AWp (⟨Try.prog, G, B⟩ : Ctx) 0 (.loop (loopN Try.f4 2)) (fl 205 [7, 8, 9, 15, 16] vs) H (lv 205 [7, 8, 9, 15, 16] fun e' vs'' H'' => e' = e ∧ wk vs' vs'' ∧ H'' = H') := by
  unfold zz_S at h
  split at h
  · rename_i k n k2 n2 m1 m i xs h1 zs
    split at h
    · rename_i c e1 v1 H1 hz
      simp only [Option.some.injEq, Prod.mk.injEq, Bool.and_eq_true] at h
      obtain ⟨⟨b1, b2, rfl⟩, rfl, rfl, rfl⟩ := h
      refine AWp.pre (z_S_ok G B _ _ _ _ _ hz) (View.frames (by decide) ⟨⟨bnds_mono (Nat.zero_le _) _ b1, by rw [rens_flat _ _ b1]; rfl⟩, ⟨bnds_mono (Nat.zero_le _) _ b2, by rw [rens_flat _ _ b2]; rfl⟩, trivial⟩ (θ := [0, 2]) rfl rfl (by simp [bnds, bnd]) (by simp [rens, ren]))
    · simp at h
  · rename_i k n k2 n2 m1 m i xs h1 h2 h3 zs
    split at h
    · rename_i c e1 v1 H1 hz
      simp only [Option.some.injEq, Prod.mk.injEq, Bool.and_eq_true] at h
      obtain ⟨⟨b1, b2, rfl⟩, rfl, rfl, rfl⟩ := h
      refine AWp.pre (z_S_ok G B _ _ _ _ _ hz) (View.frames (by decide) ⟨⟨bnds_mono (Nat.zero_le _) _ b1, by rw [rens_flat _ _ b1]; rfl⟩, ⟨bnds_mono (Nat.zero_le _) _ b2, by rw [rens_flat _ _ b2]; rfl⟩, trivial⟩ (θ := [0, 4]) rfl rfl (by simp [bnds, bnd]) (by simp [rens, ren]))
    · simp at h
  · simp at h
def zz_L (G : Nat → List AV) (B : Nat) : Loops := fun _ F H => lsum 205 [7, 8, 9, 15, 16] (zz_S G B) F H
theorem zz_ok (G : Nat → List AV) (B : Nat) : LoopOk (⟨Try.prog, G, B⟩ : Ctx) (loopN Try.f4 2) (zz_L G B) := ls_ok (zz_S_ok G B)

theorem w_loop (G : Nat → List AV) (B : Nat) (k n m1 m2 m : Nat) (i : Int) (xs zs ws : List AV) (hc : (decide (i = 0) && (Nat.beq m n && (Nat.beq m1 n && (Nat.beq m2 n && (decide (n ≤ 65536) && (rowB xs n && (rowB zs n && (Nat.beq ws.length n && okI .u8 (G k) 0 n)))))))) = true) : AWp (⟨Try.prog, G, B⟩ : Ctx) 0 (.loop (loopN Try.f4 3)) (fl 205 [7, 9, 15, 17, 18] [.slice true (.ro k) 0 n, .slice false (.rw 0) 0 m1, .slice false (.rw 1) 0 m2, .slice false (.rw 2) 0 m, .int .i64 i]) [some ⟨1, xs⟩, some ⟨1, zs⟩, some ⟨1, ws⟩] (lv 205 [7, 9, 15, 17, 18] fun e' vs'' H'' => e' = .exit 6 ∧ wk [.slice true (.ro k) 0 n, .slice false (.rw 0) 0 n, .slice false (.rw 1) 0 n, .slice false (.rw 2) 0 n, .undef] vs'' ∧ H'' = [some ⟨1, xs⟩, some ⟨1, zs⟩, some ⟨1, bl (x3 (ints (G k) 0 n) (ints xs 0 n) (ints zs 0 n))⟩]) := by
  simp only [Bool.and_eq_true, decide_eq_true_eq] at hc
  obtain ⟨rfl, hm, hm1, hm2, hn, hx, hz, hw, hg⟩ := hc
  have hm := Nat.eq_of_beq_eq_true hm
  have hm1 := Nat.eq_of_beq_eq_true hm1
  have hm2 := Nat.eq_of_beq_eq_true hm2
  have hw := Nat.eq_of_beq_eq_true hw
  subst hm hm1
  subst hm2
  obtain ⟨lx, rfl, hlx, _, hx2⟩ := rowB_get hx
  obtain ⟨lz, rfl, hlz, _, hz2⟩ := rowB_get hz
  rw [← hx2, ← hz2]
  let g : Nat → AV := fun j => .int .u8 (x8 (x8 (getI (G k) j) (lx.getD j 0)) (lz.getD j 0))
  refine aloop_lv (fun j vs H => ∃ i : Nat, i ≤ m2 ∧ j = m2 - i ∧ vs = [.slice true (.ro k) 0 m2, .slice false (.rw 0) 0 m2, .slice false (.rw 1) 0 m2, .slice false (.rw 2) 0 m2, .int .i64 i] ∧ H = [some ⟨1, bl lx⟩, some ⟨1, bl lz⟩, some ⟨1, fill ws g i⟩]) m2
    ⟨0, by omega, rfl, rfl, by rw [fill_zero]⟩ ?_
  rintro j vs H ⟨i, hi, rfl, rfl, rfl⟩
  refine wpn (mix G B) (noSum_ok _) (noLoop_ok _ _) 100 ?_
  rw [w_body]
  simp only [tst_iff, chk_iff, nam_eq, Bool.and_eq_true, decide_eq_true_eq, decide_eq_false_iff_not, show (i : Int).toNat = i from rfl, fill_length, kXor8]
  refine ⟨fun h => ?_, fun h => ?_⟩
  · have g1 := okI_get hg (j := i) (by omega)
    rw [Nat.zero_add] at g1
    have g2 := bl_get (l := lx) (j := i) (by omega)
    have g3 := bl_get (l := lz) (j := i) (by omega)
    rw [g2.2, g3.2]
    refine ⟨⟨by omega, h⟩, g1, ⟨by omega, h⟩, g2.1, ⟨by omega, h⟩, g3.1, ⟨by omega, h⟩, by omega, m2 - (i + 1), by omega, .inl ⟨i + 1, by omega, rfl, by rw [i64_in (by omega)]; rfl, ?_⟩⟩
    have := fill_set ws g i (by omega)
    rw [← this]
  · have : i = m2 := by omega
    subst this
    refine ⟨by trivial, by simp [wk], ?_⟩
    have : fill ws g i = bl (x3 (ints (G k) 0 i) lx lz) := by
      rw [← hw, fill_all, hw]
      unfold bl x3
      rw [List.map_map, ints_length]
      apply List.map_congr_left
      intro j hj
      have hj := List.mem_range.1 hj
      simp only [g, Function.comp]
      congr 3
      simp [ints, hj]
    rw [this]
def w_S (G : Nat → List AV) (B : Nat) (vs : List AV) (H : Hp) : Option (Bool × Ex × List AV × Hp) := match vs, H with
  | [.slice true (.ro k) 0 n, .slice false (.rw 0) 0 m1, .slice false (.rw 1) 0 m2, .slice false (.rw 2) 0 m, .int .i64 i], [some ⟨1, xs⟩, some ⟨1, zs⟩, some ⟨1, ws⟩] => some (decide (i = 0) && (Nat.beq m n && (Nat.beq m1 n && (Nat.beq m2 n && (decide (n ≤ 65536) && (rowB xs n && (rowB zs n && (Nat.beq ws.length n && okI .u8 (G k) 0 n))))))), .exit 6, [.slice true (.ro k) 0 n, .slice false (.rw 0) 0 n, .slice false (.rw 1) 0 n, .slice false (.rw 2) 0 n, .undef], [some ⟨1, xs⟩, some ⟨1, zs⟩, some ⟨1, bl (x3 (ints (G k) 0 n) (ints xs 0 n) (ints zs 0 n))⟩])
  | _, _ => none
theorem w_S_ok (G : Nat → List AV) (B : Nat) (vs : List AV) (H : Hp) (e : Ex) (vs' : List AV) (H' : Hp) (h : w_S G B vs H = some (true, e, vs', H')) :
    AWp (⟨Try.prog, G, B⟩ : Ctx) 0 (.loop (loopN Try.f4 3)) (fl 205 [7, 9, 15, 17, 18] vs) H (lv 205 [7, 9, 15, 17, 18] fun e' vs'' H'' => e' = e ∧ wk vs' vs'' ∧ H'' = H') := by
  unfold w_S at h
  split at h
  · rename_i k n m1 m2 m i xs zs ws
    simp only [Option.some.injEq, Prod.mk.injEq] at h
    obtain ⟨hc, rfl, rfl, rfl⟩ := h
    exact w_loop G B k n m1 m2 m i xs zs ws hc
  · simp at h
def w_L (G : Nat → List AV) (B : Nat) : Loops := fun _ F H => lsum 205 [7, 9, 15, 17, 18] (w_S G B) F H
theorem w_ok (G : Nat → List AV) (B : Nat) : LoopOk (⟨Try.prog, G, B⟩ : Ctx) (loopN Try.f4 3) (w_L G B) := ls_ok (w_S_ok G B)
end Go.Am
