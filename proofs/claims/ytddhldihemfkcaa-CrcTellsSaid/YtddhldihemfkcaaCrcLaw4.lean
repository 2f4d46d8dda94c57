/-
  CrcTells: the call answers true.
-/
import Derived.Test.YtddhldihemfkcaaCrcLaw3
namespace Go.Am
open Go.Proofs Crc
theorem rep1 (n : Nat) : (List.replicate n [AV.int IntKind.u8 0]).flatten = bl (List.replicate n 0) := by
  induction n with
  | zero => rfl
  | succ n ih => rw [List.replicate_succ, List.flatten_cons, ih]; rfl
theorem bl_bytes {a b : List Int} (ha : BytesR a) (hb : BytesR b) (h : List.map toByte (bl a) = List.map toByte (bl b)) : a = b := by
  induction a generalizing b with
  | nil => cases b <;> simp [bl] at h ⊢
  | cons x a ih =>
    cases b with
    | nil => simp [bl] at h
    | cons y b =>
      simp only [bl, List.map_cons, List.cons.injEq] at h
      have hx := ha x (by simp)
      have hy := hb y (by simp)
      have e : x = y := by
        have := congrArg UInt8.toNat h.1
        simp only [toByte, UInt8.toNat_ofNat'] at this
        omega
      rw [e, ih (fun c hc => ha c (by simp [hc])) (fun c hc => hb c (by simp [hc])) h.2]
theorem zl_range {n n2 : Nat} {f : Nat → Int} (h : ∀ j, j < n2 → 0 ≤ f j ∧ f j < 256) (i : Nat) : BytesR (zl n n2 f i) := by
  intro c hc
  simp only [zl, List.mem_map] at hc
  obtain ⟨j, _, rfl⟩ := hc
  split
  · rename_i hj; exact h j hj.2
  · omega
theorem x3_length (a b c : List Int) : (x3 a b c).length = a.length := by simp [x3]
theorem law2 (G : Nat → List AV) (B : Nat) (k n k2 n2 : Nat) (a0 a1 a2 : Int) (w : W) (b : List Int) (hG : n ≤ 65536 → G k = bl b) (hb : n ≤ 65536 → b.length = n ∧ BytesR b) (h2 : okI .u8 (G k2) 0 n2 = true) (h2r : ∀ j, j < n2 → 0 ≤ getI (G k2) j ∧ getI (G k2) j < 256) :
    ACalls (⟨Try.prog, G, B⟩ : Ctx) 4 [.agg [.slice true (.ro k) 0 n, .slice true (.ro k2) 0 n2], .agg [.int .i64 a0, .int .i64 a1, .int .i64 a2], .int .u32 (u w)] [] fun v _ => v = .bool true := by
  refine calli (l := []) (mix G B) (by kernel_rfl) (sums_cons (known_ok G B) (sums_cons (su_sum_ok G B) (sums_nil _)))
    (loop := lps 0 (p_L G B) (lps 2 (q_L G B) (lps 4 (zz_L G B) (w_L G B)))) (fn := Try.f4) (c := bodyOf Try.f4) (by kernel_rfl) (by kernel_rfl) (by kernel_rfl)
    (.cast (.cons (.left (by kernel_rfl) (p_ok G B)) (.cons (.right (i := 2) (by kernel_rfl) (by kernel_rfl) (.left (by kernel_rfl) (q_ok G B))) (.cons (.right (i := 4) (by kernel_rfl) (by kernel_rfl) (.right (i := 4) (by kernel_rfl) (by kernel_rfl) (.left (by kernel_rfl) (zz_ok G B))))
      (.cons (.right (i := 6) (by kernel_rfl) (by kernel_rfl) (.right (i := 6) (by kernel_rfl) (by kernel_rfl) (.right (i := 6) (by kernel_rfl) (by kernel_rfl) (w_ok G B)))) .nil)))) (by kernel_rfl)) 300 ?_
  rw [law2_run]
  by_cases h0 : n = 0
  · subst h0; exact tst_pos (by simp) rfl
  refine tst_neg (by simp; omega) ?_
  by_cases h1 : n ≤ 65536
  rotate_left
  · exact tst_pos (by simp; omega) rfl
  refine tst_neg (by simp; omega) ?_
  replace hG := hG h1
  obtain ⟨hb1, hb2⟩ := hb h1
  have eT : List.take n (bl b) = bl b := List.take_of_length_le (by rw [bl_length]; omega)
  have hX : (flips b n (at3 a0 a1 a2) 3).length = n := by rw [flips_len, hb1]
  have hXr := flips_range hb2 n (at3 a0 a1 a2) 3
  have hpar : sum (flips b n (at3 a0 a1 a2) 3) ≠ sum b := by
    intro he
    have hlt := fun i => posOf_lt (n := n) (by omega) (at3 a0 a1 a2 i)
    have hl := fun i => flips_len b n (at3 a0 a1 a2) i
    have p1 := par_flip (l := flips b n (at3 a0 a1 a2) 2) (p := posOf n (at3 a0 a1 a2 2)) (flips_range hb2 _ _ _) (by rw [hl, hb1]; exact hlt 2)
    have p2 := par_flip (l := flips b n (at3 a0 a1 a2) 1) (p := posOf n (at3 a0 a1 a2 1)) (flips_range hb2 _ _ _) (by rw [hl, hb1]; exact hlt 1)
    have p3 := par_flip (l := b) (p := posOf n (at3 a0 a1 a2 0)) hb2 (by rw [hb1]; exact hlt 0)
    have q1 : par (sum (flips b n (at3 a0 a1 a2) 3)) = !(par (sum (flips b n (at3 a0 a1 a2) 2))) := p1
    have q2 : par (sum (flips b n (at3 a0 a1 a2) 2)) = !(par (sum (flips b n (at3 a0 a1 a2) 1))) := p2
    have q3 : par (sum (flips b n (at3 a0 a1 a2) 1)) = !(par (sum b)) := p3
    rw [he, q2, q3] at q1
    cases h : par (sum b) <;> simp [h] at q1
  have eI : ∀ l : List Int, l.length = n → ints (bl l) 0 n = l := fun l hl => by rw [← hl]; exact bl_ints l
  simp only [hG, Nat.mul_one, List.drop_zero, List.nil_append, eT, Nat.zero_add, eI b hb1]
  generalize flips b n (at3 a0 a1 a2) 3 = X at *
  have hZ : (zl n n2 (fun j => getI (G k2) j) n).length = n := zl_length _ _ _ _
  have hZr : BytesR (zl n n2 (fun j => getI (G k2) j) n) := zl_range h2r n
  generalize zl n n2 (fun j => getI (G k2) j) n = Z at *
  have eO : ∀ l : List Int, l.length = n → okI .u8 (bl l) 0 n = true := fun l hl => by rw [← hl]; exact bl_okI l
  have eR : ∀ l : List Int, l.length = n → BytesR l → rowB (bl l) n = true := fun l hl hr => by rw [← hl]; exact rowB_mk hr
  have eK : ∀ l : List Int, l.length = n → List.take n (bl l) = bl l := fun l hl => List.take_of_length_le (by rw [bl_length]; omega)
  have eU : ∀ l : List Int, (bl l).all isU8 = true := fun l => by simp [bl, isU8]
  have eC : ∀ l : List Int, (bl l).all isCell = true := fun l => by simp [bl, isCell]
  have hR : (List.replicate n (0 : Int)).length = n := by simp
  have hW : (x3 b X Z).length = n := by rw [x3_length, hb1]
  have e8 : (!(8 : Int) * (n : Int) == 0) = true := by simp; omega
  have hn5 : (n : Int) * ((1 : Nat) : Int) ≤ 140737488355328 := by omega
  have hsum : kXor .u32 (kXor .u32 (u (sum b)) (u (sum X))) (u (sum Z)) = u (sum (x3 b X Z)) := by
    rw [kXor_w, kXor_w, w32_u, w32_u, w32_u, w32_u, sum_x3 (by omega) (by omega) hb2 hXr hZr]
  have hY : ∀ p i, (burstN b p w i).length = n := fun p i => by rw [burst_len, hb1]
  have hYr : ∀ p i, BytesR (burstN b p w i) := fun p i => burst_range hb2 p w i
  have hbr : ∀ p : Nat, p < 8 * n → sum (burstN b p w (min 32 (8 * n - p))) = sum b → burstN b p w (min 32 (8 * n - p)) = b := fun p hp hs => burst_tells hb2 (by omega) (by omega) hs
  have hwr := u_range w
  have neqX : (!List.map toByte (bl X) == List.map toByte (bl b)) = true := by
    rw [Bool.not_eq_true', beq_eq_false_iff_ne]
    intro he
    exact hpar (by rw [bl_bytes hXr hb2 he])
  have hn1 : n ≤ 9223372036854775807 := by omega
  have hn2 : n ≤ 140737488355328 := by omega
  have hn3 : (n : Int) ≤ 140737488355328 := by omega
  have hn4 : 0 < n := by omega
  simp only [hG, Nat.mul_one, List.drop_zero, List.nil_append, eT, Nat.zero_add, bl_length, hb1, eC, eU, eR b hb1 hb2, eI b hb1, hX, eK X hX, eI X hX, eO X hX, eO b hb1, eR X hX hXr, neqX, i64_8n h1, w32_u, hY, eK _ (hY _ _), eI _ (hY _ _), eO _ (hY _ _), eR _ (hY _ _) (hYr _ _), rep1, Int.toNat_natCast, bl_flat, eI _ hR, eO _ hR, hR, h2, hZ, eI Z hZ, eO Z hZ, eR Z hZ hZr, hW, eI _ hW, eO _ hW, hsum,
    chk_iff, nam_eq, Bool.and_eq_true, decide_eq_true_eq, Nat.beq_refl, beq_self_eq_true, h1, hn1, hn2, hn3, hn4, hn5, e8, hwr, and_true, true_and, Nat.le_refl, Int.le_refl, Int.mul_one]
  refine tst_pos rfl (tst_neg (by rw [u_beq]; simpa using hpar) ?_)
  have hab : (a0.tmod (8 * (n : Int))).natAbs < 8 * n := posOf_lt (n := n) hn4 a0
  generalize a0.tmod (8 * (n : Int)) = A at *
  have fin : ∀ p : Nat, p < 8 * n → tst (!List.map toByte (bl (burstN b p w (min 32 (8 * n - p)))) == List.map toByte (bl b)) (tst (u (sum (burstN b p w (min 32 (8 * n - p)))) == u (sum b)) (AV.bool false = AV.bool true) (tst true True (AV.bool false = AV.bool true))) (tst true True (AV.bool false = AV.bool true)) := by
    intro p hp
    refine tst_mk (fun hne => tst_neg ?_ trivial) (fun _ => trivial)
    rw [Bool.not_eq_true', beq_eq_false_iff_ne] at hne
    rw [u_beq, beq_eq_false_iff_ne]
    intro he
    exact hne (by rw [hbr p hp he])
  refine tst_mk (fun hneg => ?_) (fun hneg => ?_)
  · simp only [decide_eq_true_eq] at hneg
    have eA : IntKind.i64.wrap (0 - A) = ((A.natAbs : Nat) : Int) := by rw [i64_in (by omega)]; omega
    rw [eA]
    exact ⟨⟨by omega, by omega⟩, fin A.natAbs hab⟩
  · simp only [decide_eq_false_iff_not] at hneg
    have eA : A = ((A.natAbs : Nat) : Int) := by omega
    rw [eA]
    exact ⟨⟨by omega, by omega⟩, fin A.natAbs hab⟩
end Go.Am
