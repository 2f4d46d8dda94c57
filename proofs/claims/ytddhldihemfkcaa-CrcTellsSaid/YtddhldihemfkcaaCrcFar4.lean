/-
  Registers behind so many bytes 0: the calls.
-/
import Derived.Test.YtddhldihemfkcaaCrcFar3
namespace Go.Am
open Go.Proofs Crc
def Fq (q : Nat) (i : Nat) : W := zs q (bitN i)
theorem sq_Fq (q : Nat) : mk32 (sq (Fq q)) = mk32 (Fq (2 * q)) := mk32_congr fun i _ => by
  unfold sq
  rw [show app (Fq q) 32 (Fq q i) = zs q (Fq q i) from app_zs q _]
  unfold Fq
  rw [zs_add]; congr 1; omega
theorem spl_mk (f g : Nat → W) : spl (mk32 f) 0 (mk32 g) = mk32 g := by
  unfold spl
  rw [List.drop_eq_nil_of_le (by simp only [mk32_length]; omega)]
  simp
theorem M_mk32 (f : Nat → W) : mk32 (sq (M (mk32 f))) = mk32 (sq f) := mk32_congr fun i hi => by
  unfold sq
  rw [M_mk f hi]
  exact app_congr 32 (fun i hi => M_mk f hi) _
theorem kAnd1 (n : Nat) (h : n ≤ 9223372036854775807) : kAnd .i64 (n : Int) 1 = ((n % 2 : Nat) : Int) := by
  unfold kAnd
  rw [BitVec.toNat_and, show (BitVec.ofInt (IntKind.bits .i64) 1).toNat = 1 by decide]
  have : (BitVec.ofInt (IntKind.bits .i64) (n : Int)).toNat = n := by simp [IntKind.bits]; omega
  rw [this, Nat.and_one_is_mod]
  exact i64_in (by omega)
theorem kShr1 (n : Nat) : kShr .i64 (n : Int) 1 = ((n / 2 : Nat) : Int) := by
  unfold kShr
  rw [show min (Int.toNat 1) (IntKind.bits .i64) = 1 by decide, Int.fdiv_eq_ediv_of_nonneg _ (by decide)]
  rfl
theorem bnds_mk32 (k : Nat) (f : Nat → W) : bnds k (mk32 f) = true := by
  rw [bnds_eq]
  simp only [List.all_eq_true, mk32, List.mem_map]
  rintro v ⟨i, _, rfl⟩; simp [bnd]

theorem f0_loop (G : Nat → List AV) (B : Nat) (s n i : Int) (a : List AV) (hc : (decide (i = 0) && (matOk a && (List.range 32).all (fun k => decide (getI a k = 0)))) = true) : AWp (⟨Try.prog, G, B⟩ : Ctx) 0 (.loop (loopN Try.f18 0)) (fl 30 [0, 1, 5, 7] [.int .u32 s, .int .i64 n, .ptr (.rw 0) 0, .int .i64 i]) [some ⟨1, a⟩] (lv 30 [0, 1, 5, 7] fun e' vs'' H'' => e' = .exit 0 ∧ View 0 [.int .u32 s, .int .i64 n, .ptr (.rw 0) 0, .undef] [some ⟨1, mk32 (Fq 1)⟩] vs'' H'') := by
  simp only [Bool.and_eq_true, decide_eq_true_eq, List.all_eq_true, List.mem_range] at hc
  obtain ⟨rfl, ha, h0⟩ := hc
  have ea : a = z32 := by
    rw [matOk_eq ha]
    have : mk32 (M a) = mk32 (fun _ => 0#32) := mk32_congr fun i hi => by simp only [M, h0 i hi]; decide
    rw [this]; rfl
  subst ea
  refine wpu (mix G B) (sums_cons (run_sum_ok G B) (sums_nil _)) 2000 ?_
  rw [f0_run]
  refine ⟨rfl, ?_⟩
  refine View.same (H := [some ⟨1, mk32 (Fq 1)⟩]) (G := _) (Nat.zero_le _) (by simp [hpB, bnds_mk32]) ?_
  simp [fv, bnd]
def f0_S (G : Nat → List AV) (B : Nat) (vs : List AV) (H : Hp) : Option (Bool × Ex × List AV × Hp) := match vs, H with
  | [.int .u32 s, .int .i64 n, .ptr (.rw 0) 0, .int .i64 i], [some ⟨1, a⟩] => some (decide (i = 0) && (matOk a && (List.range 32).all (fun k => decide (getI a k = 0))), .exit 0, [.int .u32 s, .int .i64 n, .ptr (.rw 0) 0, .undef], [some ⟨1, mk32 (Fq 1)⟩])
  | _, _ => none
theorem f0_S_ok (G : Nat → List AV) (B : Nat) (vs : List AV) (H : Hp) (e : Ex) (vs' : List AV) (H' : Hp) (h : f0_S G B vs H = some (true, e, vs', H')) :
    AWp (⟨Try.prog, G, B⟩ : Ctx) 0 (.loop (loopN Try.f18 0)) (fl 30 [0, 1, 5, 7] vs) H (lv 30 [0, 1, 5, 7] fun e' vs'' H'' => e' = e ∧ View 0 vs' H' vs'' H'') := by
  unfold f0_S at h
  split at h
  · rename_i s n i a
    simp only [Option.some.injEq, Prod.mk.injEq] at h
    obtain ⟨hc, rfl, rfl, rfl⟩ := h
    exact f0_loop G B s n i a hc
  · simp at h
def f0_L (G : Nat → List AV) (B : Nat) : Loops := fun _ F H => lsum 30 [0, 1, 5, 7] (f0_S G B) F H
theorem f0_ok (G : Nat → List AV) (B : Nat) : LoopOk (⟨Try.prog, G, B⟩ : Ctx) (loopN Try.f18 0) (f0_L G B) := lv_ok (f0_S_ok G B)
theorem g0_loop (G : Nat → List AV) (B : Nat) (s n i : Int) (a : List AV) (hc : (decide (i = 0) && (matOk a && (List.range 32).all (fun k => decide (getI a k = 0)))) = true) : AWp (⟨Try.prog, G, B⟩ : Ctx) 0 (.loop (loopN Try.f11 0)) (fl 41 [0, 1, 5, 6] [.int .u32 s, .int .i64 n, .ptr (.rw 0) 0, .int .i64 i]) [some ⟨1, a⟩] (lv 41 [0, 1, 5, 6] fun e' vs'' H'' => e' = .exit 0 ∧ View 0 [.int .u32 s, .int .i64 n, .ptr (.rw 0) 0, .undef] [some ⟨1, mk32 (Fq 1)⟩] vs'' H'') := by
  simp only [Bool.and_eq_true, decide_eq_true_eq, List.all_eq_true, List.mem_range] at hc
  obtain ⟨rfl, ha, h0⟩ := hc
  have ea : a = z32 := by
    rw [matOk_eq ha]
    have : mk32 (M a) = mk32 (fun _ => 0#32) := mk32_congr fun i hi => by simp only [M, h0 i hi]; decide
    rw [this]; rfl
  subst ea
  refine wpu (mix G B) (sums_cons (step_sum_ok G B) (sums_nil _)) 2000 ?_
  rw [g0_run]
  refine ⟨rfl, ?_⟩
  refine View.same (H := [some ⟨1, mk32 (Fq 1)⟩]) (G := []) (Nat.zero_le _) (by simp [hpB, bnds_mk32]) ?_
  simp [fv, bnd]

def g0_S (G : Nat → List AV) (B : Nat) (vs : List AV) (H : Hp) : Option (Bool × Ex × List AV × Hp) := match vs, H with
  | [.int .u32 s, .int .i64 n, .ptr (.rw 0) 0, .int .i64 i], [some ⟨1, a⟩] => some (decide (i = 0) && (matOk a && (List.range 32).all (fun k => decide (getI a k = 0))), .exit 0, [.int .u32 s, .int .i64 n, .ptr (.rw 0) 0, .undef], [some ⟨1, mk32 (Fq 1)⟩])
  | _, _ => none
theorem g0_S_ok (G : Nat → List AV) (B : Nat) (vs : List AV) (H : Hp) (e : Ex) (vs' : List AV) (H' : Hp) (h : g0_S G B vs H = some (true, e, vs', H')) :
    AWp (⟨Try.prog, G, B⟩ : Ctx) 0 (.loop (loopN Try.f11 0)) (fl 41 [0, 1, 5, 6] vs) H (lv 41 [0, 1, 5, 6] fun e' vs'' H'' => e' = e ∧ View 0 vs' H' vs'' H'') := by
  unfold g0_S at h
  split at h
  · rename_i s n i a
    simp only [Option.some.injEq, Prod.mk.injEq] at h
    obtain ⟨hc, rfl, rfl, rfl⟩ := h
    exact g0_loop G B s n i a hc
  · simp at h
def g0_L (G : Nat → List AV) (B : Nat) : Loops := fun _ F H => lsum 41 [0, 1, 5, 6] (g0_S G B) F H
theorem g0_ok (G : Nat → List AV) (B : Nat) : LoopOk (⟨Try.prog, G, B⟩ : Ctx) (loopN Try.f11 0) (g0_L G B) := lv_ok (g0_S_ok G B)
theorem fm_loop (G : Nat → List AV) (B : Nat) (s n : Int) (a : List AV) (hc : (decide (0 ≤ s) && (decide (s < 4294967296) && (decide (n ≤ 9223372036854775807) && (matOk a && (List.range 32).all (fun k => decide (M a k = Fq 1 k)))))) = true) : AWp (⟨Try.prog, G, B⟩ : Ctx) 0 (.loop (loopN Try.f18 1)) (fl 30 [0, 1, 5] [.int .u32 s, .int .i64 n, .ptr (.rw 0) 0]) [some ⟨1, a⟩] (lv 30 [0, 1, 5] fun e' vs'' H'' => e' = .exit 2 ∧ View 0 [.int .u32 (u (zs n.toNat (w32 s))), .undef, .undef] [some ⟨1, []⟩] vs'' H'') := by
  simp only [Bool.and_eq_true, decide_eq_true_eq, List.all_eq_true, List.mem_range] at hc
  obtain ⟨h1, h2, h3, ha, hm⟩ := hc
  rw [matOk_eq ha, mk32_congr hm, ← u_w32 ⟨h1, h2⟩, w32_u]
  generalize w32 s = x
  refine AWp.lmono (Q := fun e vs H => e = .exit 2 ∧ (∃ n' p, vs = [.int .u32 (u (zs n.toNat x)), n', p]) ∧ ∃ q, H = [some ⟨1, mk32 (Fq q)⟩]) ?_ ?_
  · refine aloop_lv (fun j vs H => ∃ (q : Nat) (y : W) (m : Int), j = m.toNat ∧ m ≤ 9223372036854775807 ∧ zs (q * m.toNat) y = zs n.toNat x ∧ vs = [.int .u32 (u y), .int .i64 m, .ptr (.rw 0) 0] ∧ H = [some ⟨1, mk32 (Fq q)⟩]) n.toNat
      ⟨1, x, n, rfl, h3, by rw [Nat.one_mul], rfl, rfl⟩ ?_
    rintro j vs H ⟨q, y, m, rfl, hm, he, rfl, rfl⟩
    refine wpn (mix G B) (sums_cons (of_sum_ok G B).1 (sums_cons (tw_sum_ok G B) (sums_nil _))) (noLoop_ok _ _) 200 ?_
    rw [fm_body]
    simp only [tst_iff, chk_iff, nam_eq, Bool.and_eq_true, decide_eq_true_eq, decide_eq_false_iff_not, take32, matOk_mk, mk32_length, spl_mk, w32_u, M_mk32]
    rw [app_congr 32 (fun i hi => M_mk (Fq q) hi), show app (fun i => Fq q i) 32 y = zs q y from app_zs q y, sq_Fq]
    refine ⟨fun h => ?_, fun h => ?_⟩
    · obtain ⟨k, rfl⟩ := Int.eq_ofNat_of_zero_le (Int.le_of_lt h)
      rw [kAnd1 k (by omega), kShr1]
      have hk : 0 < k := by omega
      refine ⟨fun hb => ⟨by omega, ⟨trivial, u_range _⟩, by omega, trivial, by omega, k / 2, ?_, .inl ⟨2 * q, zs q y, ((k / 2 : Nat) : Int), rfl, by omega, ?_, rfl, rfl⟩⟩, fun hb => ⟨by omega, trivial, by omega, k / 2, ?_, .inl ⟨2 * q, y, ((k / 2 : Nat) : Int), rfl, by omega, ?_, rfl, rfl⟩⟩⟩
      · show k / 2 < k; omega
      · have : k % 2 = 1 := by simp at hb; omega
        rw [zs_add, ← he]
        congr 1
        show q + 2 * q * (k / 2) = q * k
        have e : k = 2 * (k / 2) + 1 := by omega
        calc q + 2 * q * (k / 2) = q * (2 * (k / 2) + 1) := by rw [Nat.mul_add, Nat.mul_one, ← Nat.mul_assoc, Nat.mul_comm q 2]; omega
          _ = q * k := by rw [← e]
      · show k / 2 < k; omega
      · have : k % 2 = 0 := by simp at hb; omega
        rw [← he]
        congr 1
        show 2 * q * (k / 2) = q * k
        have e : k = 2 * (k / 2) := by omega
        calc 2 * q * (k / 2) = q * (2 * (k / 2)) := by rw [← Nat.mul_assoc, Nat.mul_comm q 2]
          _ = q * k := by rw [← e]
    · have : m.toNat = 0 := by omega
      rw [this, Nat.mul_zero] at he
      exact ⟨trivial, ⟨_, _, by rw [← he]; rfl⟩, q, rfl⟩
  · rintro e vs H ⟨rfl, ⟨n', p, rfl⟩, q, rfl⟩
    refine ⟨rfl, ⟨[0], rfl, Nat.zero_le _, fun i hi => by omega, fun i hi => by simp at hi; subst hi; simp, fun i j b b' h1 h2 _ => ?_, fun i b hb => ?_, rfl, fun k v hk => ?_⟩⟩
    · have a1 := (List.getElem?_eq_some_iff.1 h1).1
      have a2 := (List.getElem?_eq_some_iff.1 h2).1
      simp at a1 a2; omega
    · have a1 := (List.getElem?_eq_some_iff.1 hb).1
      simp at a1; subst a1
      simp at hb; subst hb
      exact ⟨_, rfl, Nat.zero_le _, rfl, fun k v hk => by simp at hk⟩
    · rcases k with _ | _ | _ | k
      · simp at hk; subst hk; exact ⟨by simp [bnd], .inr (by simp [ren])⟩
      · simp at hk; subst hk; exact ⟨by simp [bnd], .inl rfl⟩
      · simp at hk; subst hk; exact ⟨by simp [bnd], .inl rfl⟩
      · simp at hk
def fm_S (G : Nat → List AV) (B : Nat) (vs : List AV) (H : Hp) : Option (Bool × Ex × List AV × Hp) := match vs, H with
  | [.int .u32 s, .int .i64 n, .ptr (.rw 0) 0], [some ⟨1, a⟩] => some (decide (0 ≤ s) && (decide (s < 4294967296) && (decide (n ≤ 9223372036854775807) && (matOk a && (List.range 32).all (fun k => decide (M a k = Fq 1 k))))), .exit 2, [.int .u32 (u (zs n.toNat (w32 s))), .undef, .undef], [some ⟨1, []⟩])
  | _, _ => none
theorem fm_S_ok (G : Nat → List AV) (B : Nat) (vs : List AV) (H : Hp) (e : Ex) (vs' : List AV) (H' : Hp) (h : fm_S G B vs H = some (true, e, vs', H')) :
    AWp (⟨Try.prog, G, B⟩ : Ctx) 0 (.loop (loopN Try.f18 1)) (fl 30 [0, 1, 5] vs) H (lv 30 [0, 1, 5] fun e' vs'' H'' => e' = e ∧ View 0 vs' H' vs'' H'') := by
  unfold fm_S at h
  split at h
  · rename_i s n a
    simp only [Option.some.injEq, Prod.mk.injEq] at h
    obtain ⟨hc, rfl, rfl, rfl⟩ := h
    exact fm_loop G B s n a hc
  · simp at h
def fm_L (G : Nat → List AV) (B : Nat) : Loops := fun _ F H => lsum 30 [0, 1, 5] (fm_S G B) F H
theorem fm_ok (G : Nat → List AV) (B : Nat) : LoopOk (⟨Try.prog, G, B⟩ : Ctx) (loopN Try.f18 1) (fm_L G B) := lv_ok (fm_S_ok G B)
theorem fo_loop (G : Nat → List AV) (B : Nat) (s n : Int) (a : List AV) (hc : (decide (0 ≤ s) && (decide (s < 4294967296) && (decide (n ≤ 9223372036854775807) && (matOk a && (List.range 32).all (fun k => decide (M a k = Fq 1 k)))))) = true) : AWp (⟨Try.prog, G, B⟩ : Ctx) 0 (.loop (loopN Try.f11 1)) (fl 41 [0, 1, 5] [.int .u32 s, .int .i64 n, .ptr (.rw 0) 0]) [some ⟨1, a⟩] (lv 41 [0, 1, 5] fun e' vs'' H'' => e' = .exit 2 ∧ View 0 [.int .u32 (u (zs n.toNat (w32 s))), .undef, .undef] [some ⟨1, []⟩] vs'' H'') := by
  simp only [Bool.and_eq_true, decide_eq_true_eq, List.all_eq_true, List.mem_range] at hc
  obtain ⟨h1, h2, h3, ha, hm⟩ := hc
  rw [matOk_eq ha, mk32_congr hm, ← u_w32 ⟨h1, h2⟩, w32_u]
  generalize w32 s = x
  refine AWp.lmono (Q := fun e vs H => e = .exit 2 ∧ (∃ n' p, vs = [.int .u32 (u (zs n.toNat x)), n', p]) ∧ ∃ q, H = [some ⟨1, mk32 (Fq q)⟩]) ?_ ?_
  · refine aloop_lv (fun j vs H => ∃ (q : Nat) (y : W) (m : Int), j = m.toNat ∧ m ≤ 9223372036854775807 ∧ zs (q * m.toNat) y = zs n.toNat x ∧ vs = [.int .u32 (u y), .int .i64 m, .ptr (.rw 0) 0] ∧ H = [some ⟨1, mk32 (Fq q)⟩]) n.toNat
      ⟨1, x, n, rfl, h3, by rw [Nat.one_mul], rfl, rfl⟩ ?_
    rintro j vs H ⟨q, y, m, rfl, hm, he, rfl, rfl⟩
    refine wpn (mix G B) (sums_cons (of_sum_ok G B).2 (sums_nil _)) (.cast (.cons (fi_ok G B) .nil) (by kernel_rfl)) 200 ?_
    rw [fo_body]
    have eT : ∀ f : Nat → W, [AV.int IntKind.u32 (u (f 0)), AV.int IntKind.u32 (u (f 1)), AV.int IntKind.u32 (u (f 2)), AV.int IntKind.u32 (u (f 3)), AV.int IntKind.u32 (u (f 4)), AV.int IntKind.u32 (u (f 5)), AV.int IntKind.u32 (u (f 6)), AV.int IntKind.u32 (u (f 7)), AV.int IntKind.u32 (u (f 8)), AV.int IntKind.u32 (u (f 9)), AV.int IntKind.u32 (u (f 10)), AV.int IntKind.u32 (u (f 11)), AV.int IntKind.u32 (u (f 12)), AV.int IntKind.u32 (u (f 13)), AV.int IntKind.u32 (u (f 14)), AV.int IntKind.u32 (u (f 15)), AV.int IntKind.u32 (u (f 16)), AV.int IntKind.u32 (u (f 17)), AV.int IntKind.u32 (u (f 18)), AV.int IntKind.u32 (u (f 19)), AV.int IntKind.u32 (u (f 20)), AV.int IntKind.u32 (u (f 21)), AV.int IntKind.u32 (u (f 22)), AV.int IntKind.u32 (u (f 23)), AV.int IntKind.u32 (u (f 24)), AV.int IntKind.u32 (u (f 25)), AV.int IntKind.u32 (u (f 26)), AV.int IntKind.u32 (u (f 27)), AV.int IntKind.u32 (u (f 28)), AV.int IntKind.u32 (u (f 29)), AV.int IntKind.u32 (u (f 30)), AV.int IntKind.u32 (u (f 31))] = mk32 f := fun _ => rfl
    simp only [tst_iff, chk_iff, nam_eq, Bool.and_eq_true, decide_eq_true_eq, decide_eq_false_iff_not, take32, matOk_mk, mk32_length, eT, spl_mk, w32_u, M_mk32]
    rw [app_congr 32 (fun i hi => M_mk (Fq q) hi), show app (fun i => Fq q i) 32 y = zs q y from app_zs q y, sq_Fq]
    have vw : ∀ (z : W) (l : Int), View 0 [.int .u32 (u z), .int .i64 l, .ptr (.rw 0) 0] [some ⟨1, mk32 (Fq (2 * q))⟩] [.int .u32 (u z), .int .i64 l, .ptr (.rw 0) 0] [some ⟨1, mk32 (Fq (2 * q))⟩, some ⟨1, mk32 (Fq (2 * q))⟩] := fun z l =>
      View.same (H := [some ⟨1, mk32 (Fq (2 * q))⟩]) (G := [some ⟨1, mk32 (Fq (2 * q))⟩]) (Nat.zero_le _) (by simp [hpB, bnds_mk32]) (by simp [fv, bnd])
    refine ⟨fun h => ?_, fun h => ?_⟩
    · obtain ⟨k, rfl⟩ := Int.eq_ofNat_of_zero_le (Int.le_of_lt h)
      have hk : 0 < k := by omega
      have e1 : (k : Int).tmod 2 = ((k % 2 : Nat) : Int) := by rw [Int.tmod_eq_emod_of_nonneg (by omega)]; rfl
      have e2 : IntKind.i64.wrap ((k : Int).tdiv 2) = ((k / 2 : Nat) : Int) := by
        rw [Int.tdiv_eq_ediv_of_nonneg (by omega)]
        exact i64_in (by omega)
      rw [e1, e2]
      refine ⟨fun hb => ⟨by omega, ⟨trivial, u_range _⟩, ⟨trivial, trivial, trivial⟩, by omega, k / 2, ?_, .inr ⟨_, _, ⟨2 * q, zs q y, ((k / 2 : Nat) : Int), rfl, by omega, ?_, rfl, rfl⟩, vw _ _⟩⟩, fun hb => ⟨⟨trivial, trivial, trivial⟩, by omega, k / 2, ?_, .inr ⟨_, _, ⟨2 * q, y, ((k / 2 : Nat) : Int), rfl, by omega, ?_, rfl, rfl⟩, vw _ _⟩⟩⟩
      · show k / 2 < k; omega
      · have : k % 2 = 1 := by simp at hb; omega
        rw [zs_add, ← he]
        congr 1
        show q + 2 * q * (k / 2) = q * k
        have e : k = 2 * (k / 2) + 1 := by omega
        calc q + 2 * q * (k / 2) = q * (2 * (k / 2) + 1) := by rw [Nat.mul_add, Nat.mul_one, ← Nat.mul_assoc, Nat.mul_comm q 2]; omega
          _ = q * k := by rw [← e]
      · show k / 2 < k; omega
      · have : k % 2 = 0 := by simp at hb; omega
        rw [← he]
        congr 1
        show 2 * q * (k / 2) = q * k
        have e : k = 2 * (k / 2) := by omega
        calc 2 * q * (k / 2) = q * (2 * (k / 2)) := by rw [← Nat.mul_assoc, Nat.mul_comm q 2]
          _ = q * k := by rw [← e]
    · have : m.toNat = 0 := by omega
      rw [this, Nat.mul_zero] at he
      exact ⟨trivial, ⟨_, _, by rw [← he]; rfl⟩, q, rfl⟩
  · rintro e vs H ⟨rfl, ⟨n', p, rfl⟩, q, rfl⟩
    refine ⟨rfl, ⟨[0], rfl, Nat.zero_le _, fun i hi => by omega, fun i hi => by simp at hi; subst hi; simp, fun i j b b' h1 h2 _ => ?_, fun i b hb => ?_, rfl, fun k v hk => ?_⟩⟩
    · have a1 := (List.getElem?_eq_some_iff.1 h1).1
      have a2 := (List.getElem?_eq_some_iff.1 h2).1
      simp at a1 a2; omega
    · have a1 := (List.getElem?_eq_some_iff.1 hb).1
      simp at a1; subst a1
      simp at hb; subst hb
      exact ⟨_, rfl, Nat.zero_le _, rfl, fun k v hk => by simp at hk⟩
    · rcases k with _ | _ | _ | k
      · simp at hk; subst hk; exact ⟨by simp [bnd], .inr (by simp [ren])⟩
      · simp at hk; subst hk; exact ⟨by simp [bnd], .inl rfl⟩
      · simp at hk; subst hk; exact ⟨by simp [bnd], .inl rfl⟩
      · simp at hk

def fo_S (G : Nat → List AV) (B : Nat) (vs : List AV) (H : Hp) : Option (Bool × Ex × List AV × Hp) := match vs, H with
  | [.int .u32 s, .int .i64 n, .ptr (.rw 0) 0], [some ⟨1, a⟩] => some (decide (0 ≤ s) && (decide (s < 4294967296) && (decide (n ≤ 9223372036854775807) && (matOk a && (List.range 32).all (fun k => decide (M a k = Fq 1 k))))), .exit 2, [.int .u32 (u (zs n.toNat (w32 s))), .undef, .undef], [some ⟨1, []⟩])
  | _, _ => none
theorem fo_S_ok (G : Nat → List AV) (B : Nat) (vs : List AV) (H : Hp) (e : Ex) (vs' : List AV) (H' : Hp) (h : fo_S G B vs H = some (true, e, vs', H')) :
    AWp (⟨Try.prog, G, B⟩ : Ctx) 0 (.loop (loopN Try.f11 1)) (fl 41 [0, 1, 5] vs) H (lv 41 [0, 1, 5] fun e' vs'' H'' => e' = e ∧ View 0 vs' H' vs'' H'') := by
  unfold fo_S at h
  split at h
  · rename_i s n a
    simp only [Option.some.injEq, Prod.mk.injEq] at h
    obtain ⟨hc, rfl, rfl, rfl⟩ := h
    exact fo_loop G B s n a hc
  · simp at h
def fo_L (G : Nat → List AV) (B : Nat) : Loops := fun _ F H => lsum 41 [0, 1, 5] (fo_S G B) F H
theorem fo_ok (G : Nat → List AV) (B : Nat) : LoopOk (⟨Try.prog, G, B⟩ : Ctx) (loopN Try.f11 1) (fo_L G B) := lv_ok (fo_S_ok G B)
theorem far_run (G : Nat → List AV) (B : Nat) (s n : Int) (Q : AV → Hp → Prop) : vc (Kn (⟨Try.prog, G, B⟩ : Ctx) noSum (lps 0 (f0_L G B) (fm_L G B))) 200 0 (.code (bodyOf Try.f18)) (frame0 Try.f18 [.int .u32 s, .int .i64 n]) [] (retK (⟨Try.prog, G, B⟩ : Ctx) Try.f18 Q) = (
    nam ((0 : Int)) (fun y1 =>
    chk (decide ((0 : Int) ≤ s) && (decide (s < (4294967296 : Int)) && (decide (n ≤ (9223372036854775807 : Int)) && true))) (
    nam (u (zs n.toNat (w32 s))) (fun y2 =>
    Q (.int IntKind.u32 (y2)) [some ⟨1, []⟩])))) := by kernel_rfl
theorem Far_run (G : Nat → List AV) (B : Nat) (s n : Int) (Q : AV → Hp → Prop) : vc (Kn (⟨Try.prog, G, B⟩ : Ctx) noSum (lps 0 (g0_L G B) (lps 2 (fo_L G B) (fi_L G B)))) 200 0 (.code (bodyOf Try.f11)) (frame0 Try.f11 [.int .u32 s, .int .i64 n]) [] (retK (⟨Try.prog, G, B⟩ : Ctx) Try.f11 Q) = (
    nam ((0 : Int)) (fun y1 =>
    nam ((0 : Int)) (fun y2 =>
    chk (decide (y2 = (0 : Int)) && true) (
    chk (decide ((0 : Int) ≤ s) && (decide (s < (4294967296 : Int)) && (decide (n ≤ (9223372036854775807 : Int)) && true))) (
    nam (u (zs n.toNat (w32 s))) (fun y3 =>
    Q (.int IntKind.u32 (y3)) [some ⟨1, []⟩])))))) := by kernel_rfl
end Go.Am
