/-
  Wire: lists of numbers are read, by both sides.
-/
import Derived.Test.YtcodkoholbmkkaaWrD
namespace Go.Am
open Go.Proofs
set_option maxRecDepth 100000
/-- so many numbers, one behind the other -/
def nread (s : List AV) : Nat → Nat → Option (List Nat × Nat)
  | 0, a => some ([], a)
  | c + 1, a => match wrd s a with
    | none => none
    | some (v, j) => (nread s c (a + j)).map fun p => (v :: p.1, p.2)
def u64L (xs : List Nat) : List AV := xs.map fun (v : Nat) => .int .u64 (v : Int)
theorem u64L_flat (k : Nat) : ∀ (xs : List Nat), bnds k (u64L xs) = true
  | [] => rfl
  | x :: xs => by have := u64L_flat k xs; simpa [u64L, bnds, bnd] using this
theorem u64L_len (xs : List Nat) : (u64L xs).length = xs.length := by simp [u64L]
theorem u64L_snoc (xs : List Nat) (v : Nat) : u64L xs ++ [.int .u64 (v : Int)] = u64L (xs ++ [v]) := by simp [u64L]
theorem wrd_len {s : List AV} {a v j : Nat} (h : wrd s a = some (v, j)) : a + j ≤ s.length ∧ 1 ≤ j := by
  have h1 := wrdF_len _ _ _ _ h
  refine ⟨by omega, ?_⟩
  unfold wrd at h
  rw [wrdF] at h
  split at h
  · split at h
    · simp at h
    · split at h
      · simp at h; omega
      · cases hr : wrdF s a 9 1 with
        | none => rw [hr] at h; simp at h
        | some p => rw [hr] at h; simp at h; omega
  · simp at h
theorem nread_len {s : List AV} : ∀ {c a : Nat} {xs : List Nat} {b : Nat}, nread s c a = some (xs, b) → a ≤ s.length → xs.length = c ∧ a + c ≤ b ∧ b ≤ s.length
  | 0, a, xs, b, h, ha => by simp [nread] at h; obtain ⟨rfl, rfl⟩ := h; exact ⟨rfl, Nat.le_refl _, ha⟩
  | c + 1, a, xs, b, h, ha => by
    simp only [nread] at h
    split at h
    · simp at h
    · rename_i v j hw
      cases hr : nread s c (a + j) with
      | none => rw [hr] at h; simp at h
      | some p =>
        rw [hr] at h
        simp only [Option.map_some, Option.some.injEq, Prod.mk.injEq] at h
        obtain ⟨rfl, rfl⟩ := h
        obtain ⟨g1, g2⟩ := wrd_len hw
        obtain ⟨g3, g4, g5⟩ := nread_len hr g1
        exact ⟨by simp [g3], by omega, g5⟩
/-- how the loop stands: i numbers are read -/
def NS (s : List AV) (V a : Nat) (xs : List Nat) (b : Nat) : Prop := xs.length ≤ V ∧ a + xs.length ≤ b ∧ b ≤ s.length ∧ nread s V a = (nread s (V - xs.length) b).map fun p => (xs ++ p.1, p.2)
theorem NS.start {s : List AV} {V a : Nat} (h : a ≤ s.length) : NS s V a [] a := ⟨Nat.zero_le _, Nat.le_refl _, h, by simp⟩
theorem NS.stop {s : List AV} {V a b : Nat} {xs : List Nat} (h : NS s V a xs b) (hi : ¬ xs.length < V) : nread s V a = some (xs, b) := by
  obtain ⟨h1, h2, h3, h4⟩ := h
  have : V - xs.length = 0 := by omega
  rw [h4, this]; simp [nread]
theorem NS.bad {s : List AV} {V a b : Nat} {xs : List Nat} (h : NS s V a xs b) (hi : xs.length < V) (hw : wrd s b = none) : nread s V a = none := by
  obtain ⟨h1, h2, h3, h4⟩ := h
  obtain ⟨c, hc⟩ : ∃ c, V - xs.length = c + 1 := ⟨V - xs.length - 1, by omega⟩
  rw [h4, hc]; simp [nread, hw]
theorem NS.next {s : List AV} {V a b v j : Nat} {xs : List Nat} (h : NS s V a xs b) (hi : xs.length < V) (hw : wrd s b = some (v, j)) : NS s V a (xs ++ [v]) (b + j) := by
  obtain ⟨h1, h2, h3, h4⟩ := h
  obtain ⟨g1, g2⟩ := wrd_len hw
  obtain ⟨c, hc⟩ : ∃ c, V - xs.length = c + 1 := ⟨V - xs.length - 1, by omega⟩
  have hc2 : V - (xs ++ [v]).length = c := by simp; omega
  refine ⟨by simp; omega, by simp; omega, g1, ?_⟩
  rw [h4, hc, hc2]
  simp only [nread, hw, Option.map_map]
  congr 1
  funext p
  simp [Function.comp]
theorem rd_none {s : List AV} {a : Nat} {k : IntKind} (h : wrd s a = none) : rdVU [.agg s, .int k (a : Int)] = 0 ∧ rdEU [.agg s, .int k (a : Int)] = 4 ∧ rdAU [.agg s, .int k (a : Int)] = (a : Int) := by
  simp [rdVU, rdEU, rdAU, h]
theorem rd_some {s : List AV} {a v j : Nat} {k : IntKind} (h : wrd s a = some (v, j)) : rdVU [.agg s, .int k (a : Int)] = (v : Int) ∧ rdEU [.agg s, .int k (a : Int)] = 0 ∧ rdAU [.agg s, .int k (a : Int)] = ((a + j : Nat) : Int) := by
  simp [rdVU, rdEU, rdAU, h]
theorem nl44 (G : Nat → List AV) (B : Nat) (s : List AV) (n a V : Nat) (b : Int) (hb : b8s s = true) (hn : s.length = n) (h40 : n ≤ 1099511627776) (ha : a ≤ n) (hV : V ≤ 9223372036854775807) :
    AWp (⟨Try.prog, G, B⟩ : Ctx) 2 (.loop (loopN Try.f44 0)) (fl 59 [0, 2, 6, 7, 8, 9, 10, 11, 12] [.ptr (.rw 0) 0, .func 20 [], .nils, .int .i64 0, .int .i64 b, .int .i64 (V : Int), .int .i64 0, .slice false (.rw 2) 0 0, .int .i64 0]) [rdBlk n a, some ⟨1, s⟩, some ⟨1, []⟩]
      (lv 59 [0, 2, 6, 7, 8, 9, 10, 11, 12] fun e vs H => e = .exit 0 ∧ ((∃ xs a', nread s V a = some (xs, a') ∧ wk [.ptr (.rw 0) 0, .undef, .nils, .int .i64 0, .int .i64 b, .undef, .int .i64 0, .slice false (.rw 2) 0 xs.length, .undef] vs ∧ H = [rdBlk n a', some ⟨1, s⟩, some ⟨1, u64L xs⟩])
        ∨ (nread s V a = none ∧ ∃ (xs : List Nat) (a' : Nat), wk [.ptr (.rw 0) 0, .undef, .nils, .int .i64 0, .int .i64 b, .undef, .int .i64 4, .undef, .undef] vs ∧ H = [rdBlk n a', some ⟨1, s⟩, some ⟨1, u64L xs⟩]))) := by
  have hf : ∀ j, bnds j s = true := fun j => u8s_flat (b8s_u8 hb)
  refine aloop_lv (fun j vs H => ∃ (xs : List Nat) (a' : Nat) (e : Int), (e = 0 ∧ NS s V a xs a' ∧ j = n - a' + 1 ∨ e = 4 ∧ nread s V a = none ∧ j = 0) ∧
    vs = [.ptr (.rw 0) 0, .func 20 [], .nils, .int .i64 0, .int .i64 b, .int .i64 (V : Int), .int .i64 e, .slice false (.rw 2) 0 xs.length, .int .i64 (xs.length : Int)] ∧ H = [rdBlk n a', some ⟨1, s⟩, some ⟨1, u64L xs⟩]) (n - a + 1)
    ⟨[], a, 0, .inl ⟨rfl, .start (by omega), rfl⟩, rfl, rfl⟩ ?_
  rintro j vs H ⟨xs, a', e, hs, rfl, rfl⟩
  refine dloop_ok (C := (⟨Try.prog, G, B⟩ : Ctx)) (dgT2 G B) (fuel := 200) (n0 := 20) (m := 2) (c := loopN Try.f44 0) (vs := [.ptr (.rw 0) (.lit 0), .func 20 [], .nils, .int .i64 (.lit 0), .int .i64 (.var 1 b), .int .i64 (.var 2 (V : Int)), .int .i64 (.var 3 e), .slice false (.rw 2) (.lit 0) (.var 7 xs.length), .int .i64 (.var 8 (xs.length : Int))])
    (H := [some ⟨1, .of [.slice false (.rw 1) (.lit 0) (.var 4 n), .int .i64 (.var 5 (a' : Int))]⟩, some ⟨1, .var 6 s⟩, some ⟨1, .var 9 (u64L xs)⟩]) (by simp) ?_
  rw [rb44]
  rcases hs with ⟨rfl, hs, rfl⟩ | ⟨rfl, hs, rfl⟩
  · obtain ⟨q1, q2, q3, q4⟩ := hs
    refine ⟨fun _ => ⟨fun hi => ?_, fun hi => ?_⟩, fun h => by simp at h⟩
    · have hi := of_decide_eq_true hi
      have hi : xs.length < V := by omega
      refine ⟨by rw [← hn]; exact okRd_iff.2 ⟨hb, rfl, by omega, by omega, by omega⟩, leB_iff.2 (by omega), by rw [u64L_len]; exact Nat.beq_refl _, ?_⟩
      have wi : IntKind.wrap .i64 ((xs.length : Int) + 1) = ((xs.length + 1 : Nat) : Int) := by rw [i64_in (by omega)]; omega
      rw [wi]
      have view : ∀ (v : Nat) (e : Int) (a2 : Nat), View 2 [.ptr (.rw 0) 0, .func 20 [], .nils, .int .i64 0, .int .i64 b, .int .i64 (V : Int), .int .i64 e, .slice false (.rw 2) 0 (xs ++ [v]).length, .int .i64 ((xs ++ [v]).length : Int)] [rdBlk n a2, some ⟨1, s⟩, some ⟨1, u64L (xs ++ [v])⟩]
          [.ptr (.rw 0) 0, .func 20 [], .nils, .int .i64 0, .int .i64 b, .int .i64 (V : Int), .int .i64 e, .slice false (.rw 4) 0 (xs.length + 1), .int .i64 ((xs.length + 1 : Nat) : Int)] [some ⟨1, [.slice false (.rw 1) 0 n, .int .i64 (a2 : Int)]⟩, some ⟨1, s⟩, none, some ⟨1, [.int .u64 (v : Int)]⟩, some ⟨1, u64L xs ++ [.int .u64 (v : Int)]⟩] := fun v e a2 => by
        have hu : ∀ j, bnds j (u64L (xs ++ [v])) = true := fun j => u64L_flat j _
        rw [u64L_snoc]
        refine View.renM (θ := [0, 1, 4]) (by simp) fixes2 (by decide) ⟨⟨by simp [bnds, bnd], by simp [rens, ren]⟩, ⟨hf _, by rw [rens_flat _ _ (hf 0)]; rfl⟩, ⟨hu _, by rw [rens_flat _ _ (hu 0)]; rfl⟩, trivial⟩ (by simp [bnds, bnd]) (by simp [rens, ren, wk])
      cases hw : wrd s a' with
      | none =>
        obtain ⟨r1, r2, r3⟩ := rd_none (k := .i64) hw
        rw [r1, r2, r3]
        refine ⟨0, by omega, .inr ⟨_, _, ⟨xs ++ [0], a', 4, .inr ⟨rfl, NS.bad ⟨q1, q2, q3, q4⟩ hi hw, rfl⟩, rfl, rfl⟩, ?_⟩⟩
        exact view 0 4 a'
      | some p =>
        obtain ⟨v, j⟩ := p
        obtain ⟨r1, r2, r3⟩ := rd_some (k := .i64) hw
        obtain ⟨w1, w2⟩ := wrd_len hw
        rw [r1, r2, r3]
        refine ⟨n - (a' + j) + 1, by omega, .inr ⟨_, _, ⟨xs ++ [v], a' + j, 0, .inl ⟨rfl, NS.next ⟨q1, q2, q3, q4⟩ hi hw, rfl⟩, rfl, rfl⟩, ?_⟩⟩
        exact view v 0 (a' + j)
    · have hi := of_decide_eq_false hi
      exact ⟨rfl, .inl ⟨xs, a', NS.stop ⟨q1, q2, q3, q4⟩ (by omega), by simp [wk], rfl⟩⟩
  · exact ⟨fun h => by simp at h, fun _ => ⟨rfl, .inr ⟨hs, xs, a', by simp [wk], rfl⟩⟩⟩
theorem nl44x (G : Nat → List AV) (B : Nat) (s : List AV) (n : Nat) (a b v e : Int) (he : e ≠ 0) :
    AWp (⟨Try.prog, G, B⟩ : Ctx) 2 (.loop (loopN Try.f44 0)) (fl 59 [0, 2, 6, 7, 8, 9, 10, 11, 12] [.ptr (.rw 0) 0, .func 20 [], .nils, .int .i64 0, .int .i64 b, .int .i64 v, .int .i64 e, .slice false (.rw 2) 0 0, .int .i64 0]) [some ⟨1, [.slice false (.rw 1) 0 n, .int .i64 a]⟩, some ⟨1, s⟩, some ⟨1, []⟩]
      (lv 59 [0, 2, 6, 7, 8, 9, 10, 11, 12] fun ex vs H => ex = .exit 0 ∧ wk [.ptr (.rw 0) 0, .undef, .nils, .int .i64 0, .int .i64 b, .undef, .int .i64 e, .undef, .undef] vs ∧ H = [some ⟨1, [.slice false (.rw 1) 0 n, .int .i64 a]⟩, some ⟨1, s⟩, some ⟨1, []⟩]) := by
  refine aloop_lv (fun j vs H => vs = [.ptr (.rw 0) 0, .func 20 [], .nils, .int .i64 0, .int .i64 b, .int .i64 v, .int .i64 e, .slice false (.rw 2) 0 0, .int .i64 0] ∧ H = [some ⟨1, [.slice false (.rw 1) 0 n, .int .i64 a]⟩, some ⟨1, s⟩, some ⟨1, []⟩]) 0 ⟨rfl, rfl⟩ ?_
  rintro j vs H ⟨rfl, rfl⟩
  refine dloop_ok (C := (⟨Try.prog, G, B⟩ : Ctx)) (dgT2 G B) (fuel := 200) (n0 := 20) (m := 2) (c := loopN Try.f44 0) (vs := [.ptr (.rw 0) (.lit 0), .func 20 [], .nils, .int .i64 (.lit 0), .int .i64 (.var 1 b), .int .i64 (.var 2 v), .int .i64 (.var 3 e), .slice false (.rw 2) (.lit 0) (.var 7 0), .int .i64 (.var 8 0)])
    (H := [some ⟨1, .of [.slice false (.rw 1) (.lit 0) (.var 4 n), .int .i64 (.var 5 a)]⟩, some ⟨1, .var 6 s⟩, some ⟨1, .var 9 []⟩]) (by simp) ?_
  rw [rb44]
  exact ⟨fun h => absurd (eq_of_beq h) he, fun _ => ⟨rfl, by simp [wk], rfl⟩⟩
theorem nl45 (G : Nat → List AV) (B : Nat) (k n a V : Nat) (b : Int) (hb : b8s (G k) = true) (hn : (G k).length = n) (h40 : n ≤ 1099511627776) (ha : a ≤ n) (hV : V ≤ 9223372036854775807) :
    AWp (⟨Try.prog, G, B⟩ : Ctx) 1 (.loop (loopN Try.f45 0)) (fl 57 [0, 4, 5, 6, 7, 8, 9, 10] [.ptr (.rw 0) 0, .nils, .int .i64 0, .int .i64 b, .int .u64 (V : Int), .int .i64 0, .slice true (.rw 1) 0 0, .int .u64 0]) [docB k n a, some ⟨1, []⟩]
      (lv 57 [0, 4, 5, 6, 7, 8, 9, 10] fun e vs H => e = .exit 0 ∧ ((∃ xs a', nread (G k) V a = some (xs, a') ∧ wk [.ptr (.rw 0) 0, .nils, .int .i64 0, .int .i64 b, .undef, .int .i64 0, .slice true (.rw 1) 0 xs.length, .undef] vs ∧ H = [docB k n a', some ⟨1, u64L xs⟩])
        ∨ (nread (G k) V a = none ∧ ∃ (xs : List Nat) (a' : Nat), wk [.ptr (.rw 0) 0, .nils, .int .i64 0, .int .i64 b, .undef, .int .i64 4, .undef, .undef] vs ∧ H = [docB k n a', some ⟨1, u64L xs⟩]))) := by
  refine aloop_lv (fun j vs H => ∃ (xs : List Nat) (a' : Nat) (e : Int), (e = 0 ∧ NS (G k) V a xs a' ∧ j = n - a' + 1 ∨ e = 4 ∧ nread (G k) V a = none ∧ j = 0) ∧
    vs = [.ptr (.rw 0) 0, .nils, .int .i64 0, .int .i64 b, .int .u64 (V : Int), .int .i64 e, .slice true (.rw 1) 0 xs.length, .int .u64 (xs.length : Int)] ∧ H = [docB k n a', some ⟨1, u64L xs⟩]) (n - a + 1)
    ⟨[], a, 0, .inl ⟨rfl, .start (by omega), rfl⟩, rfl, rfl⟩ ?_
  rintro j vs H ⟨xs, a', e, hs, rfl, rfl⟩
  refine dloop_ok (C := (⟨Try.prog, G, B⟩ : Ctx)) (dgT1 G B) (fuel := 200) (n0 := 20) (m := 1) (c := loopN Try.f45 0) (vs := [.ptr (.rw 0) (.lit 0), .nils, .int .i64 (.lit 0), .int .i64 (.var 1 b), .int .u64 (.var 2 (V : Int)), .int .i64 (.var 3 e), .slice true (.rw 1) (.lit 0) (.var 7 xs.length), .int .u64 (.var 8 (xs.length : Int))])
    (H := [some ⟨1, .of [.slice true (.ro (.var 6 k)) (.lit 0) (.var 4 n), .int .i64 (.var 5 (a' : Int))]⟩, some ⟨1, .var 9 (u64L xs)⟩]) (by simp) ?_
  rw [rb45]
  rcases hs with ⟨rfl, hs, rfl⟩ | ⟨rfl, hs, rfl⟩
  · obtain ⟨q1, q2, q3, q4⟩ := hs
    refine ⟨fun _ => ⟨fun hi => ?_, fun hi => ?_⟩, fun h => by simp at h⟩
    · have hi := of_decide_eq_true hi
      have hi : xs.length < V := by omega
      refine ⟨by rw [← hn]; exact okRd_iff.2 ⟨hb, rfl, by omega, by omega, by omega⟩, leB_iff.2 (by omega), by rw [u64L_len]; exact Nat.beq_refl _, ?_⟩
      have wi : IntKind.wrap .u64 ((xs.length : Int) + 1) = ((xs.length + 1 : Nat) : Int) := by rw [u64_in (by omega)]; omega
      rw [wi]
      have view : ∀ (v : Nat) (e : Int) (a2 : Nat), View 1 [.ptr (.rw 0) 0, .nils, .int .i64 0, .int .i64 b, .int .u64 (V : Int), .int .i64 e, .slice true (.rw 1) 0 (xs ++ [v]).length, .int .u64 ((xs ++ [v]).length : Int)] [docB k n a2, some ⟨1, u64L (xs ++ [v])⟩]
          [.ptr (.rw 0) 0, .nils, .int .i64 0, .int .i64 b, .int .u64 (V : Int), .int .i64 e, .slice true (.rw 3) 0 (xs.length + 1), .int .u64 ((xs.length + 1 : Nat) : Int)] [some ⟨1, [.slice true (.ro k) 0 n, .int .i64 (a2 : Int)]⟩, none, some ⟨1, [.int .u64 (v : Int)]⟩, some ⟨1, u64L xs ++ [.int .u64 (v : Int)]⟩] := fun v e a2 => by
        have hu : ∀ j, bnds j (u64L (xs ++ [v])) = true := fun j => u64L_flat j _
        rw [u64L_snoc]
        refine View.renM (θ := [0, 3]) (by simp) fixes1 (by decide) ⟨⟨by simp [bnds, bnd], by simp [rens, ren]⟩, ⟨hu _, by rw [rens_flat _ _ (hu 0)]; rfl⟩, trivial⟩ (by simp [bnds, bnd]) (by simp [rens, ren, wk])
      cases hw : wrd (G k) a' with
      | none =>
        obtain ⟨r1, r2, r3⟩ := rd_none (k := .i64) hw
        dsimp only
        rw [r1, r2, r3]
        refine ⟨0, by omega, .inr ⟨_, _, ⟨xs ++ [0], a', 4, .inr ⟨rfl, NS.bad ⟨q1, q2, q3, q4⟩ hi hw, rfl⟩, rfl, rfl⟩, ?_⟩⟩
        exact view 0 4 a'
      | some p =>
        obtain ⟨v, j⟩ := p
        obtain ⟨r1, r2, r3⟩ := rd_some (k := .i64) hw
        obtain ⟨w1, w2⟩ := wrd_len hw
        dsimp only
        rw [r1, r2, r3]
        refine ⟨n - (a' + j) + 1, by omega, .inr ⟨_, _, ⟨xs ++ [v], a' + j, 0, .inl ⟨rfl, NS.next ⟨q1, q2, q3, q4⟩ hi hw, rfl⟩, rfl, rfl⟩, ?_⟩⟩
        exact view v 0 (a' + j)
    · have hi := of_decide_eq_false hi
      exact ⟨rfl, .inl ⟨xs, a', NS.stop ⟨q1, q2, q3, q4⟩ (by omega), by simp [wk], rfl⟩⟩
  · exact ⟨fun h => by simp at h, fun _ => ⟨rfl, .inr ⟨hs, xs, a', by simp [wk], rfl⟩⟩⟩
theorem nl45x (G : Nat → List AV) (B : Nat) (k n : Nat) (a b v e : Int) (he : e ≠ 0) :
    AWp (⟨Try.prog, G, B⟩ : Ctx) 1 (.loop (loopN Try.f45 0)) (fl 57 [0, 4, 5, 6, 7, 8, 9, 10] [.ptr (.rw 0) 0, .nils, .int .i64 0, .int .i64 b, .int .u64 v, .int .i64 e, .slice true (.rw 1) 0 0, .int .u64 0]) [some ⟨1, [.slice true (.ro k) 0 n, .int .i64 a]⟩, some ⟨1, []⟩]
      (lv 57 [0, 4, 5, 6, 7, 8, 9, 10] fun ex vs H => ex = .exit 0 ∧ wk [.ptr (.rw 0) 0, .nils, .int .i64 0, .int .i64 b, .undef, .int .i64 e, .undef, .undef] vs ∧ H = [some ⟨1, [.slice true (.ro k) 0 n, .int .i64 a]⟩, some ⟨1, []⟩]) := by
  refine aloop_lv (fun j vs H => vs = [.ptr (.rw 0) 0, .nils, .int .i64 0, .int .i64 b, .int .u64 v, .int .i64 e, .slice true (.rw 1) 0 0, .int .u64 0] ∧ H = [some ⟨1, [.slice true (.ro k) 0 n, .int .i64 a]⟩, some ⟨1, []⟩]) 0 ⟨rfl, rfl⟩ ?_
  rintro j vs H ⟨rfl, rfl⟩
  refine dloop_ok (C := (⟨Try.prog, G, B⟩ : Ctx)) (dgT1 G B) (fuel := 200) (n0 := 20) (m := 1) (c := loopN Try.f45 0) (vs := [.ptr (.rw 0) (.lit 0), .nils, .int .i64 (.lit 0), .int .i64 (.var 1 b), .int .u64 (.var 2 v), .int .i64 (.var 3 e), .slice true (.rw 1) (.lit 0) (.var 7 0), .int .u64 (.var 8 0)])
    (H := [some ⟨1, .of [.slice true (.ro (.var 6 k)) (.lit 0) (.var 4 n), .int .i64 (.var 5 a)]⟩, some ⟨1, .var 9 []⟩]) (by simp) ?_
  rw [rb45]
  exact ⟨fun h => absurd (eq_of_beq h) he, fun _ => ⟨rfl, by simp [wk], rfl⟩⟩
def nrOkU (xs : List AV) : Bool := match xs with
  | [.agg l, .int _ a, .int _ v] => (nread l v.toNat a.toNat).isSome
  | _ => false
def nrLU (xs : List AV) : List AV := match xs with
  | [.agg l, .int _ a, .int _ v] => match nread l v.toNat a.toNat with
    | some (r, _) => u64L r
    | none => []
  | _ => []
def nrAU (xs : List AV) : Int := match xs with
  | [.agg l, .int _ a, .int _ v] => match nread l v.toNat a.toNat with
    | some (_, b) => b
    | none => a
  | _ => 0
def tL44 : DL := ⟨0, 59, [0, 2, 6, 7, 8, 9, 10, 11, 12], fun vs H => match vs, H with
  | [.ptr (.rw 0) (.lit 0), .func 20 [], .nils, .int .i64 (.lit 0), .int .i64 b, .int .i64 v, .int .i64 e, .slice false (.rw 2) (.lit 0) (.lit 0), .int .i64 (.lit 0)], [some ⟨1, .of [.slice false (.rw 1) (.lit 0) n, .int .i64 a]⟩, some ⟨1, l⟩, some ⟨1, .of []⟩] =>
    some (.tst (.cmp .eql e (.lit 0))
      (.chk (.uf 1120 okRdU [.agg l, .ptr (.rw 0) n, .int .i64 a]) <| .chk (.leN n (.lit 1099511627776)) <| .chk (.cmp .leq (.lit 0) v) <| .chk (.cmp .leq v (.lit 9223372036854775807)) <| .tst (.uf 1133 nrOkU [.agg l, .int .i64 a, .int .i64 v])
        (.one (.exit 0) [.ptr (.rw 0) (.lit 0), .undef, .nils, .int .i64 (.lit 0), .int .i64 b, .undef, .int .i64 (.lit 0), .slice false (.rw 2) (.lit 0) (.len (.uf 1134 nrLU [.agg l, .int .i64 a, .int .i64 v])), .undef] [some ⟨1, .of [.slice false (.rw 1) (.lit 0) n, .int .i64 (.uf 1135 nrAU [.agg l, .int .i64 a, .int .i64 v])]⟩, some ⟨1, l⟩, some ⟨1, .uf 1134 nrLU [.agg l, .int .i64 a, .int .i64 v]⟩])
        (.allL fun x => .allI fun a2 => .one (.exit 0) [.ptr (.rw 0) (.lit 0), .undef, .nils, .int .i64 (.lit 0), .int .i64 b, .undef, .int .i64 (.lit 4), .undef, .undef] [some ⟨1, .of [.slice false (.rw 1) (.lit 0) n, .int .i64 a2]⟩, some ⟨1, l⟩, some ⟨1, x⟩]))
      (.one (.exit 0) [.ptr (.rw 0) (.lit 0), .undef, .nils, .int .i64 (.lit 0), .int .i64 b, .undef, .int .i64 e, .undef, .undef] [some ⟨1, .of [.slice false (.rw 1) (.lit 0) n, .int .i64 a]⟩, some ⟨1, l⟩, some ⟨1, .of []⟩]))
  | _, _ => none⟩
theorem tL44_ok (G : Nat → List AV) (B : Nat) : DLoopOk (⟨Try.prog, G, B⟩ : Ctx) 2 (loopN Try.f44 0) tL44 := by
  refine .of fun vs H o ho nn Q hQ => ?_
  simp only [tL44] at ho
  split at ho
  · rename_i b v e n a l
    simp only [Option.some.injEq] at ho
    subst ho
    obtain ⟨h0, h9⟩ := hQ
    simp only [vB, vVs, vV, vR, vN, vI, cmpI] at h0 h9
    simp only [tL44, vVs, vV, vR, vN, vI, vL, vHp, List.map_cons, List.map_nil, Option.map_some, vBlk]
    by_cases he : vI G e = 0
    · obtain ⟨h1, h2, h3, h4, h5, h6⟩ := h0 (by rw [he]; rfl)
      simp only [vB, vVs, vV, vR, vN, vI, cmpI, decide_eq_true_eq] at h1 h2 h3 h4 h5 h6
      have ok := okRd_iff.1 h1
      have h2 := leB_iff.1 h2
      have h3 := of_decide_eq_true h3
      have h4 := of_decide_eq_true h4
      have key := nl44 G B (vL G l) (vN G n) (vI G a).toNat (vI G v).toNat (vI G b) ok.b ok.len h2 ok.le (by omega)
      simp only [rdBlk] at key
      rw [← ok.pos, show (((vI G v).toNat : Nat) : Int) = vI G v by omega] at key
      rw [he]
      refine key.lmono ?_
      rintro ex vs'' H'' ⟨rfl, ⟨xs, a', g1, g2, rfl⟩ | ⟨g1, xs, a', g2, rfl⟩⟩
      · have := h5 (by simp [nrOkU, g1])
        refine .inl ⟨_, g2, ?_⟩
        simp only [lHolds, vVs, vV, vR, vN, vI, vB, vL, vHp, List.map_cons, List.map_nil, Option.map_some, vBlk, nrLU, nrAU, g1, u64L_len] at this
        exact this
      · have := h6 (by simp [nrOkU, g1]) (u64L xs) (a' : Int)
        refine .inl ⟨_, g2, ?_⟩
        simp only [lHolds, vVs, vV, vR, vN, vI, vB, vL, vHp, List.map_cons, List.map_nil, Option.map_some, vBlk] at this
        exact this
    · have h9 := h9 (by simp [he])
      refine (nl44x G B (vL G l) (vN G n) (vI G a) (vI G b) (vI G v) (vI G e) he).lmono ?_
      rintro ex vs'' H'' ⟨rfl, g2, rfl⟩
      refine .inl ⟨_, g2, ?_⟩
      simp only [lHolds, vVs, vV, vR, vN, vI, vB, vL, vHp, List.map_cons, List.map_nil, Option.map_some, vBlk] at h9
      exact h9
  · simp at ho
theorem dgF44 (G : Nat → List AV) (B : Nat) : DGood (⟨Try.prog, G, B⟩ : Ctx) (Dc Try.prog [38, 39] progT [tL44] 2) (loopsOf (bodyOf Try.f44)) := dgood (mix G B) (by kernel_rfl) (progT_ok G B) (.cast (.cons (i := 0) (by kernel_rfl) rfl (tL44_ok G B) .nil) (by kernel_rfl))
theorem t44 (G : Nat → List AV) (s : List AV) (n : Nat) (a m : Int) (Q : Ex → List AV → Hp → Prop) (R : AV → Hp → Prop) : vT G Q R (dcall (Dc Try.prog [38, 39] progT [tL44] 2) 300 20 Try.f44 [.ptr (.rw 0) (.lit 0), .int .i64 (.var 7 m), .func 20 []] [some ⟨1, .of [.slice false (.rw 1) (.lit 0) (.var 4 n), .int .i64 (.var 5 a)]⟩, some ⟨1, .var 6 s⟩] 3) = (
    (decide ((m : Int) < 0) = true →
      (!(((2 : Int) == 0))) = true ∧
      R (.tup [.nils, .int .i64 (2)]) [some ⟨1, ([.slice false (.rw 1) (0) (n), .int .i64 (a)] : List AV)⟩, some ⟨1, s⟩, some ⟨1, ([] : List AV)⟩]) ∧
    (decide ((m : Int) < 0) = false →
      okRdU [.agg s, .ptr (.rw 0) (n), .int .i64 (a)] = true ∧
      (((rdEU [.agg s, .int .i64 (a)] : Int) == 0) = true →
        (decide ((rdVU [.agg s, .int .i64 (a)] : Int) > IntKind.wrap .u64 (m)) = true →
          (!(((3 : Int) == 0))) = true ∧
          R (.tup [.nils, .int .i64 (3)]) [some ⟨1, ([.slice false (.rw 1) (0) (n), .int .i64 (a)] : List AV)⟩, some ⟨1, s⟩, some ⟨1, ([] : List AV)⟩]) ∧
        (decide ((rdVU [.agg s, .int .i64 (a)] : Int) > IntKind.wrap .u64 (m)) = false →
          ((rdEU [.agg s, .int .i64 (a)] : Int) == 0) = true ∧
          ((0 : Int) == 0) = true ∧
          okRdU [.agg s, .ptr (.rw 0) (n), .int .i64 (rdAU [.agg s, .int .i64 (a)])] = true ∧
          leB (n) (1099511627776) = true ∧
          decide ((0 : Int) ≤ IntKind.wrap .i64 (rdVU [.agg s, .int .i64 (a)])) = true ∧
          decide ((IntKind.wrap .i64 (rdVU [.agg s, .int .i64 (a)]) : Int) ≤ 9223372036854775807) = true ∧
          (nrOkU [.agg s, .int .i64 (rdAU [.agg s, .int .i64 (a)]), .int .i64 (IntKind.wrap .i64 (rdVU [.agg s, .int .i64 (a)]))] = true →
            R (.tup [.slice false (.rw 2) (0) (List.length (nrLU [.agg s, .int .i64 (rdAU [.agg s, .int .i64 (a)]), .int .i64 (IntKind.wrap .i64 (rdVU [.agg s, .int .i64 (a)]))])), .int .i64 (0)]) [some ⟨1, ([.slice false (.rw 1) (0) (n), .int .i64 (nrAU [.agg s, .int .i64 (rdAU [.agg s, .int .i64 (a)]), .int .i64 (IntKind.wrap .i64 (rdVU [.agg s, .int .i64 (a)]))])] : List AV)⟩, some ⟨1, s⟩, some ⟨1, (nrLU [.agg s, .int .i64 (rdAU [.agg s, .int .i64 (a)]), .int .i64 (IntKind.wrap .i64 (rdVU [.agg s, .int .i64 (a)]))])⟩]) ∧
          (nrOkU [.agg s, .int .i64 (rdAU [.agg s, .int .i64 (a)]), .int .i64 (IntKind.wrap .i64 (rdVU [.agg s, .int .i64 (a)]))] = false →
            (∀ l20 : List AV,
            (∀ i21 : Int,
            R (.tup [.nils, .int .i64 (4)]) [some ⟨1, ([.slice false (.rw 1) (0) (n), .int .i64 (a)] : List AV)⟩, some ⟨1, s⟩, some ⟨1, l20⟩]))))) ∧
      (((rdEU [.agg s, .int .i64 (a)] : Int) == 0) = false →
        (!(((rdEU [.agg s, .int .i64 (a)] : Int) == 0))) = true ∧
        (!(((rdEU [.agg s, .int .i64 (a)] : Int) == 0))) = true ∧
        (!(((rdEU [.agg s, .int .i64 (a)] : Int) == 0))) = true ∧
        R (.tup [.nils, .int .i64 (rdEU [.agg s, .int .i64 (a)])]) [some ⟨1, ([.slice false (.rw 1) (0) (n), .int .i64 (a)] : List AV)⟩, some ⟨1, s⟩, some ⟨1, ([] : List AV)⟩]))) := by kernel_rfl
def tL45 : DL := ⟨0, 57, [0, 4, 5, 6, 7, 8, 9, 10], fun vs H => match vs, H with
  | [.ptr (.rw 0) (.lit 0), .nils, .int .i64 (.lit 0), .int .i64 b, .int .u64 v, .int .i64 e, .nils, .int .u64 (.lit 0)], [some ⟨1, .of [.slice true (.ro k) (.lit 0) n, .int .i64 a]⟩] =>
    some (.tst (.cmp .eql e (.lit 0))
      (.chk (.uf 1120 okRdU [.agg (.ro k), .ptr (.rw 0) n, .int .i64 a]) <| .chk (.leN n (.lit 1099511627776)) <| .chk (.cmp .leq (.lit 0) v) <| .chk (.cmp .leq v (.lit 9223372036854775807)) <| .tst (.uf 1133 nrOkU [.agg (.ro k), .int .i64 a, .int .i64 v])
        (.one (.exit 0) [.ptr (.rw 0) (.lit 0), .nils, .int .i64 (.lit 0), .int .i64 b, .undef, .int .i64 (.lit 0), .slice true (.rw 1) (.lit 0) (.len (.uf 1134 nrLU [.agg (.ro k), .int .i64 a, .int .i64 v])), .undef] [some ⟨1, .of [.slice true (.ro k) (.lit 0) n, .int .i64 (.uf 1135 nrAU [.agg (.ro k), .int .i64 a, .int .i64 v])]⟩, some ⟨1, .uf 1134 nrLU [.agg (.ro k), .int .i64 a, .int .i64 v]⟩])
        (.allL fun x => .allI fun a2 => .one (.exit 0) [.ptr (.rw 0) (.lit 0), .nils, .int .i64 (.lit 0), .int .i64 b, .undef, .int .i64 (.lit 4), .undef, .undef] [some ⟨1, .of [.slice true (.ro k) (.lit 0) n, .int .i64 a2]⟩, some ⟨1, x⟩]))
      (.one (.exit 0) [.ptr (.rw 0) (.lit 0), .nils, .int .i64 (.lit 0), .int .i64 b, .undef, .int .i64 e, .undef, .undef] [some ⟨1, .of [.slice true (.ro k) (.lit 0) n, .int .i64 a]⟩, some ⟨1, .of []⟩]))
  | _, _ => none⟩
theorem tL45_ok (G : Nat → List AV) (B : Nat) : DLoopOk (⟨Try.prog, G, B⟩ : Ctx) 1 (loopN Try.f45 0) tL45 := by
  refine .of fun vs H o ho nn Q hQ => ?_
  simp only [tL45] at ho
  split at ho
  · rename_i b v e k n a
    simp only [Option.some.injEq] at ho
    subst ho
    obtain ⟨h0, h9⟩ := hQ
    simp only [vB, vVs, vV, vR, vN, vI, cmpI] at h0 h9
    simp only [tL45, vVs, vV, vR, vN, vI, vL, vHp, List.map_cons, List.map_nil, Option.map_some, vBlk]
    have nil : ∀ {Q : Ex → List AV → Hp → Prop}, AWp (⟨Try.prog, G, B⟩ : Ctx) 1 (.loop (loopN Try.f45 0)) (fl 57 [0, 4, 5, 6, 7, 8, 9, 10] [.ptr (.rw 0) 0, .nils, .int .i64 0, .int .i64 (vI G b), .int .u64 (vI G v), .int .i64 (vI G e), .slice true (.rw 1) 0 0, .int .u64 0]) [some ⟨1, [.slice true (.ro (vN G k)) 0 (vN G n), .int .i64 (vI G a)]⟩, some ⟨1, []⟩] (lv 57 [0, 4, 5, 6, 7, 8, 9, 10] Q) →
        AWp (⟨Try.prog, G, B⟩ : Ctx) 1 (.loop (loopN Try.f45 0)) (fl 57 [0, 4, 5, 6, 7, 8, 9, 10] [.ptr (.rw 0) 0, .nils, .int .i64 0, .int .i64 (vI G b), .int .u64 (vI G v), .int .i64 (vI G e), .nils, .int .u64 0]) [some ⟨1, [.slice true (.ro (vN G k)) 0 (vN G n), .int .i64 (vI G a)]⟩] (lv 57 [0, 4, 5, 6, 7, 8, 9, 10] Q) := fun h =>
      AWp.nil (H := [some ⟨1, [.slice true (.ro (vN G k)) 0 (vN G n), .int .i64 (vI G a)]⟩]) (H' := [some ⟨1, [.slice true (.ro (vN G k)) 0 (vN G n), .int .i64 (vI G a)]⟩]) 1 (by simp) (nilrs_fl (vs := [.ptr (.rw 0) 0, .nils, .int .i64 0, .int .i64 (vI G b), .int .u64 (vI G v), .int .i64 (vI G e), .slice true (.rw 1) 0 0, .int .u64 0]) (vs' := [.ptr (.rw 0) 0, .nils, .int .i64 0, .int .i64 (vI G b), .int .u64 (vI G v), .int .i64 (vI G e), .nils, .int .u64 0])
        ⟨.inl rfl, .inl rfl, .inl rfl, .inl rfl, .inl rfl, .inl rfl, .inr ⟨rfl, rfl⟩, .inl rfl, trivial⟩) (nilH_refl _) h
    refine nil ?_
    by_cases he : vI G e = 0
    · obtain ⟨h1, h2, h3, h4, h5, h6⟩ := h0 (by rw [he]; rfl)
      simp only [vB, vVs, vV, vR, vN, vI, vL, cmpI, decide_eq_true_eq] at h1 h2 h3 h4 h5 h6
      have ok := okRd_iff.1 h1
      have h2 := leB_iff.1 h2
      have h3 := of_decide_eq_true h3
      have h4 := of_decide_eq_true h4
      have key := nl45 G B (vN G k) (vN G n) (vI G a).toNat (vI G v).toNat (vI G b) ok.b ok.len h2 ok.le (by omega)
      simp only [docB] at key
      rw [← ok.pos, show (((vI G v).toNat : Nat) : Int) = vI G v by omega] at key
      rw [he]
      refine key.lmono ?_
      rintro ex vs'' H'' ⟨rfl, ⟨xs, a', g1, g2, rfl⟩ | ⟨g1, xs, a', g2, rfl⟩⟩
      · have := h5 (by simp [nrOkU, g1])
        refine .inl ⟨_, g2, ?_⟩
        simp only [lHolds, vVs, vV, vR, vN, vI, vB, vL, vHp, List.map_cons, List.map_nil, Option.map_some, vBlk, nrLU, nrAU, g1, u64L_len] at this
        exact this
      · have := h6 (by simp [nrOkU, g1]) (u64L xs) (a' : Int)
        refine .inl ⟨_, g2, ?_⟩
        simp only [lHolds, vVs, vV, vR, vN, vI, vB, vL, vHp, List.map_cons, List.map_nil, Option.map_some, vBlk] at this
        exact this
    · have h9 := h9 (by simp [he])
      refine (nl45x G B (vN G k) (vN G n) (vI G a) (vI G b) (vI G v) (vI G e) he).lmono ?_
      rintro ex vs'' H'' ⟨rfl, g2, rfl⟩
      refine .inl ⟨_, g2, ?_⟩
      simp only [lHolds, vVs, vV, vR, vN, vI, vB, vL, vHp, List.map_cons, List.map_nil, Option.map_some, vBlk] at h9
      exact h9
  · simp at ho
theorem dgF45 (G : Nat → List AV) (B : Nat) : DGood (⟨Try.prog, G, B⟩ : Ctx) (Dc Try.prog [] docQ [tL45] 1) (loopsOf (bodyOf Try.f45)) := dgood (mix G B) (by kernel_rfl) (docQ_ok G B) (.cast (.cons (i := 0) (by kernel_rfl) rfl (tL45_ok G B) .nil) (by kernel_rfl))
theorem t45 (G : Nat → List AV) (k n : Nat) (a m : Int) (Q : Ex → List AV → Hp → Prop) (R : AV → Hp → Prop) : vT G Q R (dcall (Dc Try.prog [] docQ [tL45] 1) 300 20 Try.f45 [.ptr (.rw 0) (.lit 0), .int .i64 (.var 7 m)] [some ⟨1, .of [.slice true (.ro (.var 6 k)) (.lit 0) (.var 4 n), .int .i64 (.var 5 a)]⟩] 2) = (
    okRdU [.agg (G (k)), .ptr (.rw 0) (n), .int .i64 (a)] = true ∧
    (((rdEU [.agg (G (k)), .int .i64 (a)] : Int) == 0) = true →
      (decide ((rdVU [.agg (G (k)), .int .i64 (a)] : Int) > IntKind.wrap .u64 (m)) = true →
        (!(((3 : Int) == 0))) = true ∧
        R (.tup [.nils, .int .i64 (3)]) [some ⟨1, ([.slice true (.ro (k)) (0) (n), .int .i64 (a)] : List AV)⟩, some ⟨1, ([] : List AV)⟩]) ∧
      (decide ((rdVU [.agg (G (k)), .int .i64 (a)] : Int) > IntKind.wrap .u64 (m)) = false →
        ((rdEU [.agg (G (k)), .int .i64 (a)] : Int) == 0) = true ∧
        okRdU [.agg (G (k)), .ptr (.rw 0) (n), .int .i64 (rdAU [.agg (G (k)), .int .i64 (a)])] = true ∧
        leB (n) (1099511627776) = true ∧
        decide ((0 : Int) ≤ rdVU [.agg (G (k)), .int .i64 (a)]) = true ∧
        decide ((rdVU [.agg (G (k)), .int .i64 (a)] : Int) ≤ 9223372036854775807) = true ∧
        (nrOkU [.agg (G (k)), .int .i64 (rdAU [.agg (G (k)), .int .i64 (a)]), .int .i64 (rdVU [.agg (G (k)), .int .i64 (a)])] = true →
          R (.tup [.slice true (.rw 1) (0) (List.length (nrLU [.agg (G (k)), .int .i64 (rdAU [.agg (G (k)), .int .i64 (a)]), .int .i64 (rdVU [.agg (G (k)), .int .i64 (a)])])), .int .i64 (0)]) [some ⟨1, ([.slice true (.ro (k)) (0) (n), .int .i64 (nrAU [.agg (G (k)), .int .i64 (rdAU [.agg (G (k)), .int .i64 (a)]), .int .i64 (rdVU [.agg (G (k)), .int .i64 (a)])])] : List AV)⟩, some ⟨1, (nrLU [.agg (G (k)), .int .i64 (rdAU [.agg (G (k)), .int .i64 (a)]), .int .i64 (rdVU [.agg (G (k)), .int .i64 (a)])])⟩]) ∧
        (nrOkU [.agg (G (k)), .int .i64 (rdAU [.agg (G (k)), .int .i64 (a)]), .int .i64 (rdVU [.agg (G (k)), .int .i64 (a)])] = false →
          (∀ l20 : List AV,
          (∀ i21 : Int,
          R (.tup [.nils, .int .i64 (4)]) [some ⟨1, ([.slice true (.ro (k)) (0) (n), .int .i64 (a)] : List AV)⟩, some ⟨1, l20⟩]))))) ∧
    (((rdEU [.agg (G (k)), .int .i64 (a)] : Int) == 0) = false →
      (!(((rdEU [.agg (G (k)), .int .i64 (a)] : Int) == 0))) = true ∧
      (!(((rdEU [.agg (G (k)), .int .i64 (a)] : Int) == 0))) = true ∧
      R (.tup [.nils, .int .i64 (rdEU [.agg (G (k)), .int .i64 (a)])]) [some ⟨1, ([.slice true (.ro (k)) (0) (n), .int .i64 (a)] : List AV)⟩, some ⟨1, ([] : List AV)⟩])) := by kernel_rfl
end Go.Am
