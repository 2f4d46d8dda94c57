/-
  Wire: the step of WireReads.
-/
import Derived.Test.YtcodkoholbmkkaaWrE
namespace Go.Am
open Go.Proofs
set_option maxRecDepth 100000
def rnOk (l : List AV) (a m : Int) : Bool := decide (rdEU [.agg l, .int .i64 a] = 0) && (decide (rdVU [.agg l, .int .i64 a] ≤ m) && nrOkU [.agg l, .int .i64 (rdAU [.agg l, .int .i64 a]), .int .i64 (rdVU [.agg l, .int .i64 a])])
def rnEU (xs : List AV) : Int := match xs with
  | [.agg l, .ptr _ _, .int _ a, .int _ m] => if rnOk l a m then 0 else if rdEU [.agg l, .int .i64 a] = 0 ∧ ¬ rdVU [.agg l, .int .i64 a] ≤ m then 3 else 4
  | _ => 4
def rnLU (xs : List AV) : List AV := match xs with
  | [.agg l, .ptr _ _, .int _ a, .int _ m] => if rnOk l a m then nrLU [.agg l, .int .i64 (rdAU [.agg l, .int .i64 a]), .int .i64 (rdVU [.agg l, .int .i64 a])] else []
  | _ => []
def rnAU (xs : List AV) : Int := match xs with
  | [.agg l, .ptr _ _, .int _ a, .int _ m] => if rnOk l a m then nrAU [.agg l, .int .i64 (rdAU [.agg l, .int .i64 a]), .int .i64 (rdVU [.agg l, .int .i64 a])] else a
  | _ => 0
theorem nrL_flat (xs : List AV) (j : Nat) : bnds j (nrLU xs) = true := by
  unfold nrLU
  split
  · split
    · exact u64L_flat _ _
    · rfl
  · rfl
theorem rnL_flat (xs : List AV) (j : Nat) : bnds j (rnLU xs) = true := by
  unfold rnLU
  split
  · split
    · exact nrL_flat _ _
    · rfl
  · rfl
theorem rdE_cases (l : List AV) (a : Int) (k : IntKind) : rdEU [.agg l, .int k a] = 0 ∨ rdEU [.agg l, .int k a] = 4 := by
  simp only [rdEU]
  split
  · exact .inl rfl
  · exact .inr rfl
theorem take44 (G : Nat → List AV) (B : Nat) (s : List AV) (n : Nat) (a m : Int) (h : okRdU [.agg s, .ptr (.rw 0) n, .int .i64 a] = true) (h40 : n ≤ 1099511627776) (hm : 0 ≤ m ∧ m ≤ 9223372036854775807) : ACalls (⟨Try.prog, G, B⟩ : Ctx) 44 [.ptr (.rw 0) 0, .int .i64 m, .func 20 []] [some ⟨1, [.slice false (.rw 1) 0 n, .int .i64 a]⟩, some ⟨1, s⟩]
    fun v' H' => v' = .tup [.slice true (.rw 2) 0 (rnLU [.agg s, .ptr (.rw 0) n, .int .i64 a, .int .i64 m]).length, .int .i64 (rnEU [.agg s, .ptr (.rw 0) n, .int .i64 a, .int .i64 m])] ∧ H' = [some ⟨1, [.slice false (.rw 1) 0 n, .int .i64 (rnAU [.agg s, .ptr (.rw 0) n, .int .i64 a, .int .i64 m])]⟩, some ⟨1, s⟩] ++ [some ⟨1, rnLU [.agg s, .ptr (.rw 0) n, .int .i64 a, .int .i64 m]⟩] := by
  have ok := okRd_iff.1 h
  have hp := ok.pos
  have hle := ok.le
  have hlen := ok.len
  have hf : ∀ j, bnds j s = true := fun j => u8s_flat (b8s_u8 ok.b)
  refine merge_nil (k := 3) (ok := rnOk s a m) (H1 := [some ⟨1, [.slice false (.rw 1) 0 n, .int .i64 a]⟩, some ⟨1, s⟩]) (H2 := [some ⟨1, [.slice false (.rw 1) 0 n, .int .i64 (rnAU [.agg s, .ptr (.rw 0) n, .int .i64 a, .int .i64 m])]⟩, some ⟨1, s⟩]) (mb := false) ?_ (by simp) (by simp [hpB, bnds, bnd, hf]) (by simp) (by simp [hpB, bnds, bnd, hf, rnL_flat]) (fun h => by simp [rnEU, h]) (fun h => by simp [rnLU, rnAU, h])
  exact dcall_ok (C := (⟨Try.prog, G, B⟩ : Ctx)) (fn := Try.f44) (f := 44) (R := fun v' H' => (rnOk s a m = false ∧ v' = .tup [.nils, .int .i64 (rnEU [.agg s, .ptr (.rw 0) n, .int .i64 a, .int .i64 m])] ∧ ∃ r, H' = [some ⟨1, [.slice false (.rw 1) 0 n, .int .i64 a]⟩, some ⟨1, s⟩] ++ r) ∨
      (rnOk s a m = true ∧ v' = .tup [.slice false (.rw 2) 0 (rnLU [.agg s, .ptr (.rw 0) n, .int .i64 a, .int .i64 m]).length, .int .i64 0] ∧ H' = [some ⟨1, [.slice false (.rw 1) 0 n, .int .i64 (rnAU [.agg s, .ptr (.rw 0) n, .int .i64 a, .int .i64 m])]⟩, some ⟨1, s⟩] ++ [some ⟨1, rnLU [.agg s, .ptr (.rw 0) n, .int .i64 a, .int .i64 m]⟩]))
    (dgF44 G B) (by kernel_rfl) (by kernel_rfl) (by kernel_rfl) (fuel := 300) (n0 := 20) (keep := 3) (args := [.ptr (.rw 0) (.lit 0), .int .i64 (.var 7 m), .func 20 []]) (H := [some ⟨1, .of [.slice false (.rw 1) (.lit 0) (.var 4 n), .int .i64 (.var 5 a)]⟩, some ⟨1, .var 6 s⟩]) (by
    rw [t44]
    have wm : IntKind.wrap .u64 m = m := u64_in (by omega)
    rw [wm]
    refine ⟨fun h0 => absurd (of_decide_eq_true h0) (by omega), fun _ => ⟨h, fun he => ?_, fun he => ?_⟩⟩
    · have he := eq_of_beq he
      obtain ⟨b1, b2, b3⟩ := rd_bound (k := .i64) ok he
      refine ⟨fun hv => ?_, fun hv => ⟨by rw [he]; rfl, rfl, ?_⟩⟩
      · have hv := of_decide_eq_true hv
        have hk : rnOk s a m = false := by simp [rnOk]; omega
        exact ⟨rfl, .inl ⟨hk, by simp only [rnEU, hk, he]; simp; omega, _, rfl⟩⟩
      · have hv := of_decide_eq_false hv
        have w1 : IntKind.wrap .i64 (rdVU [.agg s, .int .i64 a]) = rdVU [.agg s, .int .i64 a] := i64_in (by omega)
        rw [w1]
        have ok2 : okRdU [.agg s, .ptr (.rw 0) n, .int .i64 (rdAU [.agg s, .int .i64 a])] = true := okRd_iff.2 ⟨ok.b, ok.len, ok.big, by omega, by omega⟩
        refine ⟨ok2, leB_iff.2 h40, decide_eq_true (by omega), decide_eq_true (by omega), fun hr => ?_, fun hr _ _ => ?_⟩
        · have hk : rnOk s a m = true := by simp only [rnOk, hr, he, Bool.and_true, Bool.and_eq_true, decide_eq_true_eq, true_and]; omega
          exact .inr ⟨hk, by simp [rnLU, hk], by simp [rnLU, rnAU, hk]⟩
        · have hk : rnOk s a m = false := by simp only [rnOk, hr, Bool.and_false]
          exact .inl ⟨hk, by simp only [rnEU, hk, he]; simp; omega, _, rfl⟩
    · have he := ne_of_beq_false he
      have hb : (rdEU [.agg s, .int .i64 a] == 0) = false := by simp [he]
      have hk : rnOk s a m = false := by simp [rnOk, he]
      rw [hb]
      refine ⟨rfl, rfl, rfl, .inl ⟨hk, ?_, _, rfl⟩⟩
      simp only [rnEU, hk, he]
      rcases rdE_cases s a .i64 with q | q
      · exact absurd q he
      · rw [q]; simp)
theorem nums45 (G : Nat → List AV) (B : Nat) (k n : Nat) (a m : Int) (h : okRdU [.agg (G k), .ptr (.rw 0) n, .int .i64 a] = true) (h40 : n ≤ 1099511627776) (hm : 0 ≤ m ∧ m ≤ 9223372036854775807) : ACalls (⟨Try.prog, G, B⟩ : Ctx) 45 [.ptr (.rw 0) 0, .int .i64 m] [some ⟨1, [.slice true (.ro k) 0 n, .int .i64 a]⟩]
    fun v' H' => v' = .tup [.slice true (.rw 1) 0 (rnLU [.agg (G k), .ptr (.rw 0) n, .int .i64 a, .int .i64 m]).length, .int .i64 (rnEU [.agg (G k), .ptr (.rw 0) n, .int .i64 a, .int .i64 m])] ∧ H' = [some ⟨1, [.slice true (.ro k) 0 n, .int .i64 (rnAU [.agg (G k), .ptr (.rw 0) n, .int .i64 a, .int .i64 m])]⟩] ++ [some ⟨1, rnLU [.agg (G k), .ptr (.rw 0) n, .int .i64 a, .int .i64 m]⟩] := by
  have ok := okRd_iff.1 h
  have hp := ok.pos
  have hle := ok.le
  have hlen := ok.len
  refine merge_nil (k := 2) (ok := rnOk (G k) a m) (H1 := [some ⟨1, [.slice true (.ro k) 0 n, .int .i64 a]⟩]) (H2 := [some ⟨1, [.slice true (.ro k) 0 n, .int .i64 (rnAU [.agg (G k), .ptr (.rw 0) n, .int .i64 a, .int .i64 m])]⟩]) (mb := true) ?_ (by simp) (by simp [hpB, bnds, bnd]) (by simp) (by simp [hpB, bnds, bnd, rnL_flat]) (fun h => by simp [rnEU, h]) (fun h => by simp [rnLU, rnAU, h])
  exact dcall_ok (C := (⟨Try.prog, G, B⟩ : Ctx)) (fn := Try.f45) (f := 45) (R := fun v' H' => (rnOk (G k) a m = false ∧ v' = .tup [.nils, .int .i64 (rnEU [.agg (G k), .ptr (.rw 0) n, .int .i64 a, .int .i64 m])] ∧ ∃ r, H' = [some ⟨1, [.slice true (.ro k) 0 n, .int .i64 a]⟩] ++ r) ∨
      (rnOk (G k) a m = true ∧ v' = .tup [.slice true (.rw 1) 0 (rnLU [.agg (G k), .ptr (.rw 0) n, .int .i64 a, .int .i64 m]).length, .int .i64 0] ∧ H' = [some ⟨1, [.slice true (.ro k) 0 n, .int .i64 (rnAU [.agg (G k), .ptr (.rw 0) n, .int .i64 a, .int .i64 m])]⟩] ++ [some ⟨1, rnLU [.agg (G k), .ptr (.rw 0) n, .int .i64 a, .int .i64 m]⟩]))
    (dgF45 G B) (by kernel_rfl) (by kernel_rfl) (by kernel_rfl) (fuel := 300) (n0 := 20) (keep := 2) (args := [.ptr (.rw 0) (.lit 0), .int .i64 (.var 7 m)]) (H := [some ⟨1, .of [.slice true (.ro (.var 6 k)) (.lit 0) (.var 4 n), .int .i64 (.var 5 a)]⟩]) (by
    rw [t45]
    dsimp only
    have wm : IntKind.wrap .u64 m = m := u64_in (by omega)
    rw [wm]
    refine ⟨h, fun he => ?_, fun he => ?_⟩
    · have he := eq_of_beq he
      obtain ⟨b1, b2, b3⟩ := rd_bound (k := .i64) ok he
      refine ⟨fun hv => ?_, fun hv => ⟨by rw [he]; rfl, ?_⟩⟩
      · have hv := of_decide_eq_true hv
        have hk : rnOk (G k) a m = false := by simp [rnOk]; omega
        exact ⟨rfl, .inl ⟨hk, by simp only [rnEU, hk, he]; simp; omega, _, rfl⟩⟩
      · have hv := of_decide_eq_false hv
        have ok2 : okRdU [.agg (G k), .ptr (.rw 0) n, .int .i64 (rdAU [.agg (G k), .int .i64 a])] = true := okRd_iff.2 ⟨ok.b, ok.len, ok.big, by omega, by omega⟩
        refine ⟨ok2, leB_iff.2 h40, decide_eq_true (by omega), decide_eq_true (by omega), fun hr => ?_, fun hr _ _ => ?_⟩
        · have hk : rnOk (G k) a m = true := by simp only [rnOk, hr, he, Bool.and_true, Bool.and_eq_true, decide_eq_true_eq, true_and]; omega
          exact .inr ⟨hk, by simp [rnLU, hk], by simp [rnLU, rnAU, hk]⟩
        · have hk : rnOk (G k) a m = false := by simp only [rnOk, hr, Bool.and_false]
          exact .inl ⟨hk, by simp only [rnEU, hk, he]; simp; omega, _, rfl⟩
    · have he := ne_of_beq_false he
      have hb : (rdEU [.agg (G k), .int .i64 a] == 0) = false := by simp [he]
      have hk : rnOk (G k) a m = false := by simp [rnOk, he]
      rw [hb]
      refine ⟨rfl, rfl, .inl ⟨hk, ?_, _, rfl⟩⟩
      simp only [rnEU, hk, he]
      rcases rdE_cases (G k) a .i64 with q | q
      · exact absurd q he
      · rw [q]; simp)
end Go.Am
