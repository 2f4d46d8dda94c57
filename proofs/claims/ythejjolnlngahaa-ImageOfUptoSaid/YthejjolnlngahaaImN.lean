/-
  Images: copies: the trees.
-/
import Derived.Test.YthejjolnlngahaaImM
namespace Go.Am
open Go.Proofs
set_option maxRecDepth 100000
theorem t79 (G : Nat → List AV) (l : List AV) (n : Nat) (Q : Ex → List AV → Hp → Prop) (R : AV → Hp → Prop) : vT G Q R (dcall (Dc Try.prog [] [] [] 0) 300 20 Try.f79 [.slice false (.rw 0) (.lit 0) (.var 2 n)] [some ⟨2, .var 8 l⟩] 3) = (
    leB ((n) * 2) (List.length l) = true ∧
    cellsB (subL l (0) ((n) * 2)) = true ∧
    leB ((n) * 16) (140737488355328) = true ∧
    R (.slice false (.rw 2) (0) (n)) [some ⟨2, l⟩, none, some ⟨2, (subL l (0) ((n) * 2))⟩]) := by kernel_rfl
theorem t80 (G : Nat → List AV) (l : List AV) (n : Nat) (Q : Ex → List AV → Hp → Prop) (R : AV → Hp → Prop) : vT G Q R (dcall (Dc Try.prog [] [] [] 0) 300 20 Try.f80 [.slice false (.rw 0) (.lit 0) (.var 2 n)] [some ⟨1, .var 8 l⟩] 3) = (
    leB (n) (List.length l) = true ∧
    cellsB (subL l (0) (n)) = true ∧
    leB (n) (140737488355328) = true ∧
    R (.slice false (.rw 2) (0) (n)) [some ⟨1, l⟩, none, some ⟨1, (subL l (0) (n))⟩]) := by kernel_rfl
theorem t78 (G : Nat → List AV) (a r z : Int) (l : List AV) (n : Nat) (Q : Ex → List AV → Hp → Prop) (R : AV → Hp → Prop) : vT G Q R (dcall (Dc Try.prog [] [] [] 0) 300 20 Try.f78 [.slice false (.rw 0) (.lit 0) (.lit 1)] [some ⟨4, .of [.int .i64 (.var 1 a), .int .i64 (.var 3 r), .slice false (.rw 1) (.lit 0) (.var 2 n), .int .i64 (.var 4 z)]⟩, some ⟨1, .var 8 l⟩] 4) = (
    R (.slice false (.rw 3) (0) (1)) [some ⟨4, ([.int .i64 (a), .int .i64 (r), .slice false (.rw 1) (0) (n), .int .i64 (z)] : List AV)⟩, some ⟨1, l⟩, none, some ⟨4, ([.int .i64 (a), .int .i64 (r), .slice false (.rw 1) (0) (n), .int .i64 (z)] : List AV)⟩]) := by kernel_rfl
theorem take_at {H : Hp} {K : Hp} {k : Nat} (h : H.take k = K) {j : Nat} (hj : j < k) : H[j]? = K[j]? := by rw [← h, List.getElem?_take, if_pos hj]
def clOk (z : Nat) : List AV → Bool := fun xs => match xs with
  | [.agg l, .int _ n] => (leB (n.toNat * z) l.length && cellsB (subL l 0 (n.toNat * z))) && (Nat.ble n.toNat 1000000 && bnds 0 l)
  | _ => false
theorem clOk_iff {z : Nat} {l : List AV} {n : Nat} : clOk z [.agg l, .int .i64 (n : Int)] = true ↔ (leB (n * z) l.length = true ∧ cellsB (subL l 0 (n * z)) = true) ∧ n ≤ 1000000 ∧ bnds 0 l = true := by
  simp only [clOk, int_nat, Bool.and_eq_true]
  exact ⟨fun ⟨h1, h2, h3⟩ => ⟨h1, Nat.le_of_ble_eq_true h2, h3⟩, fun ⟨h1, h2, h3⟩ => ⟨h1, Nat.ble_eq_true_of_le h2, h3⟩⟩
theorem bnds_sub {l : List AV} {a b : Nat} (h : bnds 0 l = true) : bnds 0 (subL l a b) = true := by
  rw [bnds_eq, List.all_eq_true] at *
  exact fun v hv => h v (List.mem_of_mem_drop (List.mem_of_mem_take hv))
theorem ACalls.cl1 {C : Ctx} {f : FuncId} {args : List AV} {b0 b1 : Blk} {n : Nat} (h : ACalls C f args [some b0] fun v H => v = .slice false (.rw 2) 0 n ∧ H.take 3 = [some b0, none, some b1]) (h0 : bnds 0 b0.cells = true) (h1 : bnds 0 b1.cells = true) : ACalls C f args [some b0] fun v H => v = .slice false (.rw 1) 0 n ∧ H = [some b0, some b1] := by
  refine h.view fun v H' hj => ⟨.slice false (.rw 1) 0 n, [some b0, some b1], ⟨rfl, rfl⟩, ?_⟩
  obtain ⟨rfl, hH⟩ := hj
  show View 1 [.slice false (.rw 1) 0 n] [some b0, some b1] [.slice false (.rw 2) 0 n] H'
  have fix : ∀ i, i < 1 → [0, 2].getD i 0 = i := fun i hi => by
    have : i = 0 := by omega
    subst this; rfl
  obtain ⟨e0, c0⟩ := b0
  obtain ⟨e1, c1⟩ := b1
  refine View.renM (H := [some ⟨e0, c0⟩, some ⟨e1, c1⟩]) (θ := [0, 2]) (by simp) fix (by decide) ⟨⟨bnds_mono (Nat.zero_le _) _ h0, ?_⟩, ⟨bnds_mono (Nat.zero_le _) _ h1, ?_⟩, trivial⟩ (by simp [bnds, bnd]) (by simp [rens, ren, wk])
  · rw [rens_flat _ _ h0]; exact take_at hH (by omega)
  · rw [rens_flat _ _ h1]; exact take_at hH (by omega)
theorem cl2_call (G : Nat → List AV) (B : Nat) (l : List AV) (n : Nat) (h : clOk 2 [.agg l, .int .i64 (n : Int)] = true) : ACalls (⟨Try.prog, G, B⟩ : Ctx) 79 [.slice false (.rw 0) 0 n] [some ⟨2, l⟩] fun v H => v = .slice false (.rw 1) 0 n ∧ H = [some ⟨2, l⟩, some ⟨2, subL l 0 (n * 2)⟩] := by
  obtain ⟨⟨h1, h2⟩, h3, h4⟩ := clOk_iff.1 h
  have := dcall_ok (C := (⟨Try.prog, G, B⟩ : Ctx)) (fuel := 300) (n0 := 20) (f := 79) (fn := Try.f79) (args := [.slice false (.rw 0) (.lit 0) (.var 2 n)]) (H := [some ⟨2, .var 8 l⟩]) (keep := 3)
    (R := fun v H => v = .slice false (.rw 2) 0 n ∧ H = [some ⟨2, l⟩, none, some ⟨2, subL l 0 (n * 2)⟩]) (by rw [show loopsOf (bodyOf Try.f79) = [] by kernel_rfl]; exact dgI G B 0) (by kernel_rfl) (by kernel_rfl) (by kernel_rfl) (by
    rw [t79]
    exact ⟨h1, h2, leB_iff.2 (by omega), rfl, rfl⟩)
  exact ACalls.cl1 this h4 (bnds_sub h4)
theorem cl1_call (G : Nat → List AV) (B : Nat) (l : List AV) (n : Nat) (h : clOk 1 [.agg l, .int .i64 (n : Int)] = true) : ACalls (⟨Try.prog, G, B⟩ : Ctx) 80 [.slice false (.rw 0) 0 n] [some ⟨1, l⟩] fun v H => v = .slice false (.rw 1) 0 n ∧ H = [some ⟨1, l⟩, some ⟨1, subL l 0 n⟩] := by
  obtain ⟨⟨h1, h2⟩, h3, h4⟩ := clOk_iff.1 h
  rw [Nat.mul_one] at h1 h2
  have := dcall_ok (C := (⟨Try.prog, G, B⟩ : Ctx)) (fuel := 300) (n0 := 20) (f := 80) (fn := Try.f80) (args := [.slice false (.rw 0) (.lit 0) (.var 2 n)]) (H := [some ⟨1, .var 8 l⟩]) (keep := 3)
    (R := fun v H => v = .slice false (.rw 2) 0 n ∧ H = [some ⟨1, l⟩, none, some ⟨1, subL l 0 n⟩]) (by rw [show loopsOf (bodyOf Try.f80) = [] by kernel_rfl]; exact dgI G B 0) (by kernel_rfl) (by kernel_rfl) (by kernel_rfl) (by
    rw [t80]
    exact ⟨h1, h2, leB_iff.2 (by omega), rfl, rfl⟩)
  exact ACalls.cl1 this h4 (bnds_sub h4)
theorem cl4_call (G : Nat → List AV) (B : Nat) (a r z : Int) (l : List AV) (n : Nat) (h4 : bnds 0 l = true) : ACalls (⟨Try.prog, G, B⟩ : Ctx) 78 [.slice false (.rw 0) 0 1] [some ⟨4, [.int .i64 a, .int .i64 r, .slice false (.rw 1) 0 n, .int .i64 z]⟩, some ⟨1, l⟩] fun v H => v = .slice false (.rw 2) 0 1 ∧ H = [some ⟨4, [.int .i64 a, .int .i64 r, .slice false (.rw 1) 0 n, .int .i64 z]⟩, some ⟨1, l⟩, some ⟨4, [.int .i64 a, .int .i64 r, .slice false (.rw 1) 0 n, .int .i64 z]⟩] := by
  have := dcall_ok (C := (⟨Try.prog, G, B⟩ : Ctx)) (fuel := 300) (n0 := 20) (f := 78) (fn := Try.f78) (args := [.slice false (.rw 0) (.lit 0) (.lit 1)]) (H := [some ⟨4, .of [.int .i64 (.var 1 a), .int .i64 (.var 3 r), .slice false (.rw 1) (.lit 0) (.var 2 n), .int .i64 (.var 4 z)]⟩, some ⟨1, .var 8 l⟩]) (keep := 4)
    (R := fun v H => v = .slice false (.rw 3) 0 1 ∧ H = [some ⟨4, [.int .i64 a, .int .i64 r, .slice false (.rw 1) 0 n, .int .i64 z]⟩, some ⟨1, l⟩, none, some ⟨4, [.int .i64 a, .int .i64 r, .slice false (.rw 1) 0 n, .int .i64 z]⟩]) (by rw [show loopsOf (bodyOf Try.f78) = [] by kernel_rfl]; exact dgI G B 0) (by kernel_rfl) (by kernel_rfl) (by kernel_rfl) (by
    rw [t78]
    exact ⟨rfl, rfl⟩)
  refine this.view fun v H' hj => ⟨.slice false (.rw 2) 0 1, [some ⟨4, [.int .i64 a, .int .i64 r, .slice false (.rw 1) 0 n, .int .i64 z]⟩, some ⟨1, l⟩, some ⟨4, [.int .i64 a, .int .i64 r, .slice false (.rw 1) 0 n, .int .i64 z]⟩], ⟨rfl, rfl⟩, ?_⟩
  obtain ⟨rfl, hH⟩ := hj
  show View 2 [.slice false (.rw 2) 0 1] [some ⟨4, [.int .i64 a, .int .i64 r, .slice false (.rw 1) 0 n, .int .i64 z]⟩, some ⟨1, l⟩, some ⟨4, [.int .i64 a, .int .i64 r, .slice false (.rw 1) 0 n, .int .i64 z]⟩] [.slice false (.rw 3) 0 1] H'
  have fix : ∀ i, i < 2 → [0, 1, 3].getD i 0 = i := fun i hi => by
    match i, hi with
    | 0, _ => rfl
    | 1, _ => rfl
  refine View.renM (H := [some ⟨4, [.int .i64 a, .int .i64 r, .slice false (.rw 1) 0 n, .int .i64 z]⟩, some ⟨1, l⟩, some ⟨4, [.int .i64 a, .int .i64 r, .slice false (.rw 1) 0 n, .int .i64 z]⟩]) (θ := [0, 1, 3]) (by simp) fix (by decide) ⟨⟨by simp [bnds, bnd], ?_⟩, ⟨bnds_mono (Nat.zero_le _) _ h4, ?_⟩, ⟨by simp [bnds, bnd], ?_⟩, trivial⟩ (by simp [bnds, bnd]) (by simp [rens, ren, wk])
  · exact take_at hH (by omega)
  · rw [rens_flat _ _ h4]; exact take_at hH (by omega)
  · exact take_at hH (by omega)
def cl2S : DSum := fun args H => match args with
  | [.slice false (.rw i) (.lit 0) n] => match H[i]? with
    | some (some ⟨2, l⟩) => some (.chk (.uf 1740 (clOk 2) [.agg l, .int .i64 (.ofN n)]) (.one (.slice false (.rw H.length) (.lit 0) n) [.new ⟨2, .sub l (.lit 0) (.mul n 2)⟩]))
    | _ => none
  | _ => none
def cl1S : DSum := fun args H => match args with
  | [.slice false (.rw i) (.lit 0) n] => match H[i]? with
    | some (some ⟨1, l⟩) => some (.chk (.uf 1741 (clOk 1) [.agg l, .int .i64 (.ofN n)]) (.one (.slice false (.rw H.length) (.lit 0) n) [.new ⟨1, .sub l (.lit 0) n⟩]))
    | _ => none
  | _ => none
theorem cl2S_ok (G : Nat → List AV) (B : Nat) : DSumOk (⟨Try.prog, G, B⟩ : Ctx) 79 cl2S := by
  intro args H o ho
  unfold cl2S at ho
  split at ho
  · rename_i i n
    split at ho
    · rename_i l hi
      simp only [Option.some.injEq] at ho
      subst ho
      intro hk
      have h4 := (clOk_iff.1 hk).2.2
      refine DOut.newN (C := (⟨Try.prog, G, B⟩ : Ctx)) (θ := [i]) (H0 := [some ⟨2, vL G l⟩]) (b := ⟨2, .sub l (.lit 0) (.mul n 2)⟩) (v0 := .slice false (.rw 1) 0 (vN G n)) (args0 := [.slice false (.rw 0) 0 (vN G n)]) (by simp) rfl (fun k x hk => ?_) (by simp [bnds, bnd]) (by simp [vVs, vV, vR, vN, rens, ren]) (cl2_call G B (vL G l) (vN G n) hk) (bnds_sub h4) (by simp [bnd]) (by simp [vV, vR, vN, ren, wide])
      match k, hk with
      | 0, hk =>
        simp at hk; subst hk
        refine ⟨_, rfl, bnds_mono (Nat.zero_le _) _ h4, ?_⟩
        have := vHp_some (G := G) hi
        simp only [renB, rens_flat _ _ h4]
        simpa [vBlk] using this
    · simp at ho
  · simp at ho
theorem cl1S_ok (G : Nat → List AV) (B : Nat) : DSumOk (⟨Try.prog, G, B⟩ : Ctx) 80 cl1S := by
  intro args H o ho
  unfold cl1S at ho
  split at ho
  · rename_i i n
    split at ho
    · rename_i l hi
      simp only [Option.some.injEq] at ho
      subst ho
      intro hk
      have h4 := (clOk_iff.1 hk).2.2
      refine DOut.newN (C := (⟨Try.prog, G, B⟩ : Ctx)) (θ := [i]) (H0 := [some ⟨1, vL G l⟩]) (b := ⟨1, .sub l (.lit 0) n⟩) (v0 := .slice false (.rw 1) 0 (vN G n)) (args0 := [.slice false (.rw 0) 0 (vN G n)]) (by simp) rfl (fun k x hk => ?_) (by simp [bnds, bnd]) (by simp [vVs, vV, vR, vN, rens, ren]) (cl1_call G B (vL G l) (vN G n) hk) (bnds_sub h4) (by simp [bnd]) (by simp [vV, vR, vN, ren, wide])
      match k, hk with
      | 0, hk =>
        simp at hk; subst hk
        refine ⟨_, rfl, bnds_mono (Nat.zero_le _) _ h4, ?_⟩
        have := vHp_some (G := G) hi
        simp only [renB, rens_flat _ _ h4]
        simpa [vBlk] using this
    · simp at ho
  · simp at ho
end Go.Am
