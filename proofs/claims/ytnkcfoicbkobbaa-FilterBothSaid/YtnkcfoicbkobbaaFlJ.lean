/-
  Filters: the program's plain filter: tests without a mask are taken away.
-/
import Derived.Test.YtnkcfoicbkobbaaFlI
namespace Go.Am
open Go.Proofs
set_option maxRecDepth 100000
/-- the first test without a mask; n: none -/
def zxN (L : List AV) (n : Nat) : Nat := fstF (fun i => tM L i == 0) n
def zxF (L : List AV) (n : Nat) : Int := if zxN L n = n then -1 else (zxN L n : Int)
def zxU : List AV → Int := fun xs => match xs with
  | [.agg cs, .int _ n] => zxF cs n.toNat
  | _ => 0
def okIU3 : List AV → Bool := fun xs => match xs with
  | [.agg cs, .int _ n] => okI .i64 cs 0 (n.toNat * 3) && (Nat.ble n.toNat 1000000 && (bnds 0 cs && noRcds cs))
  | _ => false
def zxQ (l : List AV) (n : Nat) : List AV → Bool := stQ (okIU3 [.agg l, .int .i64 (n : Int)]) [.slice true (.rw 0) 0 n, .func 42 [], .int .i64 0, .int .i64 (n : Int), .int .i64 0] [some ⟨3, l⟩]
def zxO (l : List AV) (n : Nat) : LOut := .tst (.cmp .eql (.uf 1633 zxU [.agg (.var 8 l), .int .i64 (.ofN (.var 2 n))]) (.lit (-1))) (.one (.exit 0) [.undef, .undef, .undef, .undef, .undef] [some ⟨3, .var 8 l⟩]) (.one .ret [.undef, .undef, .int .i64 (.uf 1633 zxU [.agg (.var 8 l), .int .i64 (.ofN (.var 2 n))]), .undef, .undef] [some ⟨3, .var 8 l⟩])
theorem t39z (G : Nat → List AV) (l : List AV) (n : Nat) (Q : Ex → List AV → Hp → Prop) (R : AV → Hp → Prop) : vT G Q R (dcall (Dc Try.prog [] [] [(DLat 1634 (zxQ l n) 0 19 [0, 1, 4, 7, 8] (zxO l n))] 1) 300 20 Try.f39 [.slice true (.rw 0) (.lit 0) (.var 2 n), .func 42 []] [some ⟨3, .var 8 l⟩] 1) = (
    (zxQ l n) [.agg ([.slice true (.rw 0) (0) (n), .func 42 [], .int .i64 (0), .int .i64 (((n : Nat) : Int)), .int .i64 (0)] : List AV), .agg ([.tup [.int .i64 (3), .agg l]] : List AV)] = true ∧
    (((zxU [.agg l, .int .i64 (((n : Nat) : Int))] : Int) == (-1)) = true →
      R (.int .i64 ((-1))) [some ⟨3, l⟩]) ∧
    (((zxU [.agg l, .int .i64 (((n : Nat) : Int))] : Int) == (-1)) = false →
      R (.int .i64 (zxU [.agg l, .int .i64 (((n : Nat) : Int))])) [some ⟨3, l⟩])) := by kernel_rfl
def zxS : DSum := fun args H => match args with
  | [.slice _ (.rw i) (.lit 0) n, .func 42 []] => match H[i]? with
    | some (some ⟨3, l⟩) => some (.chk (.uf 1635 okIU3 [.agg l, .int .i64 (.ofN n)]) (.one (.int .i64 (.uf 1633 zxU [.agg l, .int .i64 (.ofN n)])) []))
    | _ => none
  | _ => none
def zsO (l : List AV) (n z : Nat) : LOut := .one (.exit 0) [.slice true (.rw 0) (.lit 0) (.var 2 n), .func 42 [], .undef, .int .i64 (.ofN (.var 5 z)), .undef] [some ⟨3, .var 8 l⟩]
theorem df_b (G : Nat → List AV) (l : List AV) (n z : Nat) (Q : Ex → List AV → Hp → Prop) (R : AV → Hp → Prop) : vT G Q R (dloop (Dc Try.prog [42] [] [] 1) 300 20 1 (loopN Try.f41 0) 42 [0, 1, 4, 5, 6] [.slice true (.rw 0) (.lit 0) (.var 2 n), .func 42 [], .nils, .int .i64 (.var 5 z), .int .i64 (.ofN (.var 2 n))] [some ⟨3, .var 8 l⟩]) = (
    (!(decide ((((n : Nat) : Int) : Int) < ((n : Nat) : Int)))) = true ∧
    Q (.exit 0) [.slice true (.rw 0) (0) (n), .func 42 [], .nils, .int .i64 (z), .int .i64 (((n : Nat) : Int))] [some ⟨3, l⟩]) := by kernel_rfl
def dfQ (l : List AV) (n z : Nat) : List AV → Bool := stQ (Nat.beq (z + 1) n) [.slice true (.rw 0) 0 n, .func 42 [], .nils, .int .i64 (z : Int), .int .i64 (n : Int)] [some ⟨3, l⟩]
theorem t41 (G : Nat → List AV) (l : List AV) (n z : Nat) (Q : Ex → List AV → Hp → Prop) (R : AV → Hp → Prop) : vT G Q R (dcall (Dc Try.prog [42] [(39, zxS)] [(DLat 1636 (dfQ l n z) 0 42 [0, 1, 4, 5, 6] (zsO l n z))] 1) 300 20 Try.f41 [.slice true (.rw 0) (.lit 0) (.var 2 n), .func 42 []] [some ⟨3, .var 8 l⟩] 1) = (
    okIU3 [.agg l, .int .i64 (((n : Nat) : Int))] = true ∧
    (((zxU [.agg l, .int .i64 (((n : Nat) : Int))] : Int) == (-1)) = true →
      R (.slice true (.rw 0) (0) (n)) [some ⟨3, l⟩]) ∧
    (((zxU [.agg l, .int .i64 (((n : Nat) : Int))] : Int) == (-1)) = false →
      (dfQ l n z) [.agg ([.slice true (.rw 0) (0) (n), .func 42 [], .nils, .int .i64 (zxU [.agg l, .int .i64 (((n : Nat) : Int))]), .int .i64 (IntKind.wrap .i64 (zxU [.agg l, .int .i64 (((n : Nat) : Int))] + 1))] : List AV), .agg ([.tup [.int .i64 (3), .agg l]] : List AV)] = true ∧
      decide ((0 : Int) ≤ ((z : Nat) : Int)) = true ∧
      decide ((((z : Nat) : Int) : Int) ≤ ((n : Nat) : Int)) = true ∧
      decide ((((n : Nat) : Int) : Int) ≤ ((n : Nat) : Int)) = true ∧
      leB (1) ((n) - (z)) = true ∧
      leB ((z) * 3 + ((n) - (z)) * 3) (List.length l) = true ∧
      decide ((0 : Int) ≤ ((z : Nat) : Int)) = true ∧
      decide ((((z : Nat) : Int) : Int) ≤ ((n : Nat) : Int)) = true ∧
      R (.slice true (.rw 0) (0) (z)) [some ⟨3, (setPart l ((z) * 3) (.agg (repL ((n) - (z)) ([.int .i64 (0), .int .i64 (0), .int .i64 (0)] : List AV))))⟩])) := by kernel_rfl
theorem zxN_le {L : List AV} {n : Nat} : zxN L n ≤ n := fstF_spec.1
theorem zx_tM {L : List AV} {n i : Nat} (h1 : i ≤ zxN L n) (h2 : i < n) : (tM L i == 0) = decide (i = zxN L n) := by
  obtain ⟨g1, g2, g3⟩ := fstF_spec (p := fun i => tM L i == 0) (k := n)
  by_cases e : i = zxN L n
  · rw [decide_eq_true e, e]; exact g2 (by unfold zxN at e; omega)
  · rw [decide_eq_false e]; exact g3 i (by unfold zxN at h1 e; omega)
theorem okIU3_iff {cs : List AV} {n : Nat} : okIU3 [.agg cs, .int .i64 (n : Int)] = true ↔ okI .i64 cs 0 (n * 3) = true ∧ n ≤ 1000000 ∧ bnds 0 cs = true ∧ noRcds cs = true := by
  simp only [okIU3, int_nat, Bool.and_eq_true]
  exact ⟨fun ⟨h1, h2, h3⟩ => ⟨h1, Nat.le_of_ble_eq_true h2, h3⟩, fun ⟨h1, h2, h3⟩ => ⟨h1, Nat.ble_eq_true_of_le h2, h3⟩⟩
theorem zxU_eq {l : List AV} {n : Nat} : zxU [.agg l, .int .i64 (n : Int)] = zxF l n := by simp only [zxU, int_nat]
theorem zxL_ok (G : Nat → List AV) (B : Nat) (l : List AV) (n : Nat) : DLoopOk (⟨Try.prog, G, B⟩ : Ctx) 1 (loopN Try.f39 0) (DLat 1634 (zxQ l n) 0 19 [0, 1, 4, 7, 8] (zxO l n)) := by
  refine DLat_ok rfl fun h => ?_
  obtain ⟨hk, hn, hb, hr⟩ := okIU3_iff.1 h
  have hle := zxN_le (L := l) (n := n)
  have hlen := okI_len hk
  refine scan (zxN l n) (fun i => [.slice true (.rw 0) 0 n, .func 42 [], .int .i64 0, .int .i64 (n : Int), .int .i64 (i : Int)]) (fun _ => [some ⟨3, l⟩]) fun i hi => ?_
  refine dloop_ok (C := (⟨Try.prog, G, B⟩ : Ctx)) (dgood (inl := [42]) (ls := []) (M := 0) (mixF G B) (by kernel_rfl) .nil .nil) (fuel := 300) (n0 := 20) (m := 1) (c := loopN Try.f39 0) (vs := [.slice true (.rw 0) (.lit 0) (.var 2 n), .func 42 [], .int .i64 (.lit 0), .int .i64 (.ofN (.var 2 n)), .int .i64 (.var 6 (i : Int))]) (H := [some ⟨3, .var 8 l⟩]) (by simp) ?_
  rw [ix_z, int_nat]
  have fb : hpB 1 [some ⟨3, l⟩] = true := by simp [hpB, bnds_mono (Nat.zero_le 1) _ hb]
  refine ⟨fun h1 => ?_, fun h1 => ?_⟩
  · have h1' := of_decide_eq_true h1
    have hin : i < n := by omega
    have e1 : isI .i64 (subL l (i * 3) 3) 1 = true ∧ getI (subL l (i * 3) 3) 1 = tM l i := by
      have := okI_get hk (j := i * 3 + 1) (by omega)
      rw [Nat.zero_add] at this
      unfold isI at this
      unfold isI getI tM subL getI
      rw [List.getElem?_take, if_pos (by omega), List.getElem?_drop]
      exact ⟨this, rfl⟩
    rw [e1.2, zx_tM hi hin, i64_in (by omega)]
    refine ⟨decide_eq_true (by omega), h1, leB_iff.2 (by omega), e1.1, fun h2 => ?_, fun h2 => ?_⟩
    · have h2 := of_decide_eq_true h2
      have ez : zxF l n = (i : Int) := by unfold zxF; rw [if_neg (by omega), h2]
      refine .inr ⟨?_, rfl, .inr ?_⟩
      · show (zxU [.agg l, .int .i64 (n : Int)] == (-1 : Int)) = false
        rw [zxU_eq, ez]; exact beq_eq_false_iff_ne.2 (by omega)
      · refine View.same (H := [some ⟨3, l⟩]) (by simp) fb ?_
        show fv 1 [.undef, .undef, .int .i64 (zxU [.agg l, .int .i64 (n : Int)]), .undef, .undef] _
        rw [zxU_eq, ez]; simp [fv, bnd]
    · have h2 := of_decide_eq_false h2
      exact ⟨by omega, .inr (View.same (H := [some ⟨3, l⟩]) (by simp) fb (by simp [fv, bnd, bnds]))⟩
  · have h1 := of_decide_eq_false h1
    have ez : zxF l n = -1 := by unfold zxF; rw [if_pos (by omega)]
    refine .inl ⟨?_, rfl, .inl ⟨by simp [vVs, vV, wk], rfl⟩⟩
    show (zxU [.agg l, .int .i64 (n : Int)] == (-1 : Int)) = true
    rw [zxU_eq, ez]; rfl
theorem zx_call (G : Nat → List AV) (B : Nat) (l : List AV) (n : Nat) (h : okIU3 [.agg l, .int .i64 (n : Int)] = true) : ACalls (⟨Try.prog, G, B⟩ : Ctx) 39 [.slice true (.rw 0) 0 n, .func 42 []] [some ⟨3, l⟩] fun v H => v = .int .i64 (zxF l n) ∧ H.take 1 = [some ⟨3, l⟩] := by
  have := dcall_ok (C := (⟨Try.prog, G, B⟩ : Ctx)) (fuel := 300) (n0 := 20) (f := 39) (fn := Try.f39) (args := [.slice true (.rw 0) (.lit 0) (.var 2 n), .func 42 []]) (H := [some ⟨3, .var 8 l⟩]) (keep := 1)
    (R := fun v H => v = .int .i64 (zxF l n) ∧ H = [some ⟨3, l⟩]) (dgood (inl := []) (ls := [(DLat 1634 (zxQ l n) 0 19 [0, 1, 4, 7, 8] (zxO l n))]) (M := 1) (mixF G B) (by kernel_rfl) .nil (.cast (.cons (i := 0) (by kernel_rfl) rfl (zxL_ok G B l n) .nil) (by kernel_rfl))) (by kernel_rfl) (by kernel_rfl) (by kernel_rfl) (by
    rw [t39z, zxU_eq]
    refine ⟨stQ_refl h rfl (by simp only [encHB, List.map_cons, List.map_nil, noRcds, noRcd, (okIU3_iff.1 h).2.2.2]; rfl), fun e => ?_, fun e => ⟨rfl, rfl⟩⟩
    rw [eq_of_beq e]; exact ⟨rfl, rfl⟩)
  exact this
theorem zxS_ok (G : Nat → List AV) (B : Nat) : DSumOk (⟨Try.prog, G, B⟩ : Ctx) 39 zxS := by
  intro args H o ho
  unfold zxS at ho
  split at ho
  · rename_i mb i n
    split at ho
    · rename_i l hi
      simp only [Option.some.injEq] at ho
      subst ho
      intro h1
      have h1' := h1
      have key := zx_call G B (vL G l) (vN G n) h1
      refine DOut.get1g (C := (⟨Try.prog, G, B⟩ : Ctx)) (args0 := [.slice mb (.rw 0) 0 (vN G n), .func 42 []]) hi ?_ (okIU3_iff.1 h1').2.2.1 (by simp [bnds, bnd]) (by simp [vVs, vV, vR, vN, rens, ren]) (by simp [vV, bnd]) (by simp [vV])
      rw [← zxU_eq] at key
      refine key.weaken (fun ρ vs hv => ?_)
      simp only [VRs] at hv ⊢
      obtain ⟨v, vs', e, q1, q2⟩ := hv
      exact ⟨v, vs', e, VR_may q1, q2⟩
    · simp at ho
  · simp at ho
/-! ### DeleteFunc, where just the last test may have no mask -/
theorem dfL_ok (G : Nat → List AV) (B : Nat) (l : List AV) (n z : Nat) : DLoopOk (⟨Try.prog, G, B⟩ : Ctx) 1 (loopN Try.f41 0) (DLat 1636 (dfQ l n z) 0 42 [0, 1, 4, 5, 6] (zsO l n z)) := by
  refine DLat_ok rfl fun h => ?_
  have h := Nat.eq_of_beq_eq_true h
  refine scan (Q := (zsO l n z).post G 1) 0 (fun i => [.slice true (.rw 0) 0 n, .func 42 [], .nils, .int .i64 (z : Int), .int .i64 (n : Int)]) (fun _ => [some ⟨3, l⟩]) fun i hi => ?_
  refine dloop_ok (C := (⟨Try.prog, G, B⟩ : Ctx)) (by rw [show loopsOf (loopN Try.f41 0) = [] by kernel_rfl]; exact dgood (inl := [42]) (ls := []) (M := 1) (mixF G B) (by kernel_rfl) .nil .nil) (fuel := 300) (n0 := 20) (m := 1) (c := loopN Try.f41 0) (vs := [.slice true (.rw 0) (.lit 0) (.var 2 n), .func 42 [], .nils, .int .i64 (.var 5 z), .int .i64 (.ofN (.var 2 n))]) (H := [some ⟨3, .var 8 l⟩]) (by simp) ?_
  rw [df_b]
  refine ⟨by rw [decide_eq_false (by omega)]; rfl, rfl, .inl ⟨?_, rfl⟩⟩
  simp only [vVs, vV, vI, vN, vR, wk, and_self]
def dnF (l : List AV) (n : Nat) : Nat := if zxF l n = -1 then n else zxN l n
def dcF (l : List AV) (n : Nat) : List AV := if zxF l n = -1 then l else setPart l (zxN l n * 3) (.agg [.int .i64 0, .int .i64 0, .int .i64 0])
theorem df_call (G : Nat → List AV) (B : Nat) (l : List AV) (n : Nat) (h : okIU3 [.agg l, .int .i64 (n : Int)] = true) (hz : zxF l n = -1 ∨ zxN l n + 1 = n) : ACalls (⟨Try.prog, G, B⟩ : Ctx) 41 [.slice true (.rw 0) 0 n, .func 42 []] [some ⟨3, l⟩] fun v H => v = .slice true (.rw 0) 0 (dnF l n) ∧ H.take 1 = [some ⟨3, dcF l n⟩] := by
  obtain ⟨hk, hn, hb, hr⟩ := okIU3_iff.1 h
  have hlen := okI_len hk
  have := dcall_ok (C := (⟨Try.prog, G, B⟩ : Ctx)) (fuel := 300) (n0 := 20) (f := 41) (fn := Try.f41) (args := [.slice true (.rw 0) (.lit 0) (.var 2 n), .func 42 []]) (H := [some ⟨3, .var 8 l⟩]) (keep := 1)
    (R := fun v H => v = .slice true (.rw 0) 0 (dnF l n) ∧ H = [some ⟨3, dcF l n⟩]) (dgood (inl := [42]) (ls := [DLat 1636 (dfQ l n (zxN l n)) 0 42 [0, 1, 4, 5, 6] (zsO l n (zxN l n))]) (sums := [(39, zxS)]) (M := 1) (mixF G B) (by kernel_rfl) (.cons (zxS_ok G B) .nil) (.cast (.cons (i := 0) (by kernel_rfl) rfl (dfL_ok G B l n (zxN l n)) .nil) (by kernel_rfl))) (by kernel_rfl) (by kernel_rfl) (by kernel_rfl) (by
    rw [t41, zxU_eq]
    refine ⟨h, fun e => ?_, fun e => ?_⟩
    · have e := eq_of_beq e
      unfold dnF dcF; rw [if_pos e, if_pos e]; exact ⟨rfl, rfl⟩
    · have e : zxF l n ≠ -1 := by simpa using e
      have hz : zxN l n + 1 = n := by rcases hz with hz | hz; exact absurd hz e; exact hz
      have ez : zxF l n = (zxN l n : Int) := by unfold zxF; rw [if_neg (by omega)]
      have es : n - zxN l n = 1 := by omega
      rw [ez, i64_in (by omega), show ((zxN l n : Int) + 1) = (n : Int) by omega, es]
      refine ⟨stQ_refl (by rw [hz]; exact Nat.beq_refl _) rfl (by simp only [encHB, List.map_cons, List.map_nil, noRcds, noRcd, hr]; rfl), decide_eq_true (by omega), decide_eq_true (by omega), decide_eq_true (by omega), rfl, leB_iff.2 (by omega), decide_eq_true (by omega), decide_eq_true (by omega), ?_⟩
      unfold dnF dcF; rw [if_neg e, if_neg e]; exact ⟨rfl, rfl⟩)
  exact this
def dnU : List AV → Nat := fun xs => match xs with
  | [.agg cs, .int _ n] => dnF cs n.toNat
  | _ => 0
def dcU : List AV → List AV := fun xs => match xs with
  | [.agg cs, .int _ n] => dcF cs n.toNat
  | _ => []
def dfOkU : List AV → Bool := fun xs => match xs with
  | [.agg cs, .int _ n] => decide (zxF cs n.toNat = -1) || Nat.beq (zxN cs n.toNat + 1) n.toNat
  | _ => false
def dfS : DSum := fun args H => match args with
  | [.slice true (.rw i) (.lit 0) n, .func 42 []] => match H[i]? with
    | some (some ⟨3, l⟩) => some (.chk (.uf 1635 okIU3 [.agg l, .int .i64 (.ofN n)]) (.chk (.uf 1637 dfOkU [.agg l, .int .i64 (.ofN n)]) (.one (.slice true (.rw i) (.lit 0) (.mul (.uf 1638 dnU [.agg l, .int .i64 (.ofN n)]) 1)) [.set i ⟨3, .uf 1639 dcU [.agg l, .int .i64 (.ofN n)]⟩])))
    | _ => none
  | _ => none
theorem bnds_set3 {l : List AV} {o : Nat} {xs : List AV} (h : bnds 0 l = true) (h' : bnds 0 xs = true) : bnds 0 (setPart l o (.agg xs)) = true := by
  show bnds 0 (spl l o xs) = true
  unfold spl
  rw [bnds_eq, List.all_eq_true] at *
  intro v hv
  simp only [List.mem_append] at hv
  rcases hv with hv | hv | hv
  · exact h v (List.mem_of_mem_take hv)
  · exact h' v hv
  · exact h v (List.mem_of_mem_drop hv)
theorem dfS_ok (G : Nat → List AV) (B : Nat) : DSumOk (⟨Try.prog, G, B⟩ : Ctx) 41 dfS := by
  intro args H o ho
  unfold dfS at ho
  split at ho
  · rename_i i n
    split at ho
    · rename_i l hi
      simp only [Option.some.injEq] at ho
      subst ho
      intro h1 h2
      have h2 : (decide (zxF (vL G l) ((vN G n : Int)).toNat = -1) || Nat.beq (zxN (vL G l) ((vN G n : Int)).toNat + 1) ((vN G n : Int)).toNat) = true := h2
      rw [int_nat, Bool.or_eq_true] at h2
      have hz : zxF (vL G l) (vN G n) = -1 ∨ zxN (vL G l) (vN G n) + 1 = vN G n := by
        rcases h2 with h2 | h2
        · exact .inl (of_decide_eq_true h2)
        · exact .inr (Nat.eq_of_beq_eq_true h2)
      have hb := (okIU3_iff.1 h1).2.2.1
      refine DOut.set1g (C := (⟨Try.prog, G, B⟩ : Ctx)) (b1 := ⟨3, .uf 1639 dcU [.agg l, .int .i64 (.ofN n)]⟩) (args0 := [.slice true (.rw 0) 0 (vN G n), .func 42 []]) hi (df_call G B (vL G l) (vN G n) h1 hz) hb ?_ (by simp [bnds, bnd]) (by simp [vVs, vV, vR, vN, rens, ren]) (by simp [bnd]) (by simp) ?_
      · show bnds 0 (dcF (vL G l) (vN G n)) = true
        unfold dcF; split
        · exact hb
        · exact bnds_set3 hb rfl
      · simp only [vV, vR, vN, ren, dnU, vVs, vI, vL, int_nat, Nat.mul_one]; rfl
    · simp at ho
  · simp at ho
end Go.Am
