/-
  crc.run: a register behind bytes.
-/
import Derived.Test.YtddhldihemfkcaaCrcRef
import Derived.Test.YtddhldihemfkcaaCrcTab
import Derived.Test.YtddhldihemfkcaaAmLaw
namespace Go.Am
open Go.Proofs Crc
theorem half_run (G : Nat → List AV) (B : Nat) (Q : AV → Hp → Prop) : vc (Kc (⟨Try.prog, G, B⟩ : Ctx)) 1000 0 (.code (bodyOf Try.f19)) (frame0 Try.f19 []) [] (retK (⟨Try.prog, G, B⟩ : Ctx) Try.f19 Q) = (
    Q (.agg [.int IntKind.u32 ((0 : Int)), .int IntKind.u32 ((274646895 : Int)), .int IntKind.u32 ((549293790 : Int)), .int IntKind.u32 ((820201905 : Int)), .int IntKind.u32 ((1098587580 : Int)), .int IntKind.u32 ((1361435347 : Int)), .int IntKind.u32 ((1640403810 : Int)), .int IntKind.u32 ((1905808397 : Int)), .int IntKind.u32 ((2197175160 : Int)), .int IntKind.u32 ((2460548119 : Int)), .int IntKind.u32 ((2722870694 : Int)), .int IntKind.u32 ((2987750089 : Int)), .int IntKind.u32 ((3280807620 : Int)), .int IntKind.u32 ((3553878443 : Int)), .int IntKind.u32 ((3811616794 : Int)), .int IntKind.u32 ((4084100981 : Int))]) [some ⟨1, [.int IntKind.u32 ((0 : Int)), .int IntKind.u32 ((274646895 : Int)), .int IntKind.u32 ((549293790 : Int)), .int IntKind.u32 ((820201905 : Int)), .int IntKind.u32 ((1098587580 : Int)), .int IntKind.u32 ((1361435347 : Int)), .int IntKind.u32 ((1640403810 : Int)), .int IntKind.u32 ((1905808397 : Int)), .int IntKind.u32 ((2197175160 : Int)), .int IntKind.u32 ((2460548119 : Int)), .int IntKind.u32 ((2722870694 : Int)), .int IntKind.u32 ((2987750089 : Int)), .int IntKind.u32 ((3280807620 : Int)), .int IntKind.u32 ((3553878443 : Int)), .int IntKind.u32 ((3811616794 : Int)), .int IntKind.u32 ((4084100981 : Int))]⟩, some ⟨1, [.int IntKind.u32 ((0 : Int)), .int IntKind.u32 ((274646895 : Int)), .int IntKind.u32 ((549293790 : Int)), .int IntKind.u32 ((820201905 : Int)), .int IntKind.u32 ((1098587580 : Int)), .int IntKind.u32 ((1361435347 : Int)), .int IntKind.u32 ((1640403810 : Int)), .int IntKind.u32 ((1905808397 : Int)), .int IntKind.u32 ((2197175160 : Int)), .int IntKind.u32 ((2460548119 : Int)), .int IntKind.u32 ((2722870694 : Int)), .int IntKind.u32 ((2987750089 : Int)), .int IntKind.u32 ((3280807620 : Int)), .int IntKind.u32 ((3553878443 : Int)), .int IntKind.u32 ((3811616794 : Int)), .int IntKind.u32 ((4084100981 : Int))]⟩]) := by kernel_rfl
theorem half_call (G : Nat → List AV) (B : Nat) : ACalls (⟨Try.prog, G, B⟩ : Ctx) 19 [] [] fun v _ => v = .agg tab := by
  refine call_of_vc (K := Kc (⟨Try.prog, G, B⟩ : Ctx)) (goodc (mix G B)) (fun h => by cases h) 1000 (fn := Try.f19) (c := bodyOf Try.f19) (by kernel_rfl) (by kernel_rfl) (by kernel_rfl) (fun h => by cases h) ?_
  show vc (Kc (⟨Try.prog, G, B⟩ : Ctx)) 1000 0 (.code (bodyOf Try.f19)) (frame0 Try.f19 []) [] (retK (⟨Try.prog, G, B⟩ : Ctx) Try.f19 _)
  rw [half_run]
  rfl
def half_sum : Sum1 := fun args _ => match args with
  | [] => some (true, .agg tab, [])
  | _ => none
theorem half_sum_ok (G : Nat → List AV) (B : Nat) : SumOk (⟨Try.prog, G, B⟩ : Ctx) 19 half_sum := by
  intro args H v hs h
  unfold half_sum at h
  split at h
  · simp only [Option.some.injEq, Prod.mk.injEq, true_and] at h
    obtain ⟨rfl, rfl⟩ := h
    exact flat_call (C := (⟨Try.prog, G, B⟩ : Ctx)) ⟨by decide, by decide⟩ ⟨rfl, rfl⟩ half_call H
  · simp at h

theorem run_body (G : Nat → List AV) (B : Nat) (k off n : Nat) (mb : Bool) (t : List AV) (s i : Int) (Q : Ex → List AV → Hp → Prop) : vc (Kn (⟨Try.prog, G, B⟩ : Ctx) noSum noLoop) 100 0 (.code (loopN Try.f15 0)) (fl 35 [0, 5, 9, 10, 11] [.int .u32 s, .ptr (.rw 0) 0, .slice mb (.ro k) off n, .int .i64 n, .int .i64 i]) [some ⟨1, t⟩] (lv 35 [0, 5, 9, 10, 11] Q) = (
    tst (decide (i < (↑n : Int))) (
      chk (decide ((0 : Int) ≤ i) && decide (i < (↑n : Int))) (
      chk (isI IntKind.u8 (G k) (i.toNat + off)) (
      nam (getI (G k) (i.toNat + off)) (fun y1 =>
      nam (kXor IntKind.u32 s (IntKind.u32.wrap y1)) (fun y2 =>
      chk (decide (kAnd IntKind.u32 y2 (15 : Int) < (16 : Int))) (
      chk (isI IntKind.u32 t (kAnd IntKind.u32 y2 (15 : Int)).toNat) (
      nam (kXor IntKind.u32 (kShr IntKind.u32 y2 (4 : Int)) (getI t (kAnd IntKind.u32 y2 (15 : Int)).toNat)) (fun y3 =>
      chk (decide (kAnd IntKind.u32 y3 (15 : Int) < (16 : Int))) (
      chk (isI IntKind.u32 t (kAnd IntKind.u32 y3 (15 : Int)).toNat) (
      nam (kXor IntKind.u32 (kShr IntKind.u32 y3 (4 : Int)) (getI t (kAnd IntKind.u32 y3 (15 : Int)).toNat)) (fun y4 =>
      Q .normal [.int IntKind.u32 (y4), .ptr (.rw 0) 0, .slice mb (.ro (k)) (off) (n), .int IntKind.i64 ((↑n : Int)), .int IntKind.i64 (IntKind.i64.wrap (i + (1 : Int)))] [some ⟨1, t⟩]))))))))))) (
      Q (.exit 0) [.int IntKind.u32 (s), .ptr (.rw 0) 0, .slice mb (.ro (k)) (off) (n), .int IntKind.i64 ((↑n : Int)), .int IntKind.i64 (i)] [some ⟨1, t⟩])) := by kernel_rfl

theorem run_loop (G : Nat → List AV) (B : Nat) (s : Int) (mb : Bool) (k off n : Nat) (m i : Int) (t : List AV) (hc : (decide (0 ≤ s) && (decide (s < 4294967296) && (decide (m = n) && (decide (i = 0) && (decide (n ≤ 9223372036854775807) && (okI .u8 (G k) off n && tabOk t)))))) = true) : AWp (⟨Try.prog, G, B⟩ : Ctx) 0 (.loop (loopN Try.f15 0)) (fl 35 [0, 5, 9, 10, 11] [.int .u32 s, .ptr (.rw 0) 0, .slice mb (.ro k) off n, .int .i64 m, .int .i64 i]) [some ⟨1, t⟩] (lv 35 [0, 5, 9, 10, 11] fun e' vs'' H'' => e' = .exit 0 ∧ wk [.int .u32 (u (reg (w32 s) (ints (G k) off n))), .undef, .undef, .undef, .undef] vs'' ∧ H'' = [some ⟨1, t⟩]) := by
  simp only [Bool.and_eq_true, decide_eq_true_eq] at hc
  obtain ⟨h1, h2, rfl, rfl, hn, hok, ht⟩ := hc
  refine aloop_lv (fun j vs H => ∃ i : Nat, i ≤ n ∧ j = n - i ∧ vs = [.int .u32 (u (reg (w32 s) (ints (G k) off i))), .ptr (.rw 0) 0, .slice mb (.ro k) off n, .int .i64 n, .int .i64 i] ∧ H = [some ⟨1, t⟩]) n
    ⟨0, by omega, rfl, by rw [ints_zero, reg, u_w32 ⟨h1, h2⟩]; rfl, rfl⟩ ?_
  rintro j vs H ⟨i, hi, rfl, rfl, rfl⟩
  refine wpn (mix G B) (noSum_ok _) (noLoop_ok _ _) 100 ?_
  rw [run_body]
  simp only [tst_iff, chk_iff, nam_eq, Bool.and_eq_true, decide_eq_true_eq, decide_eq_false_iff_not]
  refine ⟨fun h => ⟨⟨by omega, h⟩, ?_⟩, fun h => ?_⟩
  rotate_left
  · have : i = n := by omega
    subst this
    exact ⟨trivial, by simp [wk], trivial⟩
  have hi' : i < n := by omega
  have e1 : (i : Int).toNat + off = off + i := by omega
  rw [e1]
  refine ⟨okI_get hok hi', ?_⟩
  generalize hx : reg (w32 s) (ints (G k) off i) = x
  have ey : kXor .u32 (u x) (IntKind.u32.wrap (getI (G k) (off + i))) = u (x ^^^ b8 (getI (G k) (off + i))) := by rw [kXor_w, w32_u, w32_wrap]; rfl
  rw [ey]
  generalize hz : x ^^^ b8 (getI (G k) (off + i)) = z
  have ea : ∀ z : W, kAnd .u32 (u z) 15 = u (z &&& 15#32) := fun z => by rw [kAnd_w, w32_u]; rfl
  have en : ∀ z : W, (u (z &&& 15#32)).toNat = (z &&& 15#32).toNat := fun z => rfl
  have el : ∀ z : W, 0 ≤ u (z &&& 15#32) ∧ u (z &&& 15#32) < 16 := fun z => by have := and15 z; unfold u; omega
  have e4 : ∀ z : W, kXor .u32 (kShr .u32 (u z) 4) (getI t (u (z &&& 15#32)).toNat) = u (stn 4 z) := fun z => by
    rw [en, tab_get ht, show (4 : Int) = ((4 : Nat) : Int) from rfl, kShr_u z 4 (by omega), kXor_w, w32_u, w32_u, ← stn4]
  simp only [ea, e4]
  refine ⟨(el z).2, tab_is ht z, (el _).2, tab_is ht _, n - (i + 1), by omega, .inl ⟨i + 1, by omega, rfl, ?_, trivial⟩⟩
  rw [i64_in (by omega), ← stn_add, ints_succ, reg_append, hx]
  simp only [reg, hz]
  rfl

def run_S (G : Nat → List AV) (B : Nat) (vs : List AV) (H : Hp) : Option (Bool × Ex × List AV × Hp) := match vs, H with
  | [.int .u32 s, .ptr (.rw 0) 0, .slice mb (.ro k) off n, .int .i64 m, .int .i64 i], [some ⟨1, t⟩] => some (decide (0 ≤ s) && (decide (s < 4294967296) && (decide (m = n) && (decide (i = 0) && (decide (n ≤ 9223372036854775807) && (okI .u8 (G k) off n && tabOk t))))), .exit 0, [.int .u32 (u (reg (w32 s) (ints (G k) off n))), .undef, .undef, .undef, .undef], [some ⟨1, t⟩])
  | _, _ => none
theorem run_S_ok (G : Nat → List AV) (B : Nat) (vs : List AV) (H : Hp) (e : Ex) (vs' : List AV) (H' : Hp) (h : run_S G B vs H = some (true, e, vs', H')) :
    AWp (⟨Try.prog, G, B⟩ : Ctx) 0 (.loop (loopN Try.f15 0)) (fl 35 [0, 5, 9, 10, 11] vs) H (lv 35 [0, 5, 9, 10, 11] fun e' vs'' H'' => e' = e ∧ wk vs' vs'' ∧ H'' = H') := by
  unfold run_S at h
  split at h
  · rename_i s mb k off n m i t
    simp only [Option.some.injEq, Prod.mk.injEq] at h
    obtain ⟨hc, rfl, rfl, rfl⟩ := h
    exact run_loop G B s mb k off n m i t hc
  · simp at h
def run_L (G : Nat → List AV) (B : Nat) : Loops := fun _ F H => lsum 35 [0, 5, 9, 10, 11] (run_S G B) F H
theorem run_ok (G : Nat → List AV) (B : Nat) : LoopOk (⟨Try.prog, G, B⟩ : Ctx) (loopN Try.f15 0) (run_L G B) := ls_ok (run_S_ok G B)
theorem run_run (G : Nat → List AV) (B : Nat) (k off n : Nat) (mb : Bool) (s : Int) (Q : AV → Hp → Prop) : vc (Kn (⟨Try.prog, G, B⟩ : Ctx) (sums [(19, half_sum)]) (run_L G B)) 100 0 (.code (bodyOf Try.f15)) (frame0 Try.f15 [.int .u32 s, .slice mb (.ro k) off n]) [] (retK (⟨Try.prog, G, B⟩ : Ctx) Try.f15 Q) = (
    nam ((0 : Int)) (fun y1 =>
    chk (decide ((0 : Int) ≤ s) && (decide (s < (4294967296 : Int)) && (decide ((↑n : Int) = (↑n : Int)) && (decide (n ≤ (9223372036854775807 : Nat)) && (okI IntKind.u8 (G k) off n && tabOk [AV.int IntKind.u32 (0 : Int), AV.int IntKind.u32 (274646895 : Int), AV.int IntKind.u32 (549293790 : Int), AV.int IntKind.u32 (820201905 : Int), AV.int IntKind.u32 (1098587580 : Int), AV.int IntKind.u32 (1361435347 : Int), AV.int IntKind.u32 (1640403810 : Int), AV.int IntKind.u32 (1905808397 : Int), AV.int IntKind.u32 (2197175160 : Int), AV.int IntKind.u32 (2460548119 : Int), AV.int IntKind.u32 (2722870694 : Int), AV.int IntKind.u32 (2987750089 : Int), AV.int IntKind.u32 (3280807620 : Int), AV.int IntKind.u32 (3553878443 : Int), AV.int IntKind.u32 (3811616794 : Int), AV.int IntKind.u32 (4084100981 : Int)]))))) (
    nam (u (reg (w32 s) (ints (G k) off n))) (fun y2 =>
    Q (.int IntKind.u32 (y2)) [some ⟨1, [.int IntKind.u32 ((0 : Int)), .int IntKind.u32 ((274646895 : Int)), .int IntKind.u32 ((549293790 : Int)), .int IntKind.u32 ((820201905 : Int)), .int IntKind.u32 ((1098587580 : Int)), .int IntKind.u32 ((1361435347 : Int)), .int IntKind.u32 ((1640403810 : Int)), .int IntKind.u32 ((1905808397 : Int)), .int IntKind.u32 ((2197175160 : Int)), .int IntKind.u32 ((2460548119 : Int)), .int IntKind.u32 ((2722870694 : Int)), .int IntKind.u32 ((2987750089 : Int)), .int IntKind.u32 ((3280807620 : Int)), .int IntKind.u32 ((3553878443 : Int)), .int IntKind.u32 ((3811616794 : Int)), .int IntKind.u32 ((4084100981 : Int))]⟩])))) := by kernel_rfl

theorem run_call (G : Nat → List AV) (B : Nat) (k off n : Nat) (mb : Bool) (x : W) (hn : n ≤ 9223372036854775807) (hok : okI .u8 (G k) off n = true) : ACalls (⟨Try.prog, G, B⟩ : Ctx) 15 [.int .u32 (u x), .slice mb (.ro k) off n] [] fun v _ => v = .int .u32 (u (reg x (ints (G k) off n))) := by
  refine calln (mix G B) (sums_cons (half_sum_ok G B) (sums_nil _)) (loop := run_L G B) (fn := Try.f15) (c := bodyOf Try.f15) (by kernel_rfl) (by kernel_rfl) (by kernel_rfl) (.cast (.cons (run_ok G B) .nil) (by kernel_rfl)) 100 ?_
  rw [run_run]
  have := u_range x
  simp only [nam_eq, chk_iff, Bool.and_eq_true, decide_eq_true_eq, w32_u]
  exact ⟨⟨this.1, this.2, trivial, hn, hok, tab_ok⟩, trivial⟩
def run_sum (C : Ctx) : Sum1 := fun args H => match args with
  | [.int .u32 s, .slice _ r off n] => match cellsAt C H r with
    | some cs => some (decide (0 ≤ s) && (decide (s < 4294967296) && (decide (n ≤ 9223372036854775807) && okI .u8 cs off n)), .int .u32 (u (reg (w32 s) (ints cs off n))), [])
    | none => none
  | _ => none
theorem run_sum_ok (G : Nat → List AV) (B : Nat) : SumOk (⟨Try.prog, G, B⟩ : Ctx) 15 (run_sum (⟨Try.prog, G, B⟩ : Ctx)) := by
  intro args H v hs h
  unfold run_sum at h
  split at h
  · rename_i s mb r off n
    split at h
    · rename_i cs hcs
      simp only [Option.some.injEq, Prod.mk.injEq, Bool.and_eq_true, decide_eq_true_eq] at h
      obtain ⟨⟨h1, h2, h3, h4⟩, rfl, rfl⟩ := h
      have key := fun B' => run_call (G1 ((cs.drop off).take n)) B' 0 0 n mb (w32 s) h3 (okI_part h4)
      rw [u_w32 ⟨h1, h2⟩] at key
      refine ro_flat (C := (⟨Try.prog, G, B⟩ : Ctx)) (args0 := [.int .u32 s, .slice mb (.ro 0) 0 n]) (sees1 hcs off n (okI_flat h4)) (R := fun v => v = .int .u32 (u (reg (w32 s) (ints cs off n)))) (fun B' => ?_) (by simp [norws, norw]) (by simp [sbs, sb, sig1]) (fun v hv => by subst hv; simp [bnd, noro])
      have := key B'
      simp only [G1, ints_part] at this
      exact this
    · simp at h
  · simp at h
end Go.Am
