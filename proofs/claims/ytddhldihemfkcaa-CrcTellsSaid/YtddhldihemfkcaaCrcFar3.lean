/-
  Registers behind so many bytes 0.
-/
import Derived.Test.YtddhldihemfkcaaCrcFar2
namespace Go.Am
open Go.Proofs Crc
theorem tw_call (G : Nat → List AV) (B : Nat) (f : Nat → W) : ACalls (⟨Try.prog, G, B⟩ : Ctx) 21 [.agg (mk32 f)] [] fun v _ => v = .agg (mk32 (sq f)) := by
  refine calln (mix G B) (noSum_ok _) (loop := tw_L G B) (fn := Try.f21) (c := bodyOf Try.f21) (by kernel_rfl) (by kernel_rfl) (by kernel_rfl) (.cast (.cons (tw_ok G B) .nil) (by kernel_rfl)) 100 ?_
  rw [tw_run]
  simp only [chk_iff, matOk_mk, Bool.and_self]
  refine ⟨trivial, ?_⟩
  have : mk32 (sq (M (mk32 f))) = mk32 (sq f) := mk32_congr fun i hi => by
    unfold sq
    rw [M_mk f hi]
    exact app_congr 32 (fun i hi => M_mk f hi) _
  rw [← this]; rfl
def tw_sum : Sum1 := fun args _ => match args with
  | [.agg t] => some (matOk t, .agg (mk32 (sq (M t))), [])
  | _ => none
theorem tw_sum_ok (G : Nat → List AV) (B : Nat) : SumOk (⟨Try.prog, G, B⟩ : Ctx) 21 tw_sum := by
  intro args H v hs h
  unfold tw_sum at h
  split at h
  · rename_i t
    simp only [Option.some.injEq, Prod.mk.injEq] at h
    obtain ⟨h1, rfl, rfl⟩ := h
    have hf := mk32_flat (M t)
    have hg := mk32_flat (sq (M t))
    have key := flat_call (C := (⟨Try.prog, G, B⟩ : Ctx)) (f := 21) (args := [.agg (mk32 (M t))]) (v0 := .agg (mk32 (sq (M t)))) ⟨by simp only [bnd]; exact hg.2.2, by simp only [noro]; exact hg.2.1⟩ ⟨by simp [norws, norw, hf.1], by simp [noros, noro, hf.2.1]⟩ (fun G B => tw_call G B (M t)) H
    rw [← matOk_eq h1] at key
    exact key
  · simp at h

def Ku (C : Ctx) (sum : Sums) : Cfg := { C := C, inl := fun _ => false, strict := true, unr := true, sum := sum, loop := noLoop, M := 0 }
theorem wpu {C : Ctx} {sum : Sums} (hm : C.P.follows .mixedOrders = true) (hs : SumsOk C sum) {c : Code} (n : Nat) {F : Fr} {H : Hp} {Q : Post} (h : vc (Ku C sum) n 0 (.code c) F H Q) : AWp C 0 c F H Q :=
  wp_of_vc (K := Ku C sum) (lps := []) ⟨hm, hs, fun m c F H e F' H' _ h => by simp at h⟩ (fun h => by cases h) n (Nat.zero_le _) (fun h => by cases h) h

def z32 : List AV := List.replicate 32 (.int .u32 0)
def step_sum : Sum1 := fun args _ => match args with
  | [.int .u32 x] => some (decide (0 ≤ x) && decide (x < 4294967296), .int .u32 (u (stn 8 (w32 x))), [])
  | _ => none
theorem step_sum_ok (G : Nat → List AV) (B : Nat) : SumOk (⟨Try.prog, G, B⟩ : Ctx) 16 step_sum := by
  intro args H v hs h
  unfold step_sum at h
  split at h
  · rename_i x
    simp only [Option.some.injEq, Prod.mk.injEq, Bool.and_eq_true, decide_eq_true_eq] at h
    obtain ⟨h1, rfl, rfl⟩ := h
    have key := flat_call (C := (⟨Try.prog, G, B⟩ : Ctx)) (f := 16) (args := [.int .u32 (u (w32 x))]) ⟨by simp [bnd], by simp [noro]⟩ ⟨by simp [norws, norw], by simp [noros, noro]⟩ (fun G B => step_call G B (w32 x)) H
    rw [u_w32 h1] at key
    exact key
  · simp at h
theorem f0_run (G : Nat → List AV) (B : Nat) (s n : Int) (Q : Ex → List AV → Hp → Prop) : vc (Ku (⟨Try.prog, G, B⟩ : Ctx) (sums [(15, run_sum (⟨Try.prog, G, B⟩ : Ctx))])) 2000 0 (.code (.loop (loopN Try.f18 0))) (fl 30 [0, 1, 5, 7] [.int .u32 s, .int .i64 n, .ptr (.rw 0) 0, .int .i64 0]) [some ⟨1, z32⟩] (lv 30 [0, 1, 5, 7] Q) = (
    Q (.exit 0) [.int IntKind.u32 (s), .int IntKind.i64 (n), .ptr (.rw 0) 0, .int IntKind.i64 ((32 : Int))] [some ⟨1, [.int IntKind.u32 ((4067132163 : Int)), .int IntKind.u32 ((3778769143 : Int)), .int IntKind.u32 ((3348797215 : Int)), .int IntKind.u32 ((2329499855 : Int)), .int IntKind.u32 ((274646895 : Int)), .int IntKind.u32 ((549293790 : Int)), .int IntKind.u32 ((1098587580 : Int)), .int IntKind.u32 ((2197175160 : Int)), .int IntKind.u32 ((1 : Int)), .int IntKind.u32 ((2 : Int)), .int IntKind.u32 ((4 : Int)), .int IntKind.u32 ((8 : Int)), .int IntKind.u32 ((16 : Int)), .int IntKind.u32 ((32 : Int)), .int IntKind.u32 ((64 : Int)), .int IntKind.u32 ((128 : Int)), .int IntKind.u32 ((256 : Int)), .int IntKind.u32 ((512 : Int)), .int IntKind.u32 ((1024 : Int)), .int IntKind.u32 ((2048 : Int)), .int IntKind.u32 ((4096 : Int)), .int IntKind.u32 ((8192 : Int)), .int IntKind.u32 ((16384 : Int)), .int IntKind.u32 ((32768 : Int)), .int IntKind.u32 ((65536 : Int)), .int IntKind.u32 ((131072 : Int)), .int IntKind.u32 ((262144 : Int)), .int IntKind.u32 ((524288 : Int)), .int IntKind.u32 ((1048576 : Int)), .int IntKind.u32 ((2097152 : Int)), .int IntKind.u32 ((4194304 : Int)), .int IntKind.u32 ((8388608 : Int))]⟩, some ⟨1, [.int IntKind.u8 ((0 : Int))]⟩, some ⟨1, [.int IntKind.u8 ((0 : Int))]⟩, some ⟨1, [.int IntKind.u8 ((0 : Int))]⟩, some ⟨1, [.int IntKind.u8 ((0 : Int))]⟩, some ⟨1, [.int IntKind.u8 ((0 : Int))]⟩, some ⟨1, [.int IntKind.u8 ((0 : Int))]⟩, some ⟨1, [.int IntKind.u8 ((0 : Int))]⟩, some ⟨1, [.int IntKind.u8 ((0 : Int))]⟩, some ⟨1, [.int IntKind.u8 ((0 : Int))]⟩, some ⟨1, [.int IntKind.u8 ((0 : Int))]⟩, some ⟨1, [.int IntKind.u8 ((0 : Int))]⟩, some ⟨1, [.int IntKind.u8 ((0 : Int))]⟩, some ⟨1, [.int IntKind.u8 ((0 : Int))]⟩, some ⟨1, [.int IntKind.u8 ((0 : Int))]⟩, some ⟨1, [.int IntKind.u8 ((0 : Int))]⟩, some ⟨1, [.int IntKind.u8 ((0 : Int))]⟩, some ⟨1, [.int IntKind.u8 ((0 : Int))]⟩, some ⟨1, [.int IntKind.u8 ((0 : Int))]⟩, some ⟨1, [.int IntKind.u8 ((0 : Int))]⟩, some ⟨1, [.int IntKind.u8 ((0 : Int))]⟩, some ⟨1, [.int IntKind.u8 ((0 : Int))]⟩, some ⟨1, [.int IntKind.u8 ((0 : Int))]⟩, some ⟨1, [.int IntKind.u8 ((0 : Int))]⟩, some ⟨1, [.int IntKind.u8 ((0 : Int))]⟩, some ⟨1, [.int IntKind.u8 ((0 : Int))]⟩, some ⟨1, [.int IntKind.u8 ((0 : Int))]⟩, some ⟨1, [.int IntKind.u8 ((0 : Int))]⟩, some ⟨1, [.int IntKind.u8 ((0 : Int))]⟩, some ⟨1, [.int IntKind.u8 ((0 : Int))]⟩, some ⟨1, [.int IntKind.u8 ((0 : Int))]⟩, some ⟨1, [.int IntKind.u8 ((0 : Int))]⟩, some ⟨1, [.int IntKind.u8 ((0 : Int))]⟩]) := by kernel_rfl
theorem g0_run (G : Nat → List AV) (B : Nat) (s n : Int) (Q : Ex → List AV → Hp → Prop) : vc (Ku (⟨Try.prog, G, B⟩ : Ctx) (sums [(16, step_sum)])) 2000 0 (.code (.loop (loopN Try.f11 0))) (fl 41 [0, 1, 5, 6] [.int .u32 s, .int .i64 n, .ptr (.rw 0) 0, .int .i64 0]) [some ⟨1, z32⟩] (lv 41 [0, 1, 5, 6] Q) = (
    Q (.exit 0) [.int IntKind.u32 (s), .int IntKind.i64 (n), .ptr (.rw 0) 0, .int IntKind.i64 ((32 : Int))] [some ⟨1, [.int IntKind.u32 ((4067132163 : Int)), .int IntKind.u32 ((3778769143 : Int)), .int IntKind.u32 ((3348797215 : Int)), .int IntKind.u32 ((2329499855 : Int)), .int IntKind.u32 ((274646895 : Int)), .int IntKind.u32 ((549293790 : Int)), .int IntKind.u32 ((1098587580 : Int)), .int IntKind.u32 ((2197175160 : Int)), .int IntKind.u32 ((1 : Int)), .int IntKind.u32 ((2 : Int)), .int IntKind.u32 ((4 : Int)), .int IntKind.u32 ((8 : Int)), .int IntKind.u32 ((16 : Int)), .int IntKind.u32 ((32 : Int)), .int IntKind.u32 ((64 : Int)), .int IntKind.u32 ((128 : Int)), .int IntKind.u32 ((256 : Int)), .int IntKind.u32 ((512 : Int)), .int IntKind.u32 ((1024 : Int)), .int IntKind.u32 ((2048 : Int)), .int IntKind.u32 ((4096 : Int)), .int IntKind.u32 ((8192 : Int)), .int IntKind.u32 ((16384 : Int)), .int IntKind.u32 ((32768 : Int)), .int IntKind.u32 ((65536 : Int)), .int IntKind.u32 ((131072 : Int)), .int IntKind.u32 ((262144 : Int)), .int IntKind.u32 ((524288 : Int)), .int IntKind.u32 ((1048576 : Int)), .int IntKind.u32 ((2097152 : Int)), .int IntKind.u32 ((4194304 : Int)), .int IntKind.u32 ((8388608 : Int))]⟩]) := by kernel_rfl
theorem fm_body (G : Nat → List AV) (B : Nat) (s n : Int) (a : List AV) (Q : Ex → List AV → Hp → Prop) : vc (Kn (⟨Try.prog, G, B⟩ : Ctx) (sums [(20, of_sum), (21, tw_sum)]) noLoop) 200 0 (.code (loopN Try.f18 1)) (fl 30 [0, 1, 5] [.int .u32 s, .int .i64 n, .ptr (.rw 0) 0]) [some ⟨1, a⟩] (lv 30 [0, 1, 5] Q) = (
    tst (decide (n > (0 : Int))) (
      tst (kAnd IntKind.i64 n (1 : Int) == (1 : Int)) (
        chk (decide ((0 : Nat) + (32 : Nat) ≤ a.length)) (
        nam (s) (fun y1 =>
        chk (matOk (List.take (32 : Nat) a) && (decide ((0 : Int) ≤ y1) && decide (y1 < (4294967296 : Int)))) (
        nam (u (app (M (List.take (32 : Nat) a)) (32 : Nat) (w32 y1))) (fun y2 =>
        chk (decide ((0 : Nat) + (32 : Nat) ≤ a.length)) (
        chk (matOk (List.take (32 : Nat) a)) (
        chk (decide ((0 : Nat) + (32 : Nat) ≤ a.length)) (
        nam (kShr IntKind.i64 n (1 : Int)) (fun y3 =>
        Q .normal [.int IntKind.u32 (y2), .int IntKind.i64 (y3), .ptr (.rw 0) 0] [some ⟨1, (spl a (0 : Nat) (mk32 (sq (M (List.take (32 : Nat) a)))))⟩]))))))))) (
        chk (decide ((0 : Nat) + (32 : Nat) ≤ a.length)) (
        chk (matOk (List.take (32 : Nat) a)) (
        chk (decide ((0 : Nat) + (32 : Nat) ≤ a.length)) (
        nam (kShr IntKind.i64 n (1 : Int)) (fun y1 =>
        Q .normal [.int IntKind.u32 (s), .int IntKind.i64 (y1), .ptr (.rw 0) 0] [some ⟨1, (spl a (0 : Nat) (mk32 (sq (M (List.take (32 : Nat) a)))))⟩])))))) (
      Q (.exit 2) [.int IntKind.u32 (s), .int IntKind.i64 (n), .ptr (.rw 0) 0] [some ⟨1, a⟩])) := by kernel_rfl
end Go.Am
