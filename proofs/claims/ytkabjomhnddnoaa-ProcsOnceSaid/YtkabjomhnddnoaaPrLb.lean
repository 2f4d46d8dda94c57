/-
  Processes: the program's End: the call.
-/
import Derived.Test.YtkabjomhnddnoaaPrLa
namespace Go.Am
open Go.Proofs Crc
set_option maxRecDepth 100000
theorem kid_lt {s : Ptb} {n : Int} : ∀ x ∈ kidT s n 13, x < 13 := fun x hx => (kidT_mem hx).1
theorem dgEnd (G : Nat → List AV) (B : Nat) {s : Ptb} (n a : Int) : DGood (⟨Try.prog, G, B⟩ : Ctx) (Df Try.prog [(48, 1, 13)] [36, 38, 39, 20] [(31, kidsS), (58, fChildS sideP)] [DLat 0x924 (isSt [.ptr (.rw 0) 0, .int .i64 0, .slice true (.rw 15) 0 (kidT s n 13).length, .int .i64 ((kidT s n 13).length : Int), .int .i64 0] (vHp G [some ⟨1, .var 1 (encV (ptC (endS s n.toNat a) n.toNat) (endS s n.toNat a))⟩, some ⟨1, .row (.var 2 (setsL encP s)) (.lit 0)⟩, some ⟨1, .row (.var 2 (setsL encP s)) (.lit 1)⟩, some ⟨1, .row (.var 2 (setsL encP s)) (.lit 2)⟩, some ⟨1, .row (.var 2 (setsL encP s)) (.lit 3)⟩, some ⟨1, .row (.var 2 (setsL encP s)) (.lit 4)⟩, some ⟨1, .row (.var 2 (setsL encP s)) (.lit 5)⟩, some ⟨1, .row (.var 2 (setsL encP s)) (.lit 6)⟩, some ⟨1, .row (.var 2 (setsL encP s)) (.lit 7)⟩, some ⟨1, .row (.var 2 (setsL encP s)) (.lit 8)⟩, some ⟨1, .row (.var 2 (setsL encP s)) (.lit 9)⟩, some ⟨1, .row (.var 2 (setsL encP s)) (.lit 10)⟩, some ⟨1, .row (.var 2 (setsL encP s)) (.lit 11)⟩, some ⟨1, .row (.var 2 (setsL encP s)) (.lit 12)⟩, some ⟨1, .var 23 (encP (childOf (sgD s n.toNat)))⟩, some ⟨1, .var 22 (nl (kidT s n 13))⟩])) 0 82 [0, 6, 44, 45, 46] (.one (.exit 0) [.ptr (.rw 0) (.lit 0), .int .i64 (.lit 0), .undef, .undef, .undef] [some ⟨1, .var 21 (encV (ptC (endP s n a) n.toNat) (endP s n a))⟩, some ⟨1, .row (.var 2 (setsL encP s)) (.lit 0)⟩, some ⟨1, .row (.var 2 (setsL encP s)) (.lit 1)⟩, some ⟨1, .row (.var 2 (setsL encP s)) (.lit 2)⟩, some ⟨1, .row (.var 2 (setsL encP s)) (.lit 3)⟩, some ⟨1, .row (.var 2 (setsL encP s)) (.lit 4)⟩, some ⟨1, .row (.var 2 (setsL encP s)) (.lit 5)⟩, some ⟨1, .row (.var 2 (setsL encP s)) (.lit 6)⟩, some ⟨1, .row (.var 2 (setsL encP s)) (.lit 7)⟩, some ⟨1, .row (.var 2 (setsL encP s)) (.lit 8)⟩, some ⟨1, .row (.var 2 (setsL encP s)) (.lit 9)⟩, some ⟨1, .row (.var 2 (setsL encP s)) (.lit 10)⟩, some ⟨1, .row (.var 2 (setsL encP s)) (.lit 11)⟩, some ⟨1, .row (.var 2 (setsL encP s)) (.lit 12)⟩, some ⟨1, .var 23 (encP (childOf (sgD s n.toNat)))⟩, some ⟨1, .var 22 (nl (kidT s n 13))⟩]), DLat 0x925 (isSt [.ptr (.rw 0) 0, .int .i64 0, .slice true (.rw 16) 0 (kidT (endP s n a) 1 13).length, .int .i64 ((kidT (endP s n a) 1 13).length : Int), .int .i64 0] (vHp G [some ⟨1, .var 1 (encV (ptC (endP s n a) n.toNat) (endP s n a))⟩, some ⟨1, .row (.var 2 (setsL encP s)) (.lit 0)⟩, some ⟨1, .row (.var 2 (setsL encP s)) (.lit 1)⟩, some ⟨1, .row (.var 2 (setsL encP s)) (.lit 2)⟩, some ⟨1, .row (.var 2 (setsL encP s)) (.lit 3)⟩, some ⟨1, .row (.var 2 (setsL encP s)) (.lit 4)⟩, some ⟨1, .row (.var 2 (setsL encP s)) (.lit 5)⟩, some ⟨1, .row (.var 2 (setsL encP s)) (.lit 6)⟩, some ⟨1, .row (.var 2 (setsL encP s)) (.lit 7)⟩, some ⟨1, .row (.var 2 (setsL encP s)) (.lit 8)⟩, some ⟨1, .row (.var 2 (setsL encP s)) (.lit 9)⟩, some ⟨1, .row (.var 2 (setsL encP s)) (.lit 10)⟩, some ⟨1, .row (.var 2 (setsL encP s)) (.lit 11)⟩, some ⟨1, .row (.var 2 (setsL encP s)) (.lit 12)⟩, some ⟨1, .var 23 (encP (childOf (sgD s n.toNat)))⟩, some ⟨1, .var 22 (nl (kidT s n 13))⟩, some ⟨1, .var 25 (nl (kidT (endP s n a) 1 13))⟩])) 2 82 [0, 6, 61, 62, 63] (.one (.exit 2) [.ptr (.rw 0) (.lit 0), .int .i64 (.lit 0), .undef, .undef, .undef] [some ⟨1, .var 26 (encV (ptC (endL (endP s n a) (kidT (endP s n a) 1 13)) n.toNat) (endL (endP s n a) (kidT (endP s n a) 1 13)))⟩, some ⟨1, .row (.var 2 (setsL encP s)) (.lit 0)⟩, some ⟨1, .row (.var 2 (setsL encP s)) (.lit 1)⟩, some ⟨1, .row (.var 2 (setsL encP s)) (.lit 2)⟩, some ⟨1, .row (.var 2 (setsL encP s)) (.lit 3)⟩, some ⟨1, .row (.var 2 (setsL encP s)) (.lit 4)⟩, some ⟨1, .row (.var 2 (setsL encP s)) (.lit 5)⟩, some ⟨1, .row (.var 2 (setsL encP s)) (.lit 6)⟩, some ⟨1, .row (.var 2 (setsL encP s)) (.lit 7)⟩, some ⟨1, .row (.var 2 (setsL encP s)) (.lit 8)⟩, some ⟨1, .row (.var 2 (setsL encP s)) (.lit 9)⟩, some ⟨1, .row (.var 2 (setsL encP s)) (.lit 10)⟩, some ⟨1, .row (.var 2 (setsL encP s)) (.lit 11)⟩, some ⟨1, .row (.var 2 (setsL encP s)) (.lit 12)⟩, some ⟨1, .var 23 (encP (childOf (sgD s n.toNat)))⟩, some ⟨1, .var 22 (nl (kidT s n 13))⟩, some ⟨1, .var 25 (nl (kidT (endP s n a) 1 13))⟩])] 14) (loopsOf (bodyOf Try.f27)) := by
  refine dgoodf (mix G B) (by kernel_rfl) (.cons (kidsS_ok G B) (.cons (fChildS_ok (sideP_ok G) (p_child G B)) .nil)) ?_
  rw [show loopsOf (bodyOf Try.f27) = [loopN Try.f27 0, loopN Try.f27 1] by kernel_rfl]
  exact .cons (i := 0) (by kernel_rfl) rfl (DLat_okC rfl (e0_loop G B (endS s n.toNat a) n.toNat (setsL encP s) (encP (childOf (sgD s n.toNat))) (kidT s n 13) kid_lt (kidT_len s n 13))) (.cons (i := 2) (by kernel_rfl) rfl (DLat_okC rfl (e2_loop G B (endP s n a) n.toNat (setsL encP s) (encP (childOf (sgD s n.toNat))) (nl (kidT s n 13)) (kidT (endP s n a) 1 13) kid_lt (kidT_len _ _ 13))) .nil)
theorem kAnd255 (a : Int) : kAnd .i64 a 255 = a % 256 := by
  have e : kAnd .i64 a 255 = (((BitVec.ofInt 64 a) &&& 255#64).toNat : Int) := by
    show IntKind.i64.wrap (((BitVec.ofInt 64 a) &&& 255#64).toNat : Int) = _
    have := Nat.and_le_right (n := (BitVec.ofInt 64 a).toNat) (m := 255)
    rw [BitVec.toNat_and]
    exact i64_in (by have e : (255#64).toNat = 255 := rfl; rw [e]; omega)
  rw [e, BitVec.toNat_and, BitVec.toNat_ofInt]
  have e2 : (255#64).toNat = 2 ^ 8 - 1 := rfl
  rw [e2, Nat.and_two_pow_sub_one_eq_mod]
  omega
theorem enc_end {s : Ptb} {n : Nat} {a : Int} (hn : n < 13) : setPart (setPart (setPart (encT 1 s) (n * 7 + 5) (.bool true)) (n * 7 + 6) (.int .i64 (a % 256))) (n * 7 + 7) (.ptr (.rw 14) 0) = encV (ptC (endS s n a) n) (endS s n a) := by
  rw [encT_V, V_set (p := fun n => ptrO 1 n (s.sg n)) (n := n) (k := 4) (s := s) (x := { s.at_ n with en := true }) (by omega) (by intro l h; cases h) (fun j hj => by
    match j, hj with
    | 0, _ | 1, _ | 2, _ | 3, _ | 4, _ | 5, _ => rfl), V_set (p := fun n => ptrO 1 n (s.sg n)) (n := n) (k := 5) (x := { s.at_ n with en := true, st := a % 256 }) (by omega) (by intro l h; cases h) (fun j hj => by
    show _ = if j = 5 then _ else fcell (if n = n then _ else s.at_ n) .undef j
    rw [if_pos rfl]
    match j, hj with
    | 0, _ | 1, _ | 2, _ | 3, _ | 4, _ | 5, _ => rfl), V_ptr (by intro l h; cases h)]
  unfold encV
  congr 1
  refine tabL_congr fun b j _ _ => ?_
  show fcell (if b = n then _ else if b = n then _ else s.at_ b) (if b = n then _ else _) j = fcell (if b = n then _ else s.at_ b) (match (if b = n then some (childOf (sgD s n)) else s.sg b) with | none => AV.nilp | some _ => AV.ptr (.rw (if b = n then 14 else 1 + b)) 0) j
  by_cases e : b = n
  · subst e; simp only [if_pos]
  · simp only [if_neg e]
    cases s.sg b <;> rfl
theorem kidNU_V {k : IntKind} {p : Nat → AV} {s : Ptb} {n : Int} : kidNU [.agg (encV p s), .int k n] = (kidT s n 13).length := by
  unfold kidNU; simp only [kidLC_eq]
theorem kidLU_V {k : IntKind} {p : Nat → AV} {s : Ptb} {n : Int} : kidLU [.agg (encV p s), .int k n] = nl (kidT s n 13) := by
  unfold kidLU; simp only [kidLC_eq]
theorem seen_end {s s' : Ptb} {n : Nat} {E : Hp} (hn : n < 13) (h1 : ∀ j p, s'.sg j = some p → (if j = n then some (childOf (sgD s n)) else s.sg j) = some p) :
    SeenQ tsP s' n 14 (some ⟨1, encV (ptC s' n) s'⟩ :: ((List.range 13).map (fun n => some ⟨1, rowA (setsL encP s) n⟩) ++ (some ⟨1, encP (childOf (sgD s n))⟩ :: E))) := by
  refine ⟨by simp, rfl, fun j hj => ?_⟩
  by_cases e : j = n
  · rw [if_pos e]
    refine ⟨_, by rw [show (14 : Nat) = 13 + 1 from rfl, List.getElem?_cons_succ, List.getElem?_append_right (by simp), List.length_map, List.length_range]; rfl, fun p hp => ?_⟩
    have := h1 j p hp
    rw [if_pos e] at this
    simp only [Option.some.injEq] at this
    rw [this]; rfl
  · rw [if_neg e]
    refine ⟨rowA (setsL encP s) j, ?_, fun p hp => ?_⟩
    · rw [Nat.add_comm 1 j, List.getElem?_cons_succ, List.getElem?_append_left (by simpa using hj), List.getElem?_map, List.getElem?_range hj]; rfl
    · have := h1 j p hp
      rw [if_neg e] at this
      rw [rowA_sets hj, this]; rfl
theorem k15_ok {s s' : Ptb} {n : Nat} {p : Sg} (hw : Wf s') : okK15 [.agg (encV (ptC s' n) s'), .agg (setsL encP s), .agg (encP p)] = true := okK15_iff.2 ⟨s', n, hw, rfl, sets_flat, encP_flat 0 p⟩
theorem p_end (G : Nat → List AV) (B : Nat) {s : Ptb} (hw : Wf s) (n a : Int) : ACalls (⟨Try.prog, G, B⟩ : Ctx) 27 [.ptr (.rw 0) 0, .int .i64 n, .int .i64 a] (can tsP s) fun v H' => v = .int .i64 (endR s n a).1 ∧ H' = mov tsP (endR s n a).2 := by
  have h := dcall_ok (C := (⟨Try.prog, G, B⟩ : Ctx)) (K := Df Try.prog [(48, 1, 13)] [36, 38, 39, 20] [(31, kidsS), (58, fChildS sideP)] [DLat 0x924 (isSt [.ptr (.rw 0) 0, .int .i64 0, .slice true (.rw 15) 0 (kidT s n 13).length, .int .i64 ((kidT s n 13).length : Int), .int .i64 0] (vHp G [some ⟨1, .var 1 (encV (ptC (endS s n.toNat a) n.toNat) (endS s n.toNat a))⟩, some ⟨1, .row (.var 2 (setsL encP s)) (.lit 0)⟩, some ⟨1, .row (.var 2 (setsL encP s)) (.lit 1)⟩, some ⟨1, .row (.var 2 (setsL encP s)) (.lit 2)⟩, some ⟨1, .row (.var 2 (setsL encP s)) (.lit 3)⟩, some ⟨1, .row (.var 2 (setsL encP s)) (.lit 4)⟩, some ⟨1, .row (.var 2 (setsL encP s)) (.lit 5)⟩, some ⟨1, .row (.var 2 (setsL encP s)) (.lit 6)⟩, some ⟨1, .row (.var 2 (setsL encP s)) (.lit 7)⟩, some ⟨1, .row (.var 2 (setsL encP s)) (.lit 8)⟩, some ⟨1, .row (.var 2 (setsL encP s)) (.lit 9)⟩, some ⟨1, .row (.var 2 (setsL encP s)) (.lit 10)⟩, some ⟨1, .row (.var 2 (setsL encP s)) (.lit 11)⟩, some ⟨1, .row (.var 2 (setsL encP s)) (.lit 12)⟩, some ⟨1, .var 23 (encP (childOf (sgD s n.toNat)))⟩, some ⟨1, .var 22 (nl (kidT s n 13))⟩])) 0 82 [0, 6, 44, 45, 46] (.one (.exit 0) [.ptr (.rw 0) (.lit 0), .int .i64 (.lit 0), .undef, .undef, .undef] [some ⟨1, .var 21 (encV (ptC (endP s n a) n.toNat) (endP s n a))⟩, some ⟨1, .row (.var 2 (setsL encP s)) (.lit 0)⟩, some ⟨1, .row (.var 2 (setsL encP s)) (.lit 1)⟩, some ⟨1, .row (.var 2 (setsL encP s)) (.lit 2)⟩, some ⟨1, .row (.var 2 (setsL encP s)) (.lit 3)⟩, some ⟨1, .row (.var 2 (setsL encP s)) (.lit 4)⟩, some ⟨1, .row (.var 2 (setsL encP s)) (.lit 5)⟩, some ⟨1, .row (.var 2 (setsL encP s)) (.lit 6)⟩, some ⟨1, .row (.var 2 (setsL encP s)) (.lit 7)⟩, some ⟨1, .row (.var 2 (setsL encP s)) (.lit 8)⟩, some ⟨1, .row (.var 2 (setsL encP s)) (.lit 9)⟩, some ⟨1, .row (.var 2 (setsL encP s)) (.lit 10)⟩, some ⟨1, .row (.var 2 (setsL encP s)) (.lit 11)⟩, some ⟨1, .row (.var 2 (setsL encP s)) (.lit 12)⟩, some ⟨1, .var 23 (encP (childOf (sgD s n.toNat)))⟩, some ⟨1, .var 22 (nl (kidT s n 13))⟩]), DLat 0x925 (isSt [.ptr (.rw 0) 0, .int .i64 0, .slice true (.rw 16) 0 (kidT (endP s n a) 1 13).length, .int .i64 ((kidT (endP s n a) 1 13).length : Int), .int .i64 0] (vHp G [some ⟨1, .var 1 (encV (ptC (endP s n a) n.toNat) (endP s n a))⟩, some ⟨1, .row (.var 2 (setsL encP s)) (.lit 0)⟩, some ⟨1, .row (.var 2 (setsL encP s)) (.lit 1)⟩, some ⟨1, .row (.var 2 (setsL encP s)) (.lit 2)⟩, some ⟨1, .row (.var 2 (setsL encP s)) (.lit 3)⟩, some ⟨1, .row (.var 2 (setsL encP s)) (.lit 4)⟩, some ⟨1, .row (.var 2 (setsL encP s)) (.lit 5)⟩, some ⟨1, .row (.var 2 (setsL encP s)) (.lit 6)⟩, some ⟨1, .row (.var 2 (setsL encP s)) (.lit 7)⟩, some ⟨1, .row (.var 2 (setsL encP s)) (.lit 8)⟩, some ⟨1, .row (.var 2 (setsL encP s)) (.lit 9)⟩, some ⟨1, .row (.var 2 (setsL encP s)) (.lit 10)⟩, some ⟨1, .row (.var 2 (setsL encP s)) (.lit 11)⟩, some ⟨1, .row (.var 2 (setsL encP s)) (.lit 12)⟩, some ⟨1, .var 23 (encP (childOf (sgD s n.toNat)))⟩, some ⟨1, .var 22 (nl (kidT s n 13))⟩, some ⟨1, .var 25 (nl (kidT (endP s n a) 1 13))⟩])) 2 82 [0, 6, 61, 62, 63] (.one (.exit 2) [.ptr (.rw 0) (.lit 0), .int .i64 (.lit 0), .undef, .undef, .undef] [some ⟨1, .var 26 (encV (ptC (endL (endP s n a) (kidT (endP s n a) 1 13)) n.toNat) (endL (endP s n a) (kidT (endP s n a) 1 13)))⟩, some ⟨1, .row (.var 2 (setsL encP s)) (.lit 0)⟩, some ⟨1, .row (.var 2 (setsL encP s)) (.lit 1)⟩, some ⟨1, .row (.var 2 (setsL encP s)) (.lit 2)⟩, some ⟨1, .row (.var 2 (setsL encP s)) (.lit 3)⟩, some ⟨1, .row (.var 2 (setsL encP s)) (.lit 4)⟩, some ⟨1, .row (.var 2 (setsL encP s)) (.lit 5)⟩, some ⟨1, .row (.var 2 (setsL encP s)) (.lit 6)⟩, some ⟨1, .row (.var 2 (setsL encP s)) (.lit 7)⟩, some ⟨1, .row (.var 2 (setsL encP s)) (.lit 8)⟩, some ⟨1, .row (.var 2 (setsL encP s)) (.lit 9)⟩, some ⟨1, .row (.var 2 (setsL encP s)) (.lit 10)⟩, some ⟨1, .row (.var 2 (setsL encP s)) (.lit 11)⟩, some ⟨1, .row (.var 2 (setsL encP s)) (.lit 12)⟩, some ⟨1, .var 23 (encP (childOf (sgD s n.toNat)))⟩, some ⟨1, .var 22 (nl (kidT s n 13))⟩, some ⟨1, .var 25 (nl (kidT (endP s n a) 1 13))⟩])] 14) (fuel := 300) (n0 := 40) (f := 27) (fn := Try.f27) (args := [.ptr (.rw 0) (.lit 0), .int .i64 (.var 3 n), .int .i64 (.var 4 a)]) (H := [some ⟨1, .var 1 (encT 1 s)⟩, some ⟨1, .row (.var 2 (setsL encP s)) (.lit 0)⟩, some ⟨1, .row (.var 2 (setsL encP s)) (.lit 1)⟩, some ⟨1, .row (.var 2 (setsL encP s)) (.lit 2)⟩, some ⟨1, .row (.var 2 (setsL encP s)) (.lit 3)⟩, some ⟨1, .row (.var 2 (setsL encP s)) (.lit 4)⟩, some ⟨1, .row (.var 2 (setsL encP s)) (.lit 5)⟩, some ⟨1, .row (.var 2 (setsL encP s)) (.lit 6)⟩, some ⟨1, .row (.var 2 (setsL encP s)) (.lit 7)⟩, some ⟨1, .row (.var 2 (setsL encP s)) (.lit 8)⟩, some ⟨1, .row (.var 2 (setsL encP s)) (.lit 9)⟩, some ⟨1, .row (.var 2 (setsL encP s)) (.lit 10)⟩, some ⟨1, .row (.var 2 (setsL encP s)) (.lit 11)⟩, some ⟨1, .row (.var 2 (setsL encP s)) (.lit 12)⟩]) (keep := 15)
    (R := fun v H => v = .int .i64 (endR s n a).1 ∧ (Seen tsP (endR s n a).2 13 H ∨ ∃ c, SeenQ tsP (endR s n a).2 c 14 H ∧ 14 < H.length)) (dgEnd G B n a) (by kernel_rfl) (by kernel_rfl) (by kernel_rfl) (by
    have := e_c G okK15 okK14 (isSt [.ptr (.rw 0) 0, .int .i64 0, .slice true (.rw 15) 0 (kidT s n 13).length, .int .i64 ((kidT s n 13).length : Int), .int .i64 0] (vHp G [some ⟨1, .var 1 (encV (ptC (endS s n.toNat a) n.toNat) (endS s n.toNat a))⟩, some ⟨1, .row (.var 2 (setsL encP s)) (.lit 0)⟩, some ⟨1, .row (.var 2 (setsL encP s)) (.lit 1)⟩, some ⟨1, .row (.var 2 (setsL encP s)) (.lit 2)⟩, some ⟨1, .row (.var 2 (setsL encP s)) (.lit 3)⟩, some ⟨1, .row (.var 2 (setsL encP s)) (.lit 4)⟩, some ⟨1, .row (.var 2 (setsL encP s)) (.lit 5)⟩, some ⟨1, .row (.var 2 (setsL encP s)) (.lit 6)⟩, some ⟨1, .row (.var 2 (setsL encP s)) (.lit 7)⟩, some ⟨1, .row (.var 2 (setsL encP s)) (.lit 8)⟩, some ⟨1, .row (.var 2 (setsL encP s)) (.lit 9)⟩, some ⟨1, .row (.var 2 (setsL encP s)) (.lit 10)⟩, some ⟨1, .row (.var 2 (setsL encP s)) (.lit 11)⟩, some ⟨1, .row (.var 2 (setsL encP s)) (.lit 12)⟩, some ⟨1, .var 23 (encP (childOf (sgD s n.toNat)))⟩, some ⟨1, .var 22 (nl (kidT s n 13))⟩])) (isSt [.ptr (.rw 0) 0, .int .i64 0, .slice true (.rw 16) 0 (kidT (endP s n a) 1 13).length, .int .i64 ((kidT (endP s n a) 1 13).length : Int), .int .i64 0] (vHp G [some ⟨1, .var 1 (encV (ptC (endP s n a) n.toNat) (endP s n a))⟩, some ⟨1, .row (.var 2 (setsL encP s)) (.lit 0)⟩, some ⟨1, .row (.var 2 (setsL encP s)) (.lit 1)⟩, some ⟨1, .row (.var 2 (setsL encP s)) (.lit 2)⟩, some ⟨1, .row (.var 2 (setsL encP s)) (.lit 3)⟩, some ⟨1, .row (.var 2 (setsL encP s)) (.lit 4)⟩, some ⟨1, .row (.var 2 (setsL encP s)) (.lit 5)⟩, some ⟨1, .row (.var 2 (setsL encP s)) (.lit 6)⟩, some ⟨1, .row (.var 2 (setsL encP s)) (.lit 7)⟩, some ⟨1, .row (.var 2 (setsL encP s)) (.lit 8)⟩, some ⟨1, .row (.var 2 (setsL encP s)) (.lit 9)⟩, some ⟨1, .row (.var 2 (setsL encP s)) (.lit 10)⟩, some ⟨1, .row (.var 2 (setsL encP s)) (.lit 11)⟩, some ⟨1, .row (.var 2 (setsL encP s)) (.lit 12)⟩, some ⟨1, .var 23 (encP (childOf (sgD s n.toNat)))⟩, some ⟨1, .var 22 (nl (kidT s n 13))⟩, some ⟨1, .var 25 (nl (kidT (endP s n a) 1 13))⟩])) (encT 1 s) (setsL encP s) (encP (childOf (sgD s n.toNat))) (nl (kidT s n 13)) (nl (kidT (endP s n a) 1 13)) (encV (ptC (endP s n a) n.toNat) (endP s n a)) (encV (ptC (endL (endP s n a) (kidT (endP s n a) 1 13)) n.toNat) (endL (endP s n a) (kidT (endP s n a) 1 13))) n a (fun _ _ _ => False) (fun v H => v = .int .i64 (endR s n a).1 ∧ (Seen tsP (endR s n a).2 13 H ∨ ∃ c, SeenQ tsP (endR s n a).2 c 14 H ∧ 14 < H.length))
    refine Eq.mpr this ?_
    refine ⟨rfl, fun _ => ⟨rfl, rfl, live_tree 1 (fun hl => ?_) fun hl => ?_⟩, fun h => by cases h⟩
    · have h := live_iff.1 hl
      have hi : isP s n = true := isP_iff.2 ⟨h.1, h.2.1, h.2.2.1⟩
      obtain ⟨p, hp⟩ := hw.live_sg hi
      obtain ⟨e1, e2, e3, e4, e5⟩ := fam_facts (by omega) hp
      have ed : sgD s n.toNat = p := by unfold sgD; rw [hp]; rfl
      have hne : (s.at_ n.toNat).num ≠ 0 := by omega
      rw [e3, e4, e5, childU_enc, kAnd255, enc_end (by omega), kidNU_V, kidLU_V, kidT_end, kidNU_V, kidLU_V]
      have w1 := hw.endS hne a
      have w2 := hw.endP hl a
      have g8 := V_num (p := ptC (endP s n a) n.toNat) (s := (endP s n a)) (n := 1) (by omega)
      have g12 := V_en (p := ptC (endP s n a) n.toNat) (s := (endP s n a)) (n := 1) (by omega)
      have sgs : ∀ j p, (endP s n a).sg j = some p → (if j = n.toNat then some (childOf (sgD s n.toNat)) else s.sg j) = some p := fun j p h => by
        have : (endP s n a).sg = (endS s n.toNat a).sg := parL_sg _
        rw [this] at h; exact h
      have k15a : okK15 [.agg (encV (ptC (endS s n.toNat a) n.toNat) (endS s n.toNat a)), .agg (setsL encP s), .agg (encP (setW p 0#32))] = true := k15_ok w1
      have k15b : okK15 [.agg (encV (ptC (endP s n a) n.toNat) (endP s n a)), .agg (setsL encP s), .agg (encP (childOf (sgD s n.toNat)))] = true := k15_ok w2
      have ez : encP (setW p 0#32) = (encP (childOf (sgD s n.toNat))) := by rw [ed]; rfl
      have fin2 : live (endP s n a) 1 = true → (AV.int .i64 0 = .int .i64 (endR s n a).1 ∧ (Seen tsP (endR s n a).2 13 (some ⟨1, encV (ptC (endP s n a) n.toNat) (endP s n a)⟩ :: ((List.range 13).map (fun n => some ⟨1, rowA (setsL encP s) n⟩) ++ [some ⟨1, (encP (childOf (sgD s n.toNat)))⟩])) ∨ ∃ c, SeenQ tsP (endR s n a).2 c 14 (some ⟨1, encV (ptC (endP s n a) n.toNat) (endP s n a)⟩ :: ((List.range 13).map (fun n => some ⟨1, rowA (setsL encP s) n⟩) ++ [some ⟨1, (encP (childOf (sgD s n.toNat)))⟩])) ∧ 14 < (some (⟨1, encV (ptC (endP s n a) n.toNat) (endP s n a)⟩ : Blk) :: ((List.range 13).map (fun n => some ⟨1, rowA (setsL encP s) n⟩) ++ [some ⟨1, (encP (childOf (sgD s n.toNat)))⟩])).length)) := fun h2 => by
        unfold endR
        rw [if_pos hl, if_pos h2]
        exact ⟨rfl, .inr ⟨n.toNat, seen_end (E := []) (by omega) sgs, by simp⟩⟩
      have fin3 : live (endP s n a) 1 = false → (AV.int .i64 0 = .int .i64 (endR s n a).1 ∧ (Seen tsP (endR s n a).2 13 (some ⟨1, encV (ptC (endL (endP s n a) (kidT (endP s n a) 1 13)) n.toNat) (endL (endP s n a) (kidT (endP s n a) 1 13))⟩ :: ((List.range 13).map (fun n => some ⟨1, rowA (setsL encP s) n⟩) ++ [some ⟨1, (encP (childOf (sgD s n.toNat)))⟩])) ∨ ∃ c, SeenQ tsP (endR s n a).2 c 14 (some ⟨1, encV (ptC (endL (endP s n a) (kidT (endP s n a) 1 13)) n.toNat) (endL (endP s n a) (kidT (endP s n a) 1 13))⟩ :: ((List.range 13).map (fun n => some ⟨1, rowA (setsL encP s) n⟩) ++ [some ⟨1, (encP (childOf (sgD s n.toNat)))⟩])) ∧ 14 < (some (⟨1, encV (ptC (endL (endP s n a) (kidT (endP s n a) 1 13)) n.toNat) (endL (endP s n a) (kidT (endP s n a) 1 13))⟩ : Blk) :: ((List.range 13).map (fun n => some ⟨1, rowA (setsL encP s) n⟩) ++ [some ⟨1, (encP (childOf (sgD s n.toNat)))⟩])).length)) := fun h2 => by
        unfold endR
        rw [if_pos hl, if_neg (by rw [h2]; simp)]
        exact ⟨rfl, .inr ⟨n.toNat, seen_end (E := []) (by omega) (fun j p h => sgs j p (endL_sg _ j p h)), by simp⟩⟩
      have ll : ∀ b, live (endP s n a) 1 = b → (((endP s n a).at_ 1).num == 1 && !((endP s n a).at_ 1).en) = b := fun b h => by
        rw [← h]; unfold live isP; rfl
      refine ⟨decide_eq_true (by omega), decide_eq_true (by omega), (fun h => by rw [e1] at h; cases h), fun _ => ⟨e2, rfl, leB_iff.2 (by omega), rowsA_same _ 13, leB_iff.2 (by rw [setsL_len]; omega), okU_enc p, leB_iff.2 (by rw [encT_len]; omega), ?_, ?_, rowsA_same _ 13, k15a, ?_, rfl, fun _ => ⟨g8.1, fun h1 => ⟨g12.1, fun h2 => ⟨rowsA_same _ 13, k15b, isSt_refl, fin3 ?_⟩, fun h2 => fin2 ?_⟩, fun h1 => ⟨rowsA_same _ 13, k15b, isSt_refl, fin3 ?_⟩⟩, fun h => by cases h⟩⟩
      · refine leB_iff.2 ?_
        rw [setPart_cell (by intro l h; cases h), List.length_set, encT_len]; omega
      · refine leB_iff.2 ?_
        rw [setPart_cell (by intro l h; cases h), List.length_set, setPart_cell (by intro l h; cases h), List.length_set, encT_len]; omega
      · rw [ez]; exact isSt_refl
      · rw [g12.2] at h2
        unfold live; rw [show ((endP s n a).at_ (Int.toNat 1)) = (endP s n a).at_ 1 from rfl, h2]; simp
      · rw [g12.2] at h2
        rw [g8.2] at h1
        unfold live isP
        rw [show ((endP s n a).at_ (Int.toNat 1)) = (endP s n a).at_ 1 from rfl, h2]
        have : (((endP s n a).at_ 1).num == 1) = true := h1
        rw [this]; rfl
      · rw [g8.2] at h1
        unfold live isP
        have : (((endP s n a).at_ 1).num == 1) = false := h1
        rw [show ((endP s n a).at_ (Int.toNat 1)) = (endP s n a).at_ 1 from rfl, this]; rfl
    · unfold endR
      rw [hl]; exact ⟨rfl, .inl seen_same⟩)
  rw [hT] at h
  exact pm_move tsP_ok (q := 14) (by omega) h rfl
end Go.Am
