/-
  Filters: Passing: its loop.
-/
import Derived.Test.YtnkcfoicbkobbaaFpA
namespace Go.Am
open Go.Proofs
set_option maxRecDepth 100000
/-- a call over nothing of the heap, in any heap -/
theorem DOut.frE {C : Ctx} {f : FuncId} {args : List EV} {H : DHp} {v : EV} {args0 : List AV} {v0 : AV} (h : ACalls C f args0 [] fun v' H' => v' = v0 ∧ H' = []) (ha : bnds 0 args0 = true) (he : vVs C.G args = args0) (hv0 : bnd 0 v0 = true) (hv : vV C.G v = v0) : DOut C f args H v [] :=
  DOut.fr (θ := []) (H0 := []) (H1 := []) (by simp) rfl (fun i b hb => by simp at hb) ha (by rw [he, rens_flat _ _ ha]) h (by simp) hv0 rfl (by rw [hv, ren_flat _ _ hv0]) (by simp [acts, merge, lay])
def clU (z : Nat) (G : Nat → List AV) : List AV → Bool := fun xs => match xs with
  | [.int _ k, .int _ n] => clC z (G k.toNat) n.toNat
  | _ => false
def clKU (e : Nat) : List AV → Nat := fun xs => match xs with
  | [.int _ k, .int _ n] => clK k.toNat n.toNat e
  | _ => 0
def clS (j z e : Nat) (G : Nat → List AV) : DSum := fun args _ => match args with
  | [.slice true (.ro k) o n] => some (.chk (.eqN o (.lit 0)) (.chk (.leN n (.lit 1048576)) (.chk (.uf j (clU z G) [.int .i64 (.ofN k), .int .i64 (.ofN n)]) (.one (.slice true (.ro (.uf 1681 (clKU e) [.int .i64 (.ofN k), .int .i64 (.ofN n)])) (.lit 0) n) []))))
  | _ => none
theorem clS_of (G : Nat → List AV) (B : Nat) {f j z e : Nat} (h : ∀ k n, n ≤ 1048576 → clC z (G k) n = true → ACalls (⟨Try.prog, G, B⟩ : Ctx) f [.slice true (.ro k) 0 n] [] fun v H' => v = .slice true (.ro (clK k n e)) 0 n ∧ H' = []) : DSumOk (⟨Try.prog, G, B⟩ : Ctx) f (clS j z e G) := by
  intro args H o ho
  unfold clS at ho
  split at ho
  · rename_i k o n
    simp only [Option.some.injEq] at ho
    subst ho
    intro h1 h2 h3
    have h1 : vN G o = 0 := Nat.eq_of_beq_eq_true h1
    have h2 : vN G n ≤ 1048576 := leB_iff.1 h2
    have h3 : clC z (G (vN G k)) (vN G n) = true := h3
    exact DOut.frE (C := (⟨Try.prog, G, B⟩ : Ctx)) (h _ _ h2 h3) rfl (by simp only [vVs, vV, vR, h1]) rfl (by simp only [vV, vR, vN, vVs, vI, clKU, Int.toNat_natCast])
  · simp at ho
-- names for the printer: (.uf 1682 (clU 3 G) [x]) (.uf 1683 (clU 1 G) [x])
def progCl (e : Nat) (G : Nat → List AV) : List (Nat × DSum) := [(35, clS 1682 3 e G), (36, clS 1683 1 e G)]
theorem progCl_ok (G : Nat → List AV) (B : Nat) (e : Nat) (hE : G e = []) : DSumsOk (⟨Try.prog, G, B⟩ : Ctx) (progCl e G) := .cons (clS_of G B fun k n h1 h2 => cl35 G B k n e hE h1 h2) (.cons (clS_of G B fun k n h1 h2 => cl36 G B k n e hE h1 h2) .nil)
theorem p25b (G : Nat → List AV) (k n k2 m i e : Nat) (l : List AV) (Q : Ex → List AV → Hp → Prop) (R : AV → Hp → Prop) : vT G Q R (dloop (Dc Try.prog [] (progCl e G) [] 0) 300 20 0 (loopN Try.f25 0) 23 [2, 5, 10, 11, 12] [.ptr (.rw 0) (.lit 0), .ptr (.rw 1) (.lit 0), .slice true (.ro (.var 3 k2)) (.lit 0) (.var 4 m), .int .i64 (.ofN (.var 4 m)), .int .i64 (.ofN (.var 6 i))] [some ⟨1, .of [.slice true (.ro (.var 1 k)) (.lit 0) (.var 2 n)]⟩, some ⟨1, .of [.slice true (.rw 2) (.lit 0) (.var 6 i)]⟩, some ⟨1, .var 8 l⟩]) = (
    (decide ((((i : Nat) : Int) : Int) < ((m : Nat) : Int)) = true →
      decide ((0 : Int) ≤ ((i : Nat) : Int)) = true ∧
      decide ((((i : Nat) : Int) : Int) < ((m : Nat) : Int)) = true ∧
      isRS (G (k2)) (i) = true ∧
      Nat.beq (roO (G (k2)) (i)) (0) = true ∧
      leB (roN (G (k2)) (i)) (1048576) = true ∧
      (clU 1 G) [.int .i64 (((roK (G (k2)) (i) : Nat) : Int)), .int .i64 (((roN (G (k2)) (i) : Nat) : Int))] = true ∧
      leB ((i + 1) * 24) (140737488355328) = true ∧
      Nat.beq (List.length l) (i) = true ∧
      Q .normal [.ptr (.rw 0) (0), .ptr (.rw 1) (0), .slice true (.ro (k2)) (0) (m), .int .i64 (((m : Nat) : Int)), .int .i64 (IntKind.wrap .i64 (((i : Nat) : Int) + 1))] [some ⟨1, ([.slice true (.ro (k)) (0) (n)] : List AV)⟩, some ⟨1, ([.slice true (.rw 4) (0) (i + 1)] : List AV)⟩, none, some ⟨1, ([.slice true (.ro ((clKU e) [.int .i64 (((roK (G (k2)) (i) : Nat) : Int)), .int .i64 (((roN (G (k2)) (i) : Nat) : Int))])) (0) (roN (G (k2)) (i))] : List AV)⟩, some ⟨1, (l ++ ([.slice true (.ro ((clKU e) [.int .i64 (((roK (G (k2)) (i) : Nat) : Int)), .int .i64 (((roN (G (k2)) (i) : Nat) : Int))])) (0) (roN (G (k2)) (i))] : List AV))⟩]) ∧
    (decide ((((i : Nat) : Int) : Int) < ((m : Nat) : Int)) = false →
      Q (.exit 0) [.ptr (.rw 0) (0), .ptr (.rw 1) (0), .slice true (.ro (k2)) (0) (m), .int .i64 (((m : Nat) : Int)), .int .i64 (((i : Nat) : Int))] [some ⟨1, ([.slice true (.ro (k)) (0) (n)] : List AV)⟩, some ⟨1, ([.slice true (.rw 2) (0) (i)] : List AV)⟩, some ⟨1, l⟩])) := by kernel_rfl
def pkC (cs : List AV) (e i : Nat) : AV := .slice true (.ro (clK (roK cs i) (roN cs i) e)) 0 (roN cs i)
/-- the packets, as they are cloned -/
def wkC (cs : List AV) (e m : Nat) : List AV := (List.range m).map (pkC cs e)
/-- may all packets be cloned? -/
def pkB (G : Nat → List AV) (cs : List AV) (i : Nat) : Bool := isRS cs i && (Nat.beq (roO cs i) 0 && (leB (roN cs i) 1048576 && (clC 1 (G (roK cs i)) (roN cs i) && okI .u8 (G (roK cs i)) 0 (roN cs i))))
def pksB (G : Nat → List AV) (cs : List AV) (m : Nat) : Bool := allTo (pkB G cs) m
theorem pksB_at {G : Nat → List AV} {cs : List AV} {m i : Nat} (h : pksB G cs m = true) (hi : i < m) : isRS cs i = true ∧ Nat.beq (roO cs i) 0 = true ∧ leB (roN cs i) 1048576 = true ∧ clC 1 (G (roK cs i)) (roN cs i) = true ∧ okI .u8 (G (roK cs i)) 0 (roN cs i) = true := by
  have := allTo_iff.1 h i hi
  simpa only [pkB, Bool.and_eq_true] using this
theorem wkC_len {cs : List AV} {e m : Nat} : (wkC cs e m).length = m := by simp [wkC]
theorem wkC_succ {cs : List AV} {e m : Nat} : wkC cs e (m + 1) = wkC cs e m ++ [pkC cs e m] := by simp [wkC, List.range_succ]
theorem wkC_norw {cs : List AV} {e m : Nat} : ∀ v ∈ wkC cs e m, norw v = true := fun v hv => by
  obtain ⟨i, _, rfl⟩ := List.mem_map.1 hv
  simp [pkC, norw]
theorem wkC_bnds {cs : List AV} {e m n : Nat} : bnds n (wkC cs e m) = true := by
  rw [bnds_eq, List.all_eq_true]
  intro v hv
  obtain ⟨i, _, rfl⟩ := List.mem_map.1 hv
  simp [pkC, bnd]
theorem rens_wkC {θ : List Nat} {cs : List AV} {e m : Nat} : rens θ (wkC cs e m) = wkC cs e m := rens_flat θ _ wkC_bnds
theorem p25_loop (G : Nat → List AV) (B : Nat) (k n k2 m e g : Nat) (hE : G e = []) (hg : G g = wkC (G k2) e m) (hm : m ≤ 40) (hp : pksB G (G k2) m = true) :
    AWp (⟨Try.prog, G, B⟩ : Ctx) 0 (.loop (loopN Try.f25 0)) (fl 23 [2, 5, 10, 11, 12] [.ptr (.rw 0) 0, .ptr (.rw 1) 0, .slice true (.ro k2) 0 m, .int .i64 (m : Int), .int .i64 0]) [some ⟨1, [.slice true (.ro k) 0 n]⟩, some ⟨1, [.nils]⟩]
      (lv 23 [2, 5, 10, 11, 12] (LOut.post G 0 (.one (.exit 0) [.ptr (.rw 0) (.lit 0), .ptr (.rw 1) (.lit 0), .undef, .undef, .undef] [some ⟨1, .of [.slice true (.ro (.var 1 k)) (.lit 0) (.var 2 n)]⟩, some ⟨1, .of [.slice true (.ro (.var 9 g)) (.lit 0) (.var 4 m)]⟩]))) := by
  refine AWp.nil (H := [some ⟨1, [.slice true (.ro k) 0 n]⟩, some ⟨1, [.slice true (.rw 2) 0 0]⟩]) 1 (by simp) (nilrs_refl _) ⟨⟨rfl, nilrs_refl _⟩, ⟨rfl, .inr ⟨rfl, rfl⟩, trivial⟩, trivial⟩ ?_
  refine AWp.frzL (Q := fun ex vs H => ex = .exit 0 ∧ vs = [.ptr (.rw 0) 0, .ptr (.rw 1) 0, .slice true (.ro k2) 0 m, .int .i64 (m : Int), .int .i64 (m : Int)] ∧ H = [some ⟨1, [.slice true (.ro k) 0 n]⟩, some ⟨1, [.slice true (.rw 2) 0 m]⟩, some ⟨1, wkC (G k2) e m⟩]) 2 g ?_ ?_
  · refine scan m (fun i => [.ptr (.rw 0) 0, .ptr (.rw 1) 0, .slice true (.ro k2) 0 m, .int .i64 (m : Int), .int .i64 (i : Int)]) (fun i => [some ⟨1, [.slice true (.ro k) 0 n]⟩, some ⟨1, [.slice true (.rw 2) 0 i]⟩, some ⟨1, wkC (G k2) e i⟩]) fun i hi => ?_
    refine dloop_ok (C := (⟨Try.prog, G, B⟩ : Ctx)) (dgood (inl := []) (ls := []) (M := 0) (mixF G B) (by kernel_rfl) (progCl_ok G B e hE) .nil) (fuel := 300) (n0 := 20) (m := 0) (c := loopN Try.f25 0) (vs := [.ptr (.rw 0) (.lit 0), .ptr (.rw 1) (.lit 0), .slice true (.ro (.var 3 k2)) (.lit 0) (.var 4 m), .int .i64 (.ofN (.var 4 m)), .int .i64 (.ofN (.var 6 i))]) (H := [some ⟨1, .of [.slice true (.ro (.var 1 k)) (.lit 0) (.var 2 n)]⟩, some ⟨1, .of [.slice true (.rw 2) (.lit 0) (.var 6 i)]⟩, some ⟨1, .var 8 (wkC (G k2) e i)⟩]) (by simp) ?_
    rw [p25b]
    refine ⟨fun h => ?_, fun h => ?_⟩
    · have hin : i < m := by have := of_decide_eq_true h; omega
      obtain ⟨q1, q2, q3, q4, _⟩ := pksB_at hp hin
      refine ⟨decide_eq_true (by omega), h, q1, q2, q3, q4, leB_iff.2 (by omega), by rw [wkC_len]; exact Nat.beq_refl _, hin, .inr ?_⟩
      rw [i64_in (by omega)]
      refine View.renM (H := [some ⟨1, [.slice true (.ro k) 0 n]⟩, some ⟨1, [.slice true (.rw 2) 0 (i + 1)]⟩, some ⟨1, wkC (G k2) e (i + 1)⟩]) (θ := [0, 1, 4]) (by simp) (fun i hi => by omega) (by decide) ⟨⟨by simp [bnds, bnd], by simp [rens, ren]⟩, ⟨by simp [bnds, bnd], by simp [rens, ren]⟩, ⟨wkC_bnds, ?_⟩, trivial⟩ (by simp [bnds, bnd]) (by simp [rens, ren, wk])
      rw [rens_wkC, wkC_succ]
      simp only [pkC, clKU, Int.toNat_natCast]
      rfl
    · have : i = m := by have := of_decide_eq_false h; omega
      subst this
      exact ⟨rfl, rfl, rfl⟩
  · rintro ex vs H' ⟨rfl, rfl, rfl⟩
    refine ⟨⟨⟨1, wkC (G k2) e m⟩, rfl, rfl, fun j v hj => ?_⟩, rfl, .inr ?_⟩
    · have hj : (G g)[j]? = some v := hj
      rw [hg] at hj
      exact ⟨v, hj, wkC_norw v (List.mem_of_getElem? hj), .rfl⟩
    · exact View.same (H := [some ⟨1, [.slice true (.ro k) 0 n]⟩, some ⟨1, [.slice true (.ro g) 0 m]⟩]) (G := [none]) (by simp) (by simp [hpB, bnds, bnd]) ⟨⟨rfl, rfl⟩, ⟨rfl, rfl⟩, trivial⟩
def pQ (G : Nat → List AV) (k n k2 m e : Nat) : List AV → Bool := stQ (pksB G (G k2) m && Nat.ble m 40) [.ptr (.rw 0) 0, .ptr (.rw 1) 0, .slice true (.ro k2) 0 m, .int .i64 (m : Int), .int .i64 0] [some ⟨1, [.slice true (.ro (clK k n e)) 0 n]⟩, some ⟨1, [.nils]⟩]
def pO (k n m e g : Nat) : LOut := .one (.exit 0) [.ptr (.rw 0) (.lit 0), .ptr (.rw 1) (.lit 0), .undef, .undef, .undef] [some ⟨1, .of [.slice true (.ro (.uf 1681 (clKU e) [.int .i64 (.ofN (.var 1 k)), .int .i64 (.ofN (.var 2 n))])) (.lit 0) (.var 2 n)]⟩, some ⟨1, .of [.slice true (.ro (.var 9 g)) (.lit 0) (.var 4 m)]⟩]
theorem pL_ok (G : Nat → List AV) (B : Nat) (k n k2 m e g : Nat) (hE : G e = []) (hg : G g = wkC (G k2) e m) : DLoopOk (⟨Try.prog, G, B⟩ : Ctx) 0 (loopN Try.f25 0) (DLat 1684 (pQ G k n k2 m e) 0 23 [2, 5, 10, 11, 12] (pO k n m e g)) :=
  DLat_ok rfl fun h => by
    simp only [Bool.and_eq_true] at h
    exact p25_loop G B (clK k n e) n k2 m e g hE hg (Nat.le_of_ble_eq_true h.2) h.1
theorem t25 (G : Nat → List AV) (k n k2 m e g : Nat) (Q : Ex → List AV → Hp → Prop) (R : AV → Hp → Prop) : vT G Q R (dcall (Dc Try.prog [] (progCl e G) [DLat 1684 (pQ G k n k2 m e) 0 23 [2, 5, 10, 11, 12] (pO k n m e g)] 0) 300 20 Try.f25 [.slice true (.ro (.var 1 k)) (.lit 0) (.var 2 n), .slice true (.ro (.var 3 k2)) (.lit 0) (.var 4 m)] [] 2) = (
    Nat.beq (0) (0) = true ∧
    leB (n) (1048576) = true ∧
    (clU 3 G) [.int .i64 (((k : Nat) : Int)), .int .i64 (((n : Nat) : Int))] = true ∧
    (pQ G k n k2 m e) [.agg ([.ptr (.rw 0) (0), .ptr (.rw 1) (0), .slice true (.ro (k2)) (0) (m), .int .i64 (((m : Nat) : Int)), .int .i64 (0)] : List AV), .agg ([.tup [.int .i64 (1), .agg ([.slice true (.ro ((clKU e) [.int .i64 (((k : Nat) : Int)), .int .i64 (((n : Nat) : Int))])) (0) (n)] : List AV)], .tup [.int .i64 (1), .agg ([.nils] : List AV)]] : List AV)] = true ∧
    R (.func 37 [.ptr (.rw 1) (0), .ptr (.rw 0) (0)]) [some ⟨1, ([.slice true (.ro ((clKU e) [.int .i64 (((k : Nat) : Int)), .int .i64 (((n : Nat) : Int))])) (0) (n)] : List AV)⟩, some ⟨1, ([.slice true (.ro (g)) (0) (m)] : List AV)⟩]) := by kernel_rfl
end Go.Am
