/-
  Filters: FilterPasses: what is wanted; the law.
-/
import Derived.Test.YtnkcfoicbkobbaaFpI
namespace Go.Am
open Go.Proofs
set_option maxRecDepth 100000
/-- the document's Match over a packet of a list -/
def mtS : DSum := fun args H => match args with
  | [x, .slice true (.ro r) o pn] => match matchS [x, .slice true (.ro r) (.lit 0) pn] H with
    | some oo => some (.chk (.eqN o (.lit 0)) oo)
    | none => none
  | _ => none
theorem mtS_ok (G : Nat → List AV) (B : Nat) {f : Nat} (h : DSumOk (⟨Try.prog, G, B⟩ : Ctx) f matchS) : DSumOk (⟨Try.prog, G, B⟩ : Ctx) f mtS := by
  intro args H oo ho
  unfold mtS at ho
  split at ho
  · rename_i x r o pn
    split at ho
    · rename_i o2 h2
      simp only [Option.some.injEq] at ho
      subst ho
      intro h1
      have h1 : vN G o = 0 := Nat.eq_of_beq_eq_true h1
      have e : DOut (⟨Try.prog, G, B⟩ : Ctx) f [x, .slice true (.ro r) o pn] H = DOut (⟨Try.prog, G, B⟩ : Ctx) f [x, .slice true (.ro r) (.lit 0) pn] H := by
        funext v hs
        unfold DOut
        simp only [vVs, vV, h1, vN]
      rw [e]
      exact h _ _ _ h2
    · simp at ho
  · simp at ho
theorem w_b (G : Nat → List AV) (k2 m k n i c : Nat) (lw : Int) (l : List AV) (Q : Ex → List AV → Hp → Prop) (R : AV → Hp → Prop) : vT G Q R (dloop (Dc Try.prog [] [(12, mtS)] [] 0) 300 20 0 (loopN Try.f7 0) 115 [0, 4, 5, 6, 7, 8] [.slice true (.ro (.var 1 k)) (.lit 0) (.var 2 n), .ptr (.rw 0) (.lit 0), .ptr (.rw 1) (.lit 0), .ptr (.rw 2) (.lit 0), .ptr (.rw 3) (.lit 0), .int .i64 (.ofN (.var 6 i))] [some ⟨1, .of [.slice true (.ro (.var 3 k2)) (.lit 0) (.var 4 m)]⟩, some ⟨1, .of [.int .i64 (.var 11 lw)]⟩, some ⟨1, .of [.bool (.lit false)]⟩, some ⟨1, .of [.slice true (.rw 4) (.lit 0) (.var 5 c)]⟩, some ⟨1, .var 8 l⟩]) = (
    (decide ((((i : Nat) : Int) : Int) < ((m : Nat) : Int)) = true →
      decide ((0 : Int) ≤ ((i : Nat) : Int)) = true ∧
      decide ((((i : Nat) : Int) : Int) < ((m : Nat) : Int)) = true ∧
      isRS (G (k2)) (i) = true ∧
      (decide ((((roN (G (k2)) (i) : Nat) : Int) : Int) ≤ 300) = true →
        decide ((0 : Int) ≤ ((i : Nat) : Int)) = true ∧
        decide ((((i : Nat) : Int) : Int) < ((m : Nat) : Int)) = true ∧
        isRS (G (k2)) (i) = true ∧
        Nat.beq (roO (G (k2)) (i)) (0) = true ∧
        rowsU [.agg (G (k)), .int .i64 (((n : Nat) : Int))] = true ∧
        bytesU [.agg (G (roK (G (k2)) (i))), .int .i64 (((roN (G (k2)) (i) : Nat) : Int))] = true ∧
        (matchU [.agg (G (k)), .int .i64 (((n : Nat) : Int)), .agg (G (roK (G (k2)) (i))), .int .i64 (((roN (G (k2)) (i) : Nat) : Int))] = true →
          leB ((c + 1) * 8) (140737488355328) = true ∧
          Nat.beq (List.length l) (c) = true ∧
          Q .normal [.slice true (.ro (k)) (0) (n), .ptr (.rw 0) (0), .ptr (.rw 1) (0), .ptr (.rw 2) (0), .ptr (.rw 3) (0), .int .i64 (IntKind.wrap .i64 (((i : Nat) : Int) + 1))] [some ⟨1, ([.slice true (.ro (k2)) (0) (m)] : List AV)⟩, some ⟨1, ([.int .i64 (lw)] : List AV)⟩, some ⟨1, ([.bool (false)] : List AV)⟩, some ⟨1, ([.slice true (.rw 6) (0) (c + 1)] : List AV)⟩, none, some ⟨1, ([.int .i64 (((i : Nat) : Int))] : List AV)⟩, some ⟨1, (l ++ ([.int .i64 (((i : Nat) : Int))] : List AV))⟩]) ∧
        (matchU [.agg (G (k)), .int .i64 (((n : Nat) : Int)), .agg (G (roK (G (k2)) (i))), .int .i64 (((roN (G (k2)) (i) : Nat) : Int))] = false →
          Q .normal [.slice true (.ro (k)) (0) (n), .ptr (.rw 0) (0), .ptr (.rw 1) (0), .ptr (.rw 2) (0), .ptr (.rw 3) (0), .int .i64 (IntKind.wrap .i64 (((i : Nat) : Int) + 1))] [some ⟨1, ([.slice true (.ro (k2)) (0) (m)] : List AV)⟩, some ⟨1, ([.int .i64 (lw)] : List AV)⟩, some ⟨1, ([.bool (false)] : List AV)⟩, some ⟨1, ([.slice true (.rw 4) (0) (c)] : List AV)⟩, some ⟨1, l⟩])) ∧
      (decide ((((roN (G (k2)) (i) : Nat) : Int) : Int) ≤ 300) = false →
        Q .normal [.slice true (.ro (k)) (0) (n), .ptr (.rw 0) (0), .ptr (.rw 1) (0), .ptr (.rw 2) (0), .ptr (.rw 3) (0), .int .i64 (IntKind.wrap .i64 (((i : Nat) : Int) + 1))] [some ⟨1, ([.slice true (.ro (k2)) (0) (m)] : List AV)⟩, some ⟨1, ([.int .i64 (lw)] : List AV)⟩, some ⟨1, ([.bool (false)] : List AV)⟩, some ⟨1, ([.slice true (.rw 4) (0) (c)] : List AV)⟩, some ⟨1, l⟩])) ∧
    (decide ((((i : Nat) : Int) : Int) < ((m : Nat) : Int)) = false →
      Q (.exit 0) [.slice true (.ro (k)) (0) (n), .ptr (.rw 0) (0), .ptr (.rw 1) (0), .ptr (.rw 2) (0), .ptr (.rw 3) (0), .int .i64 (((i : Nat) : Int))] [some ⟨1, ([.slice true (.ro (k2)) (0) (m)] : List AV)⟩, some ⟨1, ([.int .i64 (lw)] : List AV)⟩, some ⟨1, ([.bool (false)] : List AV)⟩, some ⟨1, ([.slice true (.rw 4) (0) (c)] : List AV)⟩, some ⟨1, l⟩])) := by kernel_rfl
theorem mtF_300 {G : Nat → List AV} {k n k2 i : Nat} (h : ¬ roN (G k2) i ≤ 300) : mtF G k n k2 i = false := by
  unfold mtF matchB
  rw [decide_eq_false (show ¬ roN (G k2) i ≤ 64 by omega), Bool.false_and, Bool.and_false]
theorem w_loop (G : Nat → List AV) (B : Nat) (k2 m gw wn k n : Nat) (lw : Int) (hp : pksB G (G k2) m = true) (hk : okI .i64 (G k) 0 (n * 3) = true) (hm : m ≤ 40) (hw : wn = cntB (mtF G k n k2) m) (hgw : G gw = wantL (mtF G k n k2) m) :
    AWp (⟨Try.prog, G, B⟩ : Ctx) 0 (.loop (loopN Try.f7 0)) (fl 115 [0, 4, 5, 6, 7, 8] [.slice true (.ro k) 0 n, .ptr (.rw 0) 0, .ptr (.rw 1) 0, .ptr (.rw 2) 0, .ptr (.rw 3) 0, .int .i64 0]) [some ⟨1, [.slice true (.ro k2) 0 m]⟩, some ⟨1, [.int .i64 lw]⟩, some ⟨1, [.bool false]⟩, some ⟨1, [.nils]⟩]
      (lv 115 [0, 4, 5, 6, 7, 8] (LOut.post G 0 (.one (.exit 0) [.slice true (.ro (.var 1 k)) (.lit 0) (.var 2 n), .ptr (.rw 0) (.lit 0), .ptr (.rw 1) (.lit 0), .ptr (.rw 2) (.lit 0), .ptr (.rw 3) (.lit 0), .undef] [some ⟨1, .of [.slice true (.ro (.var 3 k2)) (.lit 0) (.var 4 m)]⟩, some ⟨1, .of [.int .i64 (.var 11 lw)]⟩, some ⟨1, .of [.bool (.lit false)]⟩, some ⟨1, .of [.slice true (.ro (.var 10 gw)) (.lit 0) (.var 12 wn)]⟩]))) := by
  refine AWp.nil (H := [some ⟨1, [.slice true (.ro k2) 0 m]⟩, some ⟨1, [.int .i64 lw]⟩, some ⟨1, [.bool false]⟩, some ⟨1, [.slice true (.rw 4) 0 0]⟩]) 1 (by simp) (nilrs_refl _) ⟨⟨rfl, nilrs_refl _⟩, ⟨rfl, nilrs_refl _⟩, ⟨rfl, nilrs_refl _⟩, ⟨rfl, .inr ⟨rfl, rfl⟩, trivial⟩, trivial⟩ ?_
  refine AWp.frzL (Q := fun ex vs H => ex = .exit 0 ∧ vs = [.slice true (.ro k) 0 n, .ptr (.rw 0) 0, .ptr (.rw 1) 0, .ptr (.rw 2) 0, .ptr (.rw 3) 0, .int .i64 (m : Int)] ∧ H = [some ⟨1, [.slice true (.ro k2) 0 m]⟩, some ⟨1, [.int .i64 lw]⟩, some ⟨1, [.bool false]⟩, some ⟨1, [.slice true (.rw 4) 0 (cntB (mtF G k n k2) m)]⟩, some ⟨1, wantL (mtF G k n k2) m⟩]) 4 gw ?_ ?_
  · refine scan m (fun i => [.slice true (.ro k) 0 n, .ptr (.rw 0) 0, .ptr (.rw 1) 0, .ptr (.rw 2) 0, .ptr (.rw 3) 0, .int .i64 (i : Int)]) (fun i => [some ⟨1, [.slice true (.ro k2) 0 m]⟩, some ⟨1, [.int .i64 lw]⟩, some ⟨1, [.bool false]⟩, some ⟨1, [.slice true (.rw 4) 0 (cntB (mtF G k n k2) i)]⟩, some ⟨1, wantL (mtF G k n k2) i⟩]) fun i hi => ?_
    refine dloop_ok (C := (⟨Try.prog, G, B⟩ : Ctx)) (dgood (inl := []) (ls := []) (M := 0) (mixF G B) (by kernel_rfl) (.cons (mtS_ok G B (matchS_of G B fun G B k n k2 m => ma_call G B k n k2 m)) .nil) .nil) (fuel := 300) (n0 := 20) (m := 0) (c := loopN Try.f7 0) (vs := [.slice true (.ro (.var 1 k)) (.lit 0) (.var 2 n), .ptr (.rw 0) (.lit 0), .ptr (.rw 1) (.lit 0), .ptr (.rw 2) (.lit 0), .ptr (.rw 3) (.lit 0), .int .i64 (.ofN (.var 6 i))]) (H := [some ⟨1, .of [.slice true (.ro (.var 3 k2)) (.lit 0) (.var 4 m)]⟩, some ⟨1, .of [.int .i64 (.var 11 lw)]⟩, some ⟨1, .of [.bool (.lit false)]⟩, some ⟨1, .of [.slice true (.rw 4) (.lit 0) (.var 5 (cntB (mtF G k n k2) i))]⟩, some ⟨1, .var 8 (wantL (mtF G k n k2) i)⟩]) (by simp) ?_
    rw [w_b]
    have cn := cntB_n (f := (mtF G k n k2)) i
    refine ⟨fun h => ?_, fun h => ?_⟩
    · have hin : i < m := by have := of_decide_eq_true h; omega
      obtain ⟨q1, q2, q3, q4, q5⟩ := pksB_at hp hin
      have same : (mtF G k n k2) i = false → ([some ⟨1, [.slice true (.ro k2) 0 m]⟩, some ⟨1, [.int .i64 lw]⟩, some ⟨1, [.bool false]⟩, some ⟨1, [.slice true (.rw 4) 0 (cntB (mtF G k n k2) i)]⟩, some ⟨1, wantL (mtF G k n k2) i⟩] : Hp) = [some ⟨1, [.slice true (.ro k2) 0 m]⟩, some ⟨1, [.int .i64 lw]⟩, some ⟨1, [.bool false]⟩, some ⟨1, [.slice true (.rw 4) 0 (cntB (mtF G k n k2) (i + 1))]⟩, some ⟨1, wantL (mtF G k n k2) (i + 1)⟩] := fun hf => by simp [cntB, wantL, hf]
      refine ⟨decide_eq_true (by omega), h, q1, fun h3 => ⟨decide_eq_true (by omega), h, q1, q2, hk, q5, fun hf => ?_, fun hf => ?_⟩, fun h3 => ?_⟩
      · have hf : (mtF G k n k2) i = true := hf
        refine ⟨leB_iff.2 (by omega), by rw [wantL_len]; exact Nat.beq_refl _, hin, .inr ?_⟩
        rw [i64_in (by omega)]
        have e1 : cntB (mtF G k n k2) (i + 1) = cntB (mtF G k n k2) i + 1 := by simp only [cntB, hf, if_true]
        have e2 : wantL (mtF G k n k2) (i + 1) = wantL (mtF G k n k2) i ++ [.int .i64 (i : Int)] := by simp only [wantL, hf, if_true]
        rw [e1, e2]
        have hb : ∀ x, bnds x (wantL (mtF G k n k2) i ++ [.int .i64 (i : Int)]) = true := fun x => by rw [← e2]; exact (wantL_bnds (i + 1)).1
        refine View.renM (m := 0) (F := [.slice true (.ro k) 0 n, .ptr (.rw 0) 0, .ptr (.rw 1) 0, .ptr (.rw 2) 0, .ptr (.rw 3) 0, .int .i64 ((i + 1 : Nat) : Int)]) (F' := [.slice true (.ro k) 0 n, .ptr (.rw 0) 0, .ptr (.rw 1) 0, .ptr (.rw 2) 0, .ptr (.rw 3) 0, .int .i64 ((i : Int) + 1)]) (H' := [some ⟨1, [.slice true (.ro k2) 0 m]⟩, some ⟨1, [.int .i64 lw]⟩, some ⟨1, [.bool false]⟩, some ⟨1, [.slice true (.rw 6) 0 (cntB (mtF G k n k2) i + 1)]⟩, none, some ⟨1, [.int .i64 (i : Int)]⟩, some ⟨1, wantL (mtF G k n k2) i ++ [.int .i64 (i : Int)]⟩]) (H := [some ⟨1, [.slice true (.ro k2) 0 m]⟩, some ⟨1, [.int .i64 lw]⟩, some ⟨1, [.bool false]⟩, some ⟨1, [.slice true (.rw 4) 0 (cntB (mtF G k n k2) i + 1)]⟩, some ⟨1, wantL (mtF G k n k2) i ++ [.int .i64 (i : Int)]⟩]) (θ := [0, 1, 2, 3, 6]) (by simp) (fun i hi => by omega) (by decide) ⟨⟨rfl, rfl⟩, ⟨rfl, rfl⟩, ⟨rfl, rfl⟩, ⟨rfl, rfl⟩, ⟨hb _, ?_⟩, trivial⟩ rfl ⟨rfl, rfl, rfl, rfl, rfl, rfl, trivial⟩
        rw [rens_flat _ _ (hb 0)]; rfl
      · have hf : (mtF G k n k2) i = false := hf
        exact ⟨hin, .inl ⟨by rw [i64_in (by omega)]; rfl, same hf⟩⟩
      · have hf : (mtF G k n k2) i = false := mtF_300 (show ¬ roN (G k2) i ≤ 300 from fun hh => absurd h3 (by rw [decide_eq_true (show ((roN (G k2) i : Nat) : Int) ≤ 300 by omega)]; decide))
        exact ⟨hin, .inl ⟨by rw [i64_in (by omega)]; rfl, same hf⟩⟩
    · have : i = m := by have := of_decide_eq_false h; omega
      subst this
      exact ⟨rfl, rfl, rfl⟩
  · rintro ex vs H' ⟨rfl, rfl, rfl⟩
    refine ⟨⟨⟨1, wantL (mtF G k n k2) m⟩, rfl, rfl, fun j v hj => ?_⟩, rfl, .inr ?_⟩
    · have hj : (G gw)[j]? = some v := hj
      rw [hgw] at hj
      have := (wantL_bnds (f := (mtF G k n k2)) (x := 0) m).2
      rw [norws_eq, List.all_eq_true] at this
      exact ⟨v, hj, this v (List.mem_of_getElem? hj), .rfl⟩
    · rw [hw]
      exact View.same (H := [some ⟨1, [.slice true (.ro k2) 0 m]⟩, some ⟨1, [.int .i64 lw]⟩, some ⟨1, [.bool false]⟩, some ⟨1, [.slice true (.ro gw) 0 (cntB (mtF G k n k2) m)]⟩]) (G := [none]) (by simp) (by simp [hpB, bnds, bnd]) ⟨⟨rfl, rfl⟩, ⟨rfl, rfl⟩, ⟨rfl, rfl⟩, ⟨rfl, rfl⟩, ⟨rfl, rfl⟩, trivial⟩
end Go.Am
