/-
  Filters: FilterPasses: a round of the law's loop over what passes.
-/
import Derived.Test.YtnkcfoicbkobbaaFpB
import Derived.Test.YtnkcfoicbkobbaaFlD
import Derived.Test.YtnkcfoicbkobbaaBase6
namespace Go.Am
open Go.Proofs
set_option maxRecDepth 100000
def HYd (k2 m gw wn k n g : EN) (lw tu c : EI) (rc rd l : EL) : DHp :=
  [some ⟨1, .of [.slice true (.ro k2) (.lit 0) m]⟩, some ⟨1, .of [.int .i64 lw]⟩, some ⟨1, .of [.bool (.lit false)]⟩, some ⟨1, .of [.slice true (.ro gw) (.lit 0) wn]⟩, some ⟨1, .of [.slice true (.ro k) (.lit 0) n]⟩, some ⟨1, .of [.slice true (.ro g) (.lit 0) m]⟩,
   some ⟨1, .of [.int .i64 tu]⟩, some ⟨1, .of [.int .i64 c]⟩, some ⟨4294967291, rc⟩, some ⟨1, .of [.yld 8]⟩, some ⟨1, .of [.slice true (.ro g) (.lit 0) m]⟩, some ⟨4294967291, rd⟩, some ⟨1, l⟩]
theorem f_b (G : Nat → List AV) (k2 m gw wn k n g pn j : Nat) (lw tu c : Int) (rc rd l : List AV) (Q : Ex → List AV → Hp → Prop) (R : AV → Hp → Prop) : vT G Q R (dloop (Dc Try.prog [] [] [] 0) 300 20 13 ((loopsOf (rgB (loopN Try.f7 2))).getD 0 .skip) 115 [5, 10, 11, 13, 14] [.ptr (.rw 1) (.lit 0), .ptr (.rw 6) (.lit 0), .ptr (.rw 7) (.lit 0), .slice true (.rw 12) (.lit 0) (.var 16 pn), .int .i64 (.ofN (.var 17 j))] (HYd (.var 3 k2) (.var 4 m) (.var 10 gw) (.var 12 wn) (.var 1 k) (.var 2 n) (.var 9 g) (.var 11 lw) (.var 13 tu) (.var 14 c) (.var 24 rc) (.var 25 rd) (.var 8 l))) = (
    (decide ((((j : Nat) : Int) : Int) < ((pn : Nat) : Int)) = true →
      decide ((0 : Int) ≤ ((j : Nat) : Int)) = true ∧
      decide ((((j : Nat) : Int) : Int) < ((pn : Nat) : Int)) = true ∧
      leB (j + 1) (List.length l) = true ∧
      Q .normal [.ptr (.rw 1) (0), .ptr (.rw 6) (0), .ptr (.rw 7) (0), .slice true (.rw 12) (0) (pn), .int .i64 (IntKind.wrap .i64 (((j : Nat) : Int) + 1))] [some ⟨1, ([.slice true (.ro (k2)) (0) (m)] : List AV)⟩, some ⟨1, ([.int .i64 (lw)] : List AV)⟩, some ⟨1, ([.bool (false)] : List AV)⟩, some ⟨1, ([.slice true (.ro (gw)) (0) (wn)] : List AV)⟩, some ⟨1, ([.slice true (.ro (k)) (0) (n)] : List AV)⟩, some ⟨1, ([.slice true (.ro (g)) (0) (m)] : List AV)⟩, some ⟨1, ([.int .i64 (tu)] : List AV)⟩, some ⟨1, ([.int .i64 (c)] : List AV)⟩, some ⟨4294967291, rc⟩, some ⟨1, ([.yld 8] : List AV)⟩, some ⟨1, ([.slice true (.ro (g)) (0) (m)] : List AV)⟩, some ⟨4294967291, rd⟩, some ⟨1, (setPart l (j) (.int .u8 (99)))⟩]) ∧
    (decide ((((j : Nat) : Int) : Int) < ((pn : Nat) : Int)) = false →
      Q (.exit 6) [.ptr (.rw 1) (0), .ptr (.rw 6) (0), .ptr (.rw 7) (0), .slice true (.rw 12) (0) (pn), .int .i64 (((j : Nat) : Int))] [some ⟨1, ([.slice true (.ro (k2)) (0) (m)] : List AV)⟩, some ⟨1, ([.int .i64 (lw)] : List AV)⟩, some ⟨1, ([.bool (false)] : List AV)⟩, some ⟨1, ([.slice true (.ro (gw)) (0) (wn)] : List AV)⟩, some ⟨1, ([.slice true (.ro (k)) (0) (n)] : List AV)⟩, some ⟨1, ([.slice true (.ro (g)) (0) (m)] : List AV)⟩, some ⟨1, ([.int .i64 (tu)] : List AV)⟩, some ⟨1, ([.int .i64 (c)] : List AV)⟩, some ⟨4294967291, rc⟩, some ⟨1, ([.yld 8] : List AV)⟩, some ⟨1, ([.slice true (.ro (g)) (0) (m)] : List AV)⟩, some ⟨4294967291, rd⟩, some ⟨1, l⟩])) := by kernel_rfl
def fillN (l : List AV) (n j : Nat) : List AV := List.replicate j (.int .u8 99) ++ l.drop j
theorem fillN_set {l : List AV} {n j : Nat} (hl : l.length = n) (hj : j < n) : setPart (fillN l n j) j (.int .u8 99) = fillN l n (j + 1) := by
  rw [show setPart (fillN l n j) j (.int .u8 99) = (fillN l n j).set j (.int .u8 99) from setPart_cell (by intro l h; cases h)]
  unfold fillN
  apply List.ext_getElem?
  intro i
  rw [List.getElem?_set]
  simp only [List.length_append, List.length_replicate, List.length_drop]
  by_cases hi : j = i
  · subst hi
    rw [if_pos rfl, if_pos (by omega), List.getElem?_append_left (by simp), List.getElem?_replicate, if_pos (by omega)]
  · rw [if_neg hi]
    by_cases h2 : i < j
    · rw [List.getElem?_append_left (by simpa using h2), List.getElem?_append_left (by simp; omega), List.getElem?_replicate, List.getElem?_replicate, if_pos h2, if_pos (by omega)]
    · rw [List.getElem?_append_right (by simp; omega), List.getElem?_append_right (by simp; omega)]
      simp only [List.length_replicate, List.getElem?_drop]
      congr 1; omega
theorem fill_loop (G : Nat → List AV) (B : Nat) (k2 m gw wn k n g pn : Nat) (lw tu c : Int) (rc rd l : List AV) (hl : l.length = pn) (hb : pn ≤ 1048576) :
    AWp (⟨Try.prog, G, B⟩ : Ctx) 13 (.loop ((loopsOf (rgB (loopN Try.f7 2))).getD 0 .skip)) (fl 115 [5, 10, 11, 13, 14] [.ptr (.rw 1) 0, .ptr (.rw 6) 0, .ptr (.rw 7) 0, .slice true (.rw 12) 0 pn, .int .i64 0]) (vHp G (HYd (.var 3 k2) (.var 4 m) (.var 10 gw) (.var 12 wn) (.var 1 k) (.var 2 n) (.var 9 g) (.var 11 lw) (.var 13 tu) (.var 14 c) (.var 24 rc) (.var 25 rd) (.var 8 l)))
      (lv 115 [5, 10, 11, 13, 14] (LOut.post G 13 (.one (.exit 6) [.ptr (.rw 1) (.lit 0), .ptr (.rw 6) (.lit 0), .ptr (.rw 7) (.lit 0), .undef, .undef] (HYd (.var 3 k2) (.var 4 m) (.var 10 gw) (.var 12 wn) (.var 1 k) (.var 2 n) (.var 9 g) (.var 11 lw) (.var 13 tu) (.var 14 c) (.var 24 rc) (.var 25 rd) (.rep (.var 16 pn) (.of [.int .u8 (.lit 99)])))))) := by
  have e0 : l = fillN l pn 0 := by simp [fillN]
  rw [e0]
  refine scan pn (fun j => [.ptr (.rw 1) 0, .ptr (.rw 6) 0, .ptr (.rw 7) 0, .slice true (.rw 12) 0 pn, .int .i64 (j : Int)]) (fun j => vHp G (HYd (.var 3 k2) (.var 4 m) (.var 10 gw) (.var 12 wn) (.var 1 k) (.var 2 n) (.var 9 g) (.var 11 lw) (.var 13 tu) (.var 14 c) (.var 24 rc) (.var 25 rd) (.var 8 (fillN l pn j)))) fun j hj => ?_
  refine dloop_ok (C := (⟨Try.prog, G, B⟩ : Ctx)) (dgF G B) (fuel := 300) (n0 := 20) (m := 13) (c := ((loopsOf (rgB (loopN Try.f7 2))).getD 0 .skip)) (vs := [.ptr (.rw 1) (.lit 0), .ptr (.rw 6) (.lit 0), .ptr (.rw 7) (.lit 0), .slice true (.rw 12) (.lit 0) (.var 16 pn), .int .i64 (.ofN (.var 17 j))]) (H := HYd (.var 3 k2) (.var 4 m) (.var 10 gw) (.var 12 wn) (.var 1 k) (.var 2 n) (.var 9 g) (.var 11 lw) (.var 13 tu) (.var 14 c) (.var 24 rc) (.var 25 rd) (.var 8 (fillN l pn j))) (by simp [HYd]) ?_
  rw [f_b]
  refine ⟨fun h => ?_, fun h => ?_⟩
  · have hj : j < pn := by have := of_decide_eq_true h; omega
    have hlen : (fillN l pn j).length = pn := by simp [fillN]; omega
    refine ⟨decide_eq_true (by omega), h, leB_iff.2 (by omega), hj, .inl ⟨by rw [i64_in (by omega)]; rfl, ?_⟩⟩
    rw [fillN_set hl hj]
    rfl
  · have : j = pn := by have := of_decide_eq_false h; omega
    subst this
    refine ⟨rfl, .inl ⟨by simp [wk, vVs, vV, vR, vN], ?_⟩⟩
    have e : fillN l j j = repL j [.int .u8 99] := by
      simp only [fillN, List.drop_of_length_le (Nat.le_of_eq hl), List.append_nil, repL]
      induction j with
      | zero => rfl
      | succ j ih => simp [List.replicate_succ] 
    rw [e]
    rfl
def fillL : DL := ⟨6, 115, [5, 10, 11, 13, 14], fun vs H => match vs, H with
  | [.ptr (.rw 1) (.lit 0), .ptr (.rw 6) (.lit 0), .ptr (.rw 7) (.lit 0), .slice true (.rw 12) (.lit 0) pn, .int .i64 (.lit 0)], [some ⟨1, .of [.slice true (.ro k2) (.lit 0) m]⟩, some ⟨1, .of [.int .i64 lw]⟩, some ⟨1, .of [.bool (.lit false)]⟩, some ⟨1, .of [.slice true (.ro gw) (.lit 0) wn]⟩, some ⟨1, .of [.slice true (.ro k) (.lit 0) n]⟩, some ⟨1, .of [.slice true (.ro g) (.lit 0) m']⟩,
   some ⟨1, .of [.int .i64 tu]⟩, some ⟨1, .of [.int .i64 c]⟩, some ⟨4294967291, rc⟩, some ⟨1, .of [.yld 8]⟩, some ⟨1, .of [.slice true (.ro g') (.lit 0) m2]⟩, some ⟨4294967291, rd⟩, some ⟨1, l⟩] =>
    some (.chk (.eqN (.len l) pn) (.chk (.leN pn (.lit 1048576)) (.chk (.eqN m m') (.chk (.eqN m m2) (.chk (.eqN g g') (.one (.exit 6) [.ptr (.rw 1) (.lit 0), .ptr (.rw 6) (.lit 0), .ptr (.rw 7) (.lit 0), .undef, .undef] (HYd k2 m gw wn k n g lw tu c rc rd (.rep pn (.of [.int .u8 (.lit 99)])))))))))
  | _, _ => none⟩
theorem fillL_ok (G : Nat → List AV) (B : Nat) : DLoopOk (⟨Try.prog, G, B⟩ : Ctx) 13 ((loopsOf (rgB (loopN Try.f7 2))).getD 0 .skip) fillL := by
  refine .of fun vs H o ho n Q hQ => ?_
  simp only [fillL] at ho
  split at ho
  · rename_i pn k2 m lw gw wn k n g m' tu c rc g' m2 rd l
    simp only [Option.some.injEq] at ho
    subst ho
    obtain ⟨h1, h2, h3, h4, h5, h6⟩ := hQ
    have h1 : (vL G l).length = vN G pn := Nat.eq_of_beq_eq_true h1
    have h2 : vN G pn ≤ 1048576 := leB_iff.1 h2
    have h3 : vN G m = vN G m' := Nat.eq_of_beq_eq_true h3
    have h4 : vN G m = vN G m2 := Nat.eq_of_beq_eq_true h4
    have h5 : vN G g = vN G g' := Nat.eq_of_beq_eq_true h5
    have key := fill_loop G B (vN G k2) (vN G m) (vN G gw) (vN G wn) (vN G k) (vN G n) (vN G g) (vN G pn) (vI G lw) (vI G tu) (vI G c) (vL G rc) (vL G rd) (vL G l) h1 h2
    simp only [fillL, vVs, vV, vR, vN, vI, vB, vHp, List.map_cons, List.map_nil, Option.map_some, vBlk, vL, HYd, ← h3, ← h4, ← h5] at key h6 ⊢
    refine key.lmono ?_
    rintro e vs'' H'' ⟨rfl, hv⟩
    rcases hv with ⟨q1, rfl⟩ | hv
    · exact .inl ⟨_, q1, h6⟩
    · exact .inr ⟨_, _, hv, h6⟩
  · simp at ho
theorem y_as (G : Nat → List AV) (k2 m gw wn k n g pn : Nat) (lw tu c x : Int) (rc rd l : List AV) (Q : Ex → List AV → Hp → Prop) (R : AV → Hp → Prop) : vT G Q R (dloop (Dc Try.prog [] [] [fillL] 13) 300 20 13 (rgA (loopN Try.f7 2)) 115 [4, 5, 6, 7, 9, 10, 11, 57, 58, 59, 12, 13] [.ptr (.rw 0) (.lit 0), .ptr (.rw 1) (.lit 0), .ptr (.rw 2) (.lit 0), .ptr (.rw 3) (.lit 0), .func 37 [.ptr (.rw 5) (.lit 0), .ptr (.rw 4) (.lit 0)], .ptr (.rw 6) (.lit 0), .ptr (.rw 7) (.lit 0), .func 37 [.ptr (.rw 5) (.lit 0), .ptr (.rw 4) (.lit 0)], .int .i64 (.var 15 x), .slice true (.rw 12) (.lit 0) (.var 16 pn), .undef, .undef] (HYd (.var 3 k2) (.var 4 m) (.var 10 gw) (.var 12 wn) (.var 1 k) (.var 2 n) (.var 9 g) (.var 11 lw) (.var 13 tu) (.var 14 c) (.var 24 rc) (.var 25 rd) (.var 8 l))) = (
    Q .normal [.ptr (.rw 0) (0), .ptr (.rw 1) (0), .ptr (.rw 2) (0), .ptr (.rw 3) (0), .func 37 [.ptr (.rw 5) (0), .ptr (.rw 4) (0)], .ptr (.rw 6) (0), .ptr (.rw 7) (0), .func 37 [.ptr (.rw 5) (0), .ptr (.rw 4) (0)], .int .i64 (x), .slice true (.rw 12) (0) (pn), .int .i64 (x), .slice true (.rw 12) (0) (pn)] [some ⟨1, ([.slice true (.ro (k2)) (0) (m)] : List AV)⟩, some ⟨1, ([.int .i64 (lw)] : List AV)⟩, some ⟨1, ([.bool (false)] : List AV)⟩, some ⟨1, ([.slice true (.ro (gw)) (0) (wn)] : List AV)⟩, some ⟨1, ([.slice true (.ro (k)) (0) (n)] : List AV)⟩, some ⟨1, ([.slice true (.ro (g)) (0) (m)] : List AV)⟩, some ⟨1, ([.int .i64 (tu)] : List AV)⟩, some ⟨1, ([.int .i64 (c)] : List AV)⟩, some ⟨4294967291, rc⟩, some ⟨1, ([.yld 8] : List AV)⟩, some ⟨1, ([.slice true (.ro (g)) (0) (m)] : List AV)⟩, some ⟨4294967291, rd⟩, some ⟨1, l⟩]) := by kernel_rfl
theorem y_bd (G : Nat → List AV) (k2 m gw wn k n g pn : Nat) (lw tu c x : Int) (rc rd l : List AV) (Q : Ex → List AV → Hp → Prop) (R : AV → Hp → Prop) : vT G Q R (dloop (Dc Try.prog [] [] [fillL] 13) 400 20 13 (rgB (loopN Try.f7 2)) 115 [4, 5, 6, 7, 9, 10, 11, 57, 58, 59, 12, 13] [.ptr (.rw 0) (.lit 0), .ptr (.rw 1) (.lit 0), .ptr (.rw 2) (.lit 0), .ptr (.rw 3) (.lit 0), .func 37 [.ptr (.rw 5) (.lit 0), .ptr (.rw 4) (.lit 0)], .ptr (.rw 6) (.lit 0), .ptr (.rw 7) (.lit 0), .func 37 [.ptr (.rw 5) (.lit 0), .ptr (.rw 4) (.lit 0)], .int .i64 (.var 15 x), .slice true (.rw 12) (.lit 0) (.var 16 pn), .int .i64 (.var 15 x), .slice true (.rw 12) (.lit 0) (.var 16 pn)] (HYd (.var 3 k2) (.var 4 m) (.var 10 gw) (.var 12 wn) (.var 1 k) (.var 2 n) (.var 9 g) (.var 11 lw) (.var 13 tu) (.var 14 c) (.var 24 rc) (.var 25 rd) (.var 8 l))) = (
    (decide ((c : Int) ≥ ((wn : Nat) : Int)) = true →
      Q .ret [.ptr (.rw 0) (0), .ptr (.rw 1) (0), .ptr (.rw 2) (0), .ptr (.rw 3) (0), .func 37 [.ptr (.rw 5) (0), .ptr (.rw 4) (0)], .ptr (.rw 6) (0), .ptr (.rw 7) (0), .func 37 [.ptr (.rw 5) (0), .ptr (.rw 4) (0)], .int .i64 (x), .slice true (.rw 12) (0) (pn), .int .i64 (x), .slice true (.rw 12) (0) (pn)] [some ⟨1, ([.slice true (.ro (k2)) (0) (m)] : List AV)⟩, some ⟨1, ([.int .i64 (lw)] : List AV)⟩, some ⟨1, ([.bool (false)] : List AV)⟩, some ⟨1, ([.slice true (.ro (gw)) (0) (wn)] : List AV)⟩, some ⟨1, ([.slice true (.ro (k)) (0) (n)] : List AV)⟩, some ⟨1, ([.slice true (.ro (g)) (0) (m)] : List AV)⟩, some ⟨1, ([.int .i64 (tu)] : List AV)⟩, some ⟨1, ([.int .i64 (c)] : List AV)⟩, some ⟨4294967291, rc⟩, some ⟨1, ([.yld 8] : List AV)⟩, some ⟨1, ([.slice true (.ro (g)) (0) (m)] : List AV)⟩, some ⟨4294967291, rd⟩, some ⟨1, l⟩]) ∧
    (decide ((c : Int) ≥ ((wn : Nat) : Int)) = false →
      decide ((0 : Int) ≤ c) = true ∧
      decide ((c : Int) < ((wn : Nat) : Int)) = true ∧
      isI .i64 (G (gw)) (Int.toNat (c)) = true ∧
      (((x : Int) == getI (G (gw)) (Int.toNat (c))) = true →
        leB (pn) (List.length l) = true ∧
        u8s (subL l (0) (pn)) = true ∧
        decide ((0 : Int) ≤ x) = true ∧
        decide ((x : Int) < ((m : Nat) : Int)) = true ∧
        isRS (G (k2)) (Int.toNat (x)) = true ∧
        leB (roO (G (k2)) (Int.toNat (x)) + roN (G (k2)) (Int.toNat (x))) (List.length (G (roK (G (k2)) (Int.toNat (x))))) = true ∧
        u8s (subL (G (roK (G (k2)) (Int.toNat (x)))) (roO (G (k2)) (Int.toNat (x))) (roN (G (k2)) (Int.toNat (x)))) = true ∧
        ((((strL (subL l (0) (pn))) : List UInt8) == (strL (subL (G (roK (G (k2)) (Int.toNat (x)))) (roO (G (k2)) (Int.toNat (x))) (roN (G (k2)) (Int.toNat (x)))))) = true →
          Nat.beq (List.length l) (pn) = true ∧
          leB (pn) (1048576) = true ∧
          Nat.beq (m) (m) = true ∧
          Nat.beq (m) (m) = true ∧
          Nat.beq (g) (g) = true ∧
          (((tu : Int) == 0) = true →
            (((IntKind.wrap .i64 (c + 1) : Int) == lw) = true →
              Q (.exit 4) [.undef, .ptr (.rw 1) (0), .undef, .undef, .undef, .ptr (.rw 6) (0), .ptr (.rw 7) (0), .undef, .undef, .undef, .undef, .undef] [some ⟨1, ([.slice true (.ro (k2)) (0) (m)] : List AV)⟩, some ⟨1, ([.int .i64 (lw)] : List AV)⟩, some ⟨1, ([.bool (false)] : List AV)⟩, some ⟨1, ([.slice true (.ro (gw)) (0) (wn)] : List AV)⟩, some ⟨1, ([.slice true (.ro (k)) (0) (n)] : List AV)⟩, some ⟨1, ([.slice true (.ro (g)) (0) (m)] : List AV)⟩, some ⟨1, ([.int .i64 (tu)] : List AV)⟩, some ⟨1, ([.int .i64 (IntKind.wrap .i64 (c + 1))] : List AV)⟩, some ⟨4294967291, rc⟩, some ⟨1, ([.yld 8] : List AV)⟩, some ⟨1, ([.slice true (.ro (g)) (0) (m)] : List AV)⟩, some ⟨4294967291, rd⟩, some ⟨1, (repL (pn) ([.int .u8 (99)] : List AV))⟩]) ∧
            (((IntKind.wrap .i64 (c + 1) : Int) == lw) = false →
              Q .normal [.undef, .ptr (.rw 1) (0), .undef, .undef, .undef, .ptr (.rw 6) (0), .ptr (.rw 7) (0), .undef, .undef, .undef, .undef, .undef] [some ⟨1, ([.slice true (.ro (k2)) (0) (m)] : List AV)⟩, some ⟨1, ([.int .i64 (lw)] : List AV)⟩, some ⟨1, ([.bool (false)] : List AV)⟩, some ⟨1, ([.slice true (.ro (gw)) (0) (wn)] : List AV)⟩, some ⟨1, ([.slice true (.ro (k)) (0) (n)] : List AV)⟩, some ⟨1, ([.slice true (.ro (g)) (0) (m)] : List AV)⟩, some ⟨1, ([.int .i64 (tu)] : List AV)⟩, some ⟨1, ([.int .i64 (IntKind.wrap .i64 (c + 1))] : List AV)⟩, some ⟨4294967291, rc⟩, some ⟨1, ([.yld 8] : List AV)⟩, some ⟨1, ([.slice true (.ro (g)) (0) (m)] : List AV)⟩, some ⟨4294967291, rd⟩, some ⟨1, (repL (pn) ([.int .u8 (99)] : List AV))⟩])) ∧
          (((tu : Int) == 0) = false →
            Q .normal [.undef, .ptr (.rw 1) (0), .undef, .undef, .undef, .ptr (.rw 6) (0), .ptr (.rw 7) (0), .undef, .undef, .undef, .undef, .undef] [some ⟨1, ([.slice true (.ro (k2)) (0) (m)] : List AV)⟩, some ⟨1, ([.int .i64 (lw)] : List AV)⟩, some ⟨1, ([.bool (false)] : List AV)⟩, some ⟨1, ([.slice true (.ro (gw)) (0) (wn)] : List AV)⟩, some ⟨1, ([.slice true (.ro (k)) (0) (n)] : List AV)⟩, some ⟨1, ([.slice true (.ro (g)) (0) (m)] : List AV)⟩, some ⟨1, ([.int .i64 (tu)] : List AV)⟩, some ⟨1, ([.int .i64 (IntKind.wrap .i64 (c + 1))] : List AV)⟩, some ⟨4294967291, rc⟩, some ⟨1, ([.yld 8] : List AV)⟩, some ⟨1, ([.slice true (.ro (g)) (0) (m)] : List AV)⟩, some ⟨4294967291, rd⟩, some ⟨1, (repL (pn) ([.int .u8 (99)] : List AV))⟩])) ∧
        ((((strL (subL l (0) (pn))) : List UInt8) == (strL (subL (G (roK (G (k2)) (Int.toNat (x)))) (roO (G (k2)) (Int.toNat (x))) (roN (G (k2)) (Int.toNat (x)))))) = false →
          Q .ret [.ptr (.rw 0) (0), .ptr (.rw 1) (0), .ptr (.rw 2) (0), .ptr (.rw 3) (0), .func 37 [.ptr (.rw 5) (0), .ptr (.rw 4) (0)], .ptr (.rw 6) (0), .ptr (.rw 7) (0), .func 37 [.ptr (.rw 5) (0), .ptr (.rw 4) (0)], .int .i64 (x), .slice true (.rw 12) (0) (pn), .int .i64 (x), .slice true (.rw 12) (0) (pn)] [some ⟨1, ([.slice true (.ro (k2)) (0) (m)] : List AV)⟩, some ⟨1, ([.int .i64 (lw)] : List AV)⟩, some ⟨1, ([.bool (false)] : List AV)⟩, some ⟨1, ([.slice true (.ro (gw)) (0) (wn)] : List AV)⟩, some ⟨1, ([.slice true (.ro (k)) (0) (n)] : List AV)⟩, some ⟨1, ([.slice true (.ro (g)) (0) (m)] : List AV)⟩, some ⟨1, ([.int .i64 (tu)] : List AV)⟩, some ⟨1, ([.int .i64 (c)] : List AV)⟩, some ⟨4294967291, rc⟩, some ⟨1, ([.yld 8] : List AV)⟩, some ⟨1, ([.slice true (.ro (g)) (0) (m)] : List AV)⟩, some ⟨4294967291, rd⟩, some ⟨1, l⟩])) ∧
      (((x : Int) == getI (G (gw)) (Int.toNat (c))) = false →
        Q .ret [.ptr (.rw 0) (0), .ptr (.rw 1) (0), .ptr (.rw 2) (0), .ptr (.rw 3) (0), .func 37 [.ptr (.rw 5) (0), .ptr (.rw 4) (0)], .ptr (.rw 6) (0), .ptr (.rw 7) (0), .func 37 [.ptr (.rw 5) (0), .ptr (.rw 4) (0)], .int .i64 (x), .slice true (.rw 12) (0) (pn), .int .i64 (x), .slice true (.rw 12) (0) (pn)] [some ⟨1, ([.slice true (.ro (k2)) (0) (m)] : List AV)⟩, some ⟨1, ([.int .i64 (lw)] : List AV)⟩, some ⟨1, ([.bool (false)] : List AV)⟩, some ⟨1, ([.slice true (.ro (gw)) (0) (wn)] : List AV)⟩, some ⟨1, ([.slice true (.ro (k)) (0) (n)] : List AV)⟩, some ⟨1, ([.slice true (.ro (g)) (0) (m)] : List AV)⟩, some ⟨1, ([.int .i64 (tu)] : List AV)⟩, some ⟨1, ([.int .i64 (c)] : List AV)⟩, some ⟨4294967291, rc⟩, some ⟨1, ([.yld 8] : List AV)⟩, some ⟨1, ([.slice true (.ro (g)) (0) (m)] : List AV)⟩, some ⟨4294967291, rd⟩, some ⟨1, l⟩]))) := by kernel_rfl
def F0y : Fr := fl 115 [4, 5, 6, 7, 9, 10, 11, 57] [.ptr (.rw 0) 0, .ptr (.rw 1) 0, .ptr (.rw 2) 0, .ptr (.rw 3) 0, .func 37 [.ptr (.rw 5) 0, .ptr (.rw 4) 0], .ptr (.rw 6) 0, .ptr (.rw 7) 0, .func 37 [.ptr (.rw 5) 0, .ptr (.rw 4) 0]]
noncomputable def rcY (q : Nat) : List AV := rcA (loopN Try.f7 2) q F0y
theorem rcY_ok (q : Nat) : bnds 13 (rcY q) = true := by kernel_rfl
/-- is the round left? -/
def brkB (tu lw : Int) (c : Nat) : Bool := (tu == 0) && ((c : Int) + 1 == lw)
theorem strL_len {l : List AV} : (strL l).length = l.length := by simp [strL]
theorem subL_sub {l : List AV} {n : Nat} : subL (subL l 0 n) 0 n = subL l 0 n := by
  simp [subL, List.take_take]
theorem okI_u8s {l : List AV} {n : Nat} (h : okI .u8 l 0 n = true) : u8s (subL l 0 n) = true := by
  unfold u8s subL
  rw [List.drop_zero, List.all_eq_true]
  intro v hv
  obtain ⟨j, hj, e⟩ := List.getElem_of_mem hv
  have hj' : j < n := by rw [List.length_take] at hj; omega
  have := okI_get h (j := j) hj'
  rw [Nat.zero_add] at this
  unfold isI at this
  rw [List.getElem_take] at e
  have hjc : j < l.length := by rw [List.length_take] at hj; omega
  rw [List.getElem?_eq_getElem hjc, e] at this
  cases v <;> simp at this
  subst this; rfl
end Go.Am
