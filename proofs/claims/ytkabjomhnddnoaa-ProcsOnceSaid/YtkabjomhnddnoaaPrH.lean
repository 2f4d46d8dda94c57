/-
  Processes: the program's Wait.
-/
import Derived.Test.YtkabjomhnddnoaaPrG
namespace Go.Am
open Go.Proofs Crc
set_option maxRecDepth 100000
theorem w_b (G : Nat → List AV) (tb sl ks : List AV) (w : Int) (c i : Nat) (wb : Bool) (Q : Ex → List AV → Hp → Prop) (R : AV → Hp → Prop) : vT G Q R (dloop (Dc Try.prog [] [] [] 0) 300 40 14 (loopN Try.f13 0) 67 [0, 2, 6, 7, 8, 9, 32, 33, 34] [.ptr (.rw 0) (.lit 0), .int .i64 (.var 4 w), .int .i64 (.lit 0), .int .i64 (.lit 0), .bool (.var 7 wb), .int .i64 (.lit 0), .slice true (.rw 14) (.lit 0) (.var 6 c), .int .i64 (.ofN (.var 6 c)), .int .i64 (.ofN (.var 8 i))] [some ⟨1, .var 1 tb⟩, some ⟨1, .row (.var 2 sl) (.lit 0)⟩, some ⟨1, .row (.var 2 sl) (.lit 1)⟩, some ⟨1, .row (.var 2 sl) (.lit 2)⟩, some ⟨1, .row (.var 2 sl) (.lit 3)⟩, some ⟨1, .row (.var 2 sl) (.lit 4)⟩, some ⟨1, .row (.var 2 sl) (.lit 5)⟩, some ⟨1, .row (.var 2 sl) (.lit 6)⟩, some ⟨1, .row (.var 2 sl) (.lit 7)⟩, some ⟨1, .row (.var 2 sl) (.lit 8)⟩, some ⟨1, .row (.var 2 sl) (.lit 9)⟩, some ⟨1, .row (.var 2 sl) (.lit 10)⟩, some ⟨1, .row (.var 2 sl) (.lit 11)⟩, some ⟨1, .row (.var 2 sl) (.lit 12)⟩, some ⟨1, .var 22 ks⟩]) = (
    (decide ((((i : Nat) : Int) : Int) < ((c : Nat) : Int)) = true →
      decide ((0 : Int) ≤ ((i : Nat) : Int)) = true ∧
      decide ((((i : Nat) : Int) : Int) < ((c : Nat) : Int)) = true ∧
      isI .i64 ks (i) = true ∧
      (((w : Int) == (-1)) = true →
        decide ((0 : Int) ≤ getI ks (i)) = true ∧
        decide ((getI ks (i) : Int) < 13) = true ∧
        leB ((Int.toNat (getI ks (i))) * 7 + 8) (List.length tb) = true ∧
        cellsB (subL tb ((Int.toNat (getI ks (i))) * 7 + 1) (7)) = true ∧
        Nat.beq (List.length (subL tb ((Int.toNat (getI ks (i))) * 7 + 1) (7))) (7) = true ∧
        isB (subL tb ((Int.toNat (getI ks (i))) * 7 + 1) (7)) (4) = true ∧
        (getB (subL tb ((Int.toNat (getI ks (i))) * 7 + 1) (7)) (4) = true →
          decide ((0 : Int) ≤ getI ks (i)) = true ∧
          decide ((getI ks (i) : Int) < 13) = true ∧
          leB ((Int.toNat (getI ks (i))) * 7 + 8) (List.length tb) = true ∧
          isI .i64 (subL tb ((Int.toNat (getI ks (i))) * 7 + 1) (7)) (5) = true ∧
        Q .ret [.ptr (.rw 0) (0), .int .i64 (w), .int .i64 (getI ks (i)), .int .i64 (getI (subL tb ((Int.toNat (getI ks (i))) * 7 + 1) (7)) (5)), .bool (false), .int .i64 (0), .slice true (.rw 14) (0) (c), .int .i64 (((c : Nat) : Int)), .int .i64 (((i : Nat) : Int))] ([some ⟨1, (setPart tb ((Int.toNat (getI ks (i))) * 7 + 1) (.agg ([.int .i64 (0), .int .i64 (0), .int .i64 (0), .int .i64 (0), .bool (false), .int .i64 (0), .nilp] : List AV)))⟩] ++ (rows13 sl ++ [some ⟨1, ks⟩, some ⟨1, (subL tb ((Int.toNat (getI ks (i))) * 7 + 1) (7))⟩]))) ∧
        (getB (subL tb ((Int.toNat (getI ks (i))) * 7 + 1) (7)) (4) = false →
        Q .normal [.ptr (.rw 0) (0), .int .i64 (w), .int .i64 (0), .int .i64 (0), .bool (true), .int .i64 (0), .slice true (.rw 14) (0) (c), .int .i64 (((c : Nat) : Int)), .int .i64 (IntKind.wrap .i64 (((i : Nat) : Int) + 1))] ([some ⟨1, tb⟩] ++ (rows13 sl ++ [some ⟨1, ks⟩, some ⟨1, (subL tb ((Int.toNat (getI ks (i))) * 7 + 1) (7))⟩])))) ∧
      (((w : Int) == (-1)) = false →
        (((w : Int) == getI ks (i)) = true →
          decide ((0 : Int) ≤ getI ks (i)) = true ∧
          decide ((getI ks (i) : Int) < 13) = true ∧
          leB ((Int.toNat (getI ks (i))) * 7 + 8) (List.length tb) = true ∧
          cellsB (subL tb ((Int.toNat (getI ks (i))) * 7 + 1) (7)) = true ∧
          Nat.beq (List.length (subL tb ((Int.toNat (getI ks (i))) * 7 + 1) (7))) (7) = true ∧
          isB (subL tb ((Int.toNat (getI ks (i))) * 7 + 1) (7)) (4) = true ∧
          (getB (subL tb ((Int.toNat (getI ks (i))) * 7 + 1) (7)) (4) = true →
            decide ((0 : Int) ≤ getI ks (i)) = true ∧
            decide ((getI ks (i) : Int) < 13) = true ∧
            leB ((Int.toNat (getI ks (i))) * 7 + 8) (List.length tb) = true ∧
            isI .i64 (subL tb ((Int.toNat (getI ks (i))) * 7 + 1) (7)) (5) = true ∧
        Q .ret [.ptr (.rw 0) (0), .int .i64 (w), .int .i64 (getI ks (i)), .int .i64 (getI (subL tb ((Int.toNat (getI ks (i))) * 7 + 1) (7)) (5)), .bool (false), .int .i64 (0), .slice true (.rw 14) (0) (c), .int .i64 (((c : Nat) : Int)), .int .i64 (((i : Nat) : Int))] ([some ⟨1, (setPart tb ((Int.toNat (getI ks (i))) * 7 + 1) (.agg ([.int .i64 (0), .int .i64 (0), .int .i64 (0), .int .i64 (0), .bool (false), .int .i64 (0), .nilp] : List AV)))⟩] ++ (rows13 sl ++ [some ⟨1, ks⟩, some ⟨1, (subL tb ((Int.toNat (getI ks (i))) * 7 + 1) (7))⟩]))) ∧
          (getB (subL tb ((Int.toNat (getI ks (i))) * 7 + 1) (7)) (4) = false →
        Q .normal [.ptr (.rw 0) (0), .int .i64 (w), .int .i64 (0), .int .i64 (0), .bool (true), .int .i64 (0), .slice true (.rw 14) (0) (c), .int .i64 (((c : Nat) : Int)), .int .i64 (IntKind.wrap .i64 (((i : Nat) : Int) + 1))] ([some ⟨1, tb⟩] ++ (rows13 sl ++ [some ⟨1, ks⟩, some ⟨1, (subL tb ((Int.toNat (getI ks (i))) * 7 + 1) (7))⟩])))) ∧
        (((w : Int) == getI ks (i)) = false →
        Q .normal [.ptr (.rw 0) (0), .int .i64 (w), .int .i64 (0), .int .i64 (0), .bool (wb), .int .i64 (0), .slice true (.rw 14) (0) (c), .int .i64 (((c : Nat) : Int)), .int .i64 (IntKind.wrap .i64 (((i : Nat) : Int) + 1))] ([some ⟨1, tb⟩] ++ (rows13 sl ++ [some ⟨1, ks⟩]))))) ∧
    (decide ((((i : Nat) : Int) : Int) < ((c : Nat) : Int)) = false →
      Q (.exit 0) [.ptr (.rw 0) (0), .int .i64 (w), .int .i64 (0), .int .i64 (0), .bool (wb), .int .i64 (0), .slice true (.rw 14) (0) (c), .int .i64 (((c : Nat) : Int)), .int .i64 (((i : Nat) : Int))] ([some ⟨1, tb⟩] ++ (rows13 sl ++ [some ⟨1, ks⟩])))) := by kernel_rfl
theorem w_c (G : Nat → List AV) (k15 k14 rl : List AV → Bool) (tb sl ks tf : List AV) (n w fc fs : Int) (c : Nat) (fb wb : Bool) (Q : Ex → List AV → Hp → Prop) (R : AV → Hp → Prop) : vT G Q R (dcall (Dc Try.prog [36, 38, 39, 20] [(31, kidsQ k15 k14)] [DLat 2320 (rl) 0 67 [0, 2, 6, 7, 8, 9, 32, 33, 34] (.tst (.var 9 fb) (.one .ret [.undef, .undef, .int .i64 (.var 10 fc), .int .i64 (.var 11 fs), .bool (.lit false), .int .i64 (.lit 0), .undef, .undef, .undef] [some ⟨1, .var 21 tf⟩, some ⟨1, .row (.var 2 sl) (.lit 0)⟩, some ⟨1, .row (.var 2 sl) (.lit 1)⟩, some ⟨1, .row (.var 2 sl) (.lit 2)⟩, some ⟨1, .row (.var 2 sl) (.lit 3)⟩, some ⟨1, .row (.var 2 sl) (.lit 4)⟩, some ⟨1, .row (.var 2 sl) (.lit 5)⟩, some ⟨1, .row (.var 2 sl) (.lit 6)⟩, some ⟨1, .row (.var 2 sl) (.lit 7)⟩, some ⟨1, .row (.var 2 sl) (.lit 8)⟩, some ⟨1, .row (.var 2 sl) (.lit 9)⟩, some ⟨1, .row (.var 2 sl) (.lit 10)⟩, some ⟨1, .row (.var 2 sl) (.lit 11)⟩, some ⟨1, .row (.var 2 sl) (.lit 12)⟩, some ⟨1, .var 22 ks⟩]) (.one (.exit 0) [.undef, .undef, .int .i64 (.lit 0), .int .i64 (.lit 0), .bool (.var 7 wb), .int .i64 (.lit 0), .undef, .undef, .undef] [some ⟨1, .var 1 tb⟩, some ⟨1, .row (.var 2 sl) (.lit 0)⟩, some ⟨1, .row (.var 2 sl) (.lit 1)⟩, some ⟨1, .row (.var 2 sl) (.lit 2)⟩, some ⟨1, .row (.var 2 sl) (.lit 3)⟩, some ⟨1, .row (.var 2 sl) (.lit 4)⟩, some ⟨1, .row (.var 2 sl) (.lit 5)⟩, some ⟨1, .row (.var 2 sl) (.lit 6)⟩, some ⟨1, .row (.var 2 sl) (.lit 7)⟩, some ⟨1, .row (.var 2 sl) (.lit 8)⟩, some ⟨1, .row (.var 2 sl) (.lit 9)⟩, some ⟨1, .row (.var 2 sl) (.lit 10)⟩, some ⟨1, .row (.var 2 sl) (.lit 11)⟩, some ⟨1, .row (.var 2 sl) (.lit 12)⟩, some ⟨1, .var 22 ks⟩]))] 14) 300 40 Try.f13 [.ptr (.rw 0) (.lit 0), .int .i64 (.var 3 n), .int .i64 (.var 4 w)] [some ⟨1, .var 1 tb⟩, some ⟨1, .row (.var 2 sl) (.lit 0)⟩, some ⟨1, .row (.var 2 sl) (.lit 1)⟩, some ⟨1, .row (.var 2 sl) (.lit 2)⟩, some ⟨1, .row (.var 2 sl) (.lit 3)⟩, some ⟨1, .row (.var 2 sl) (.lit 4)⟩, some ⟨1, .row (.var 2 sl) (.lit 5)⟩, some ⟨1, .row (.var 2 sl) (.lit 6)⟩, some ⟨1, .row (.var 2 sl) (.lit 7)⟩, some ⟨1, .row (.var 2 sl) (.lit 8)⟩, some ⟨1, .row (.var 2 sl) (.lit 9)⟩, some ⟨1, .row (.var 2 sl) (.lit 10)⟩, some ⟨1, .row (.var 2 sl) (.lit 11)⟩, some ⟨1, .row (.var 2 sl) (.lit 12)⟩] 14) = (
    isB tb (0) = true ∧
    (getB tb (0) = true →
      isB tb (0) = true ∧
      getB tb (0) = true ∧
      (decide ((n : Int) ≥ 1) = true →
        (decide ((n : Int) ≤ 12) = true →
          decide ((0 : Int) ≤ n) = true ∧
          decide ((n : Int) < 13) = true ∧
          isI .i64 tb ((Int.toNat (n)) * 7 + 1) = true ∧
          (((getI tb ((Int.toNat (n)) * 7 + 1) : Int) == n) = true →
            decide ((0 : Int) ≤ n) = true ∧
            decide ((n : Int) < 13) = true ∧
            isB tb ((Int.toNat (n)) * 7 + 5) = true ∧
            (getB tb ((Int.toNat (n)) * 7 + 5) = true →
        R (.tup [.int .i64 (0), .int .i64 (0), .bool (false), .int .i64 (6)]) ([some ⟨1, tb⟩] ++ rows13 sl)) ∧
            (getB tb ((Int.toNat (n)) * 7 + 5) = false →
              (((w : Int) == (-1)) = true →
                rowsA sl [.agg sl, .agg sl, .agg sl, .agg sl, .agg sl, .agg sl, .agg sl, .agg sl, .agg sl, .agg sl, .agg sl, .agg sl, .agg sl] = true ∧
                k14 [.agg tb, .agg sl] = true ∧
                (rl) [.agg ([.ptr (.rw 0) (0), .int .i64 (w), .int .i64 (0), .int .i64 (0), .bool (false), .int .i64 (0), .slice true (.rw 14) (0) (kidNU [.agg tb, .int .i64 (n)]), .int .i64 (((kidNU [.agg tb, .int .i64 (n)] : Nat) : Int)), .int .i64 (0)] : List AV), .agg ([.tup [.int .i64 (1), .agg tb], .tup [.int .i64 (1), .agg (rowA sl (0))], .tup [.int .i64 (1), .agg (rowA sl (1))], .tup [.int .i64 (1), .agg (rowA sl (2))], .tup [.int .i64 (1), .agg (rowA sl (3))], .tup [.int .i64 (1), .agg (rowA sl (4))], .tup [.int .i64 (1), .agg (rowA sl (5))], .tup [.int .i64 (1), .agg (rowA sl (6))], .tup [.int .i64 (1), .agg (rowA sl (7))], .tup [.int .i64 (1), .agg (rowA sl (8))], .tup [.int .i64 (1), .agg (rowA sl (9))], .tup [.int .i64 (1), .agg (rowA sl (10))], .tup [.int .i64 (1), .agg (rowA sl (11))], .tup [.int .i64 (1), .agg (rowA sl (12))], .tup [.int .i64 (1), .agg (kidLU [.agg tb, .int .i64 (n)])]] : List AV)] = true ∧
                (fb = true →
        R (.tup [.int .i64 (fc), .int .i64 (fs), .bool (false), .int .i64 (0)]) ([some ⟨1, tf⟩] ++ rows13 sl)) ∧
                (fb = false →
                  (wb = true →
        R (.tup [.int .i64 (0), .int .i64 (0), .bool (true), .int .i64 (0)]) ([some ⟨1, tb⟩] ++ rows13 sl)) ∧
                  (wb = false →
        R (.tup [.int .i64 (0), .int .i64 (0), .bool (false), .int .i64 (6)]) ([some ⟨1, tb⟩] ++ rows13 sl)))) ∧
              (((w : Int) == (-1)) = false →
                (decide ((w : Int) < 1) = true →
        R (.tup [.int .i64 (0), .int .i64 (0), .bool (false), .int .i64 (2)]) ([some ⟨1, tb⟩] ++ rows13 sl)) ∧
                (decide ((w : Int) < 1) = false →
                  (decide ((w : Int) > 12) = true →
        R (.tup [.int .i64 (0), .int .i64 (0), .bool (false), .int .i64 (2)]) ([some ⟨1, tb⟩] ++ rows13 sl)) ∧
                  (decide ((w : Int) > 12) = false →
                    rowsA sl [.agg sl, .agg sl, .agg sl, .agg sl, .agg sl, .agg sl, .agg sl, .agg sl, .agg sl, .agg sl, .agg sl, .agg sl, .agg sl] = true ∧
                    k14 [.agg tb, .agg sl] = true ∧
                    (rl) [.agg ([.ptr (.rw 0) (0), .int .i64 (w), .int .i64 (0), .int .i64 (0), .bool (false), .int .i64 (0), .slice true (.rw 14) (0) (kidNU [.agg tb, .int .i64 (n)]), .int .i64 (((kidNU [.agg tb, .int .i64 (n)] : Nat) : Int)), .int .i64 (0)] : List AV), .agg ([.tup [.int .i64 (1), .agg tb], .tup [.int .i64 (1), .agg (rowA sl (0))], .tup [.int .i64 (1), .agg (rowA sl (1))], .tup [.int .i64 (1), .agg (rowA sl (2))], .tup [.int .i64 (1), .agg (rowA sl (3))], .tup [.int .i64 (1), .agg (rowA sl (4))], .tup [.int .i64 (1), .agg (rowA sl (5))], .tup [.int .i64 (1), .agg (rowA sl (6))], .tup [.int .i64 (1), .agg (rowA sl (7))], .tup [.int .i64 (1), .agg (rowA sl (8))], .tup [.int .i64 (1), .agg (rowA sl (9))], .tup [.int .i64 (1), .agg (rowA sl (10))], .tup [.int .i64 (1), .agg (rowA sl (11))], .tup [.int .i64 (1), .agg (rowA sl (12))], .tup [.int .i64 (1), .agg (kidLU [.agg tb, .int .i64 (n)])]] : List AV)] = true ∧
                    (fb = true →
        R (.tup [.int .i64 (fc), .int .i64 (fs), .bool (false), .int .i64 (0)]) ([some ⟨1, tf⟩] ++ rows13 sl)) ∧
                    (fb = false →
                      (wb = true →
        R (.tup [.int .i64 (0), .int .i64 (0), .bool (true), .int .i64 (0)]) ([some ⟨1, tb⟩] ++ rows13 sl)) ∧
                      (wb = false →
        R (.tup [.int .i64 (0), .int .i64 (0), .bool (false), .int .i64 (6)]) ([some ⟨1, tb⟩] ++ rows13 sl)))))))) ∧
          (((getI tb ((Int.toNat (n)) * 7 + 1) : Int) == n) = false →
        R (.tup [.int .i64 (0), .int .i64 (0), .bool (false), .int .i64 (6)]) ([some ⟨1, tb⟩] ++ rows13 sl))) ∧
        (decide ((n : Int) ≤ 12) = false →
        R (.tup [.int .i64 (0), .int .i64 (0), .bool (false), .int .i64 (6)]) ([some ⟨1, tb⟩] ++ rows13 sl))) ∧
      (decide ((n : Int) ≥ 1) = false →
        R (.tup [.int .i64 (0), .int .i64 (0), .bool (false), .int .i64 (6)]) ([some ⟨1, tb⟩] ++ rows13 sl))) ∧
    (getB tb (0) = false →
      R (.tup [.int .i64 (0), .int .i64 (0), .bool (false), .int .i64 (1)]) ([some ⟨1, tb⟩] ++ rows13 sl))) := by kernel_rfl
theorem hL (G : Nat → List AV) (s : Ptb) (n : Int) : vHp G [some ⟨1, .var 1 (encT 1 s)⟩, some ⟨1, .row (.var 2 (setsL encP s)) (.lit 0)⟩, some ⟨1, .row (.var 2 (setsL encP s)) (.lit 1)⟩, some ⟨1, .row (.var 2 (setsL encP s)) (.lit 2)⟩, some ⟨1, .row (.var 2 (setsL encP s)) (.lit 3)⟩, some ⟨1, .row (.var 2 (setsL encP s)) (.lit 4)⟩, some ⟨1, .row (.var 2 (setsL encP s)) (.lit 5)⟩, some ⟨1, .row (.var 2 (setsL encP s)) (.lit 6)⟩, some ⟨1, .row (.var 2 (setsL encP s)) (.lit 7)⟩, some ⟨1, .row (.var 2 (setsL encP s)) (.lit 8)⟩, some ⟨1, .row (.var 2 (setsL encP s)) (.lit 9)⟩, some ⟨1, .row (.var 2 (setsL encP s)) (.lit 10)⟩, some ⟨1, .row (.var 2 (setsL encP s)) (.lit 11)⟩, some ⟨1, .row (.var 2 (setsL encP s)) (.lit 12)⟩, some ⟨1, .var 22 (nl (kidT s n 13))⟩] = can tsP s ++ [some ⟨1, nl (kidT s n 13)⟩] := by
  rw [← hp_can (t := tsP) (s := s)]; rfl
theorem find_none {l : List Nat} {p : Nat → Bool} (h : ∀ j, (hj : j < l.length) → p l[j] = false) : l.find? p = none := by
  rw [List.find?_eq_none]
  intro x hx
  obtain ⟨j, hj, rfl⟩ := List.getElem_of_mem hx
  rw [h j hj]; simp
theorem find_at {l : List Nat} {p : Nat → Bool} {i : Nat} (hi : i < l.length) (hp : p l[i] = true) (h : ∀ j, (hj : j < l.length) → j < i → p l[j] = false) : l.find? p = some l[i] := by
  rw [List.find?_eq_some_iff_getElem]
  exact ⟨hp, i, hi, rfl, fun j hj => by rw [h j (by omega) hj]; rfl⟩
theorem take_any {l : List Nat} {p : Nat → Bool} {i : Nat} (hi : i < l.length) : (l.take (i + 1)).any p = ((l.take i).any p || p l[i]) := by
  rw [List.take_add_one, List.getElem?_eq_getElem hi]
  simp only [Option.toList, List.any_append, List.any_cons, List.any_nil, Bool.or_false]
theorem w_loop (G : Nat → List AV) (B : Nat) {s : Ptb} (hw : Wf s) (n w : Int) : AWp (⟨Try.prog, G, B⟩ : Ctx) 14 (.loop (loopN Try.f13 0)) (fl 67 [0, 2, 6, 7, 8, 9, 32, 33, 34] [.ptr (.rw 0) 0, .int .i64 w, .int .i64 0, .int .i64 0, .bool false, .int .i64 0, .slice true (.rw 14) 0 (kidT s n 13).length, .int .i64 ((kidT s n 13).length : Int), .int .i64 0]) (vHp G [some ⟨1, .var 1 (encT 1 s)⟩, some ⟨1, .row (.var 2 (setsL encP s)) (.lit 0)⟩, some ⟨1, .row (.var 2 (setsL encP s)) (.lit 1)⟩, some ⟨1, .row (.var 2 (setsL encP s)) (.lit 2)⟩, some ⟨1, .row (.var 2 (setsL encP s)) (.lit 3)⟩, some ⟨1, .row (.var 2 (setsL encP s)) (.lit 4)⟩, some ⟨1, .row (.var 2 (setsL encP s)) (.lit 5)⟩, some ⟨1, .row (.var 2 (setsL encP s)) (.lit 6)⟩, some ⟨1, .row (.var 2 (setsL encP s)) (.lit 7)⟩, some ⟨1, .row (.var 2 (setsL encP s)) (.lit 8)⟩, some ⟨1, .row (.var 2 (setsL encP s)) (.lit 9)⟩, some ⟨1, .row (.var 2 (setsL encP s)) (.lit 10)⟩, some ⟨1, .row (.var 2 (setsL encP s)) (.lit 11)⟩, some ⟨1, .row (.var 2 (setsL encP s)) (.lit 12)⟩, some ⟨1, .var 22 (nl (kidT s n 13))⟩]) (lv 67 [0, 2, 6, 7, 8, 9, 32, 33, 34] (LOut.post G 14 (.tst (.var 9 (((kidT s n 13).find? (wHit s w)).isSome)) (.one .ret [.undef, .undef, .int .i64 (.var 10 ((((kidT s n 13).find? (wHit s w)).getD 0) : Int)), .int .i64 (.var 11 (s.at_ (((kidT s n 13).find? (wHit s w)).getD 0)).st), .bool (.lit false), .int .i64 (.lit 0), .undef, .undef, .undef] [some ⟨1, .var 21 (encT 1 (freeX s (((kidT s n 13).find? (wHit s w)).getD 0)))⟩, some ⟨1, .row (.var 2 (setsL encP s)) (.lit 0)⟩, some ⟨1, .row (.var 2 (setsL encP s)) (.lit 1)⟩, some ⟨1, .row (.var 2 (setsL encP s)) (.lit 2)⟩, some ⟨1, .row (.var 2 (setsL encP s)) (.lit 3)⟩, some ⟨1, .row (.var 2 (setsL encP s)) (.lit 4)⟩, some ⟨1, .row (.var 2 (setsL encP s)) (.lit 5)⟩, some ⟨1, .row (.var 2 (setsL encP s)) (.lit 6)⟩, some ⟨1, .row (.var 2 (setsL encP s)) (.lit 7)⟩, some ⟨1, .row (.var 2 (setsL encP s)) (.lit 8)⟩, some ⟨1, .row (.var 2 (setsL encP s)) (.lit 9)⟩, some ⟨1, .row (.var 2 (setsL encP s)) (.lit 10)⟩, some ⟨1, .row (.var 2 (setsL encP s)) (.lit 11)⟩, some ⟨1, .row (.var 2 (setsL encP s)) (.lit 12)⟩, some ⟨1, .var 22 (nl (kidT s n 13))⟩]) (.one (.exit 0) [.undef, .undef, .int .i64 (.lit 0), .int .i64 (.lit 0), .bool (.var 7 ((kidT s n 13).any (wMat w))), .int .i64 (.lit 0), .undef, .undef, .undef] [some ⟨1, .var 1 (encT 1 s)⟩, some ⟨1, .row (.var 2 (setsL encP s)) (.lit 0)⟩, some ⟨1, .row (.var 2 (setsL encP s)) (.lit 1)⟩, some ⟨1, .row (.var 2 (setsL encP s)) (.lit 2)⟩, some ⟨1, .row (.var 2 (setsL encP s)) (.lit 3)⟩, some ⟨1, .row (.var 2 (setsL encP s)) (.lit 4)⟩, some ⟨1, .row (.var 2 (setsL encP s)) (.lit 5)⟩, some ⟨1, .row (.var 2 (setsL encP s)) (.lit 6)⟩, some ⟨1, .row (.var 2 (setsL encP s)) (.lit 7)⟩, some ⟨1, .row (.var 2 (setsL encP s)) (.lit 8)⟩, some ⟨1, .row (.var 2 (setsL encP s)) (.lit 9)⟩, some ⟨1, .row (.var 2 (setsL encP s)) (.lit 10)⟩, some ⟨1, .row (.var 2 (setsL encP s)) (.lit 11)⟩, some ⟨1, .row (.var 2 (setsL encP s)) (.lit 12)⟩, some ⟨1, .var 22 (nl (kidT s n 13))⟩])))) := by
  refine scanP (fun i => ∀ j, (hj : j < (kidT s n 13).length) → j < i → wHit s w (kidT s n 13)[j] = false) (kidT s n 13).length (fun i => [.ptr (.rw 0) 0, .int .i64 w, .int .i64 0, .int .i64 0, .bool (((kidT s n 13).take i).any (wMat w)), .int .i64 0, .slice true (.rw 14) 0 (kidT s n 13).length, .int .i64 ((kidT s n 13).length : Int), .int .i64 (i : Int)]) (fun _ => vHp G [some ⟨1, .var 1 (encT 1 s)⟩, some ⟨1, .row (.var 2 (setsL encP s)) (.lit 0)⟩, some ⟨1, .row (.var 2 (setsL encP s)) (.lit 1)⟩, some ⟨1, .row (.var 2 (setsL encP s)) (.lit 2)⟩, some ⟨1, .row (.var 2 (setsL encP s)) (.lit 3)⟩, some ⟨1, .row (.var 2 (setsL encP s)) (.lit 4)⟩, some ⟨1, .row (.var 2 (setsL encP s)) (.lit 5)⟩, some ⟨1, .row (.var 2 (setsL encP s)) (.lit 6)⟩, some ⟨1, .row (.var 2 (setsL encP s)) (.lit 7)⟩, some ⟨1, .row (.var 2 (setsL encP s)) (.lit 8)⟩, some ⟨1, .row (.var 2 (setsL encP s)) (.lit 9)⟩, some ⟨1, .row (.var 2 (setsL encP s)) (.lit 10)⟩, some ⟨1, .row (.var 2 (setsL encP s)) (.lit 11)⟩, some ⟨1, .row (.var 2 (setsL encP s)) (.lit 12)⟩, some ⟨1, .var 22 (nl (kidT s n 13))⟩]) (fun j hj h => by omega) fun i hi hP => ?_
  refine dloop_ok (C := (⟨Try.prog, G, B⟩ : Ctx)) (K := Dc Try.prog [] [] [] 0) (dgood (mix G B) (by kernel_rfl) .nil .nil) (fuel := 300) (n0 := 40) (m := 14) (c := loopN Try.f13 0)
    (vs := [.ptr (.rw 0) (.lit 0), .int .i64 (.var 4 w), .int .i64 (.lit 0), .int .i64 (.lit 0), .bool (.var 7 (((kidT s n 13).take i).any (wMat w))), .int .i64 (.lit 0), .slice true (.rw 14) (.lit 0) (.var 6 (kidT s n 13).length), .int .i64 (.ofN (.var 6 (kidT s n 13).length)), .int .i64 (.ofN (.var 8 i))]) (H := [some ⟨1, .var 1 (encT 1 s)⟩, some ⟨1, .row (.var 2 (setsL encP s)) (.lit 0)⟩, some ⟨1, .row (.var 2 (setsL encP s)) (.lit 1)⟩, some ⟨1, .row (.var 2 (setsL encP s)) (.lit 2)⟩, some ⟨1, .row (.var 2 (setsL encP s)) (.lit 3)⟩, some ⟨1, .row (.var 2 (setsL encP s)) (.lit 4)⟩, some ⟨1, .row (.var 2 (setsL encP s)) (.lit 5)⟩, some ⟨1, .row (.var 2 (setsL encP s)) (.lit 6)⟩, some ⟨1, .row (.var 2 (setsL encP s)) (.lit 7)⟩, some ⟨1, .row (.var 2 (setsL encP s)) (.lit 8)⟩, some ⟨1, .row (.var 2 (setsL encP s)) (.lit 9)⟩, some ⟨1, .row (.var 2 (setsL encP s)) (.lit 10)⟩, some ⟨1, .row (.var 2 (setsL encP s)) (.lit 11)⟩, some ⟨1, .row (.var 2 (setsL encP s)) (.lit 12)⟩, some ⟨1, .var 22 (nl (kidT s n 13))⟩]) (by simp) ?_
  rw [w_b]
  have hle := kidT_len s n 13
  refine ⟨fun h => ?_, fun h => ?_⟩
  · have hlt : i < (kidT s n 13).length := by have := of_decide_eq_true h; omega
    obtain ⟨k1, k2⟩ := nl_getI (l := (kidT s n 13)) hlt
    obtain ⟨c1, c2, c3, c4⟩ := kidT_mem (List.getElem_mem hlt)
    have enC := T_row (b := 1) (s := s) c1
    have ew : ∀ x : Int, IntKind.wrap .i64 ((i : Int) + 1) = ((i + 1 : Nat) : Int) := fun _ => by rw [i64_in (by omega)]; rfl
    have hb20 : ∀ (E : Hp) (vs : List AV), vs = (fun i : Nat => ([.ptr (.rw 0) 0, .int .i64 w, .int .i64 0, .int .i64 0, .bool (((kidT s n 13).take i).any (wMat w)), .int .i64 0, .slice true (.rw 14) 0 (kidT s n 13).length, .int .i64 ((kidT s n 13).length : Int), .int .i64 (i : Int)] : List AV)) (i + 1) → View 14 ((fun i : Nat => ([.ptr (.rw 0) 0, .int .i64 w, .int .i64 0, .int .i64 0, .bool (((kidT s n 13).take i).any (wMat w)), .int .i64 0, .slice true (.rw 14) 0 (kidT s n 13).length, .int .i64 ((kidT s n 13).length : Int), .int .i64 (i : Int)] : List AV)) (i + 1)) (vHp G [some ⟨1, .var 1 (encT 1 s)⟩, some ⟨1, .row (.var 2 (setsL encP s)) (.lit 0)⟩, some ⟨1, .row (.var 2 (setsL encP s)) (.lit 1)⟩, some ⟨1, .row (.var 2 (setsL encP s)) (.lit 2)⟩, some ⟨1, .row (.var 2 (setsL encP s)) (.lit 3)⟩, some ⟨1, .row (.var 2 (setsL encP s)) (.lit 4)⟩, some ⟨1, .row (.var 2 (setsL encP s)) (.lit 5)⟩, some ⟨1, .row (.var 2 (setsL encP s)) (.lit 6)⟩, some ⟨1, .row (.var 2 (setsL encP s)) (.lit 7)⟩, some ⟨1, .row (.var 2 (setsL encP s)) (.lit 8)⟩, some ⟨1, .row (.var 2 (setsL encP s)) (.lit 9)⟩, some ⟨1, .row (.var 2 (setsL encP s)) (.lit 10)⟩, some ⟨1, .row (.var 2 (setsL encP s)) (.lit 11)⟩, some ⟨1, .row (.var 2 (setsL encP s)) (.lit 12)⟩, some ⟨1, .var 22 (nl (kidT s n 13))⟩]) vs (vHp G [some ⟨1, .var 1 (encT 1 s)⟩, some ⟨1, .row (.var 2 (setsL encP s)) (.lit 0)⟩, some ⟨1, .row (.var 2 (setsL encP s)) (.lit 1)⟩, some ⟨1, .row (.var 2 (setsL encP s)) (.lit 2)⟩, some ⟨1, .row (.var 2 (setsL encP s)) (.lit 3)⟩, some ⟨1, .row (.var 2 (setsL encP s)) (.lit 4)⟩, some ⟨1, .row (.var 2 (setsL encP s)) (.lit 5)⟩, some ⟨1, .row (.var 2 (setsL encP s)) (.lit 6)⟩, some ⟨1, .row (.var 2 (setsL encP s)) (.lit 7)⟩, some ⟨1, .row (.var 2 (setsL encP s)) (.lit 8)⟩, some ⟨1, .row (.var 2 (setsL encP s)) (.lit 9)⟩, some ⟨1, .row (.var 2 (setsL encP s)) (.lit 10)⟩, some ⟨1, .row (.var 2 (setsL encP s)) (.lit 11)⟩, some ⟨1, .row (.var 2 (setsL encP s)) (.lit 12)⟩, some ⟨1, .var 22 (nl (kidT s n 13))⟩] ++ E) := fun E vs e => by
      subst e
      have hl : (vHp G [some ⟨1, .var 1 (encT 1 s)⟩, some ⟨1, .row (.var 2 (setsL encP s)) (.lit 0)⟩, some ⟨1, .row (.var 2 (setsL encP s)) (.lit 1)⟩, some ⟨1, .row (.var 2 (setsL encP s)) (.lit 2)⟩, some ⟨1, .row (.var 2 (setsL encP s)) (.lit 3)⟩, some ⟨1, .row (.var 2 (setsL encP s)) (.lit 4)⟩, some ⟨1, .row (.var 2 (setsL encP s)) (.lit 5)⟩, some ⟨1, .row (.var 2 (setsL encP s)) (.lit 6)⟩, some ⟨1, .row (.var 2 (setsL encP s)) (.lit 7)⟩, some ⟨1, .row (.var 2 (setsL encP s)) (.lit 8)⟩, some ⟨1, .row (.var 2 (setsL encP s)) (.lit 9)⟩, some ⟨1, .row (.var 2 (setsL encP s)) (.lit 10)⟩, some ⟨1, .row (.var 2 (setsL encP s)) (.lit 11)⟩, some ⟨1, .row (.var 2 (setsL encP s)) (.lit 12)⟩, some ⟨1, .var 22 (nl (kidT s n 13))⟩]).length = 15 := by rw [vHp_length]; rfl
      refine View.same (by rw [hl]; omega) ?_ ?_
      · rw [hl, hL]
        refine hpB_app (m := 15) ?_ (by simp only [hpB, bm (nl_flat 0 (kidT s n 13)), Bool.and_self])
        exact can_b s (by omega)
      · rw [hl]
        exact ⟨⟨rfl, rfl⟩, ⟨rfl, rfl⟩, ⟨rfl, rfl⟩, ⟨rfl, rfl⟩, ⟨rfl, rfl⟩, ⟨rfl, rfl⟩, ⟨rfl, rfl⟩, ⟨rfl, rfl⟩, ⟨rfl, rfl⟩, trivial⟩
    have found : wMat w (kidT s n 13)[i] = true → (s.at_ (kidT s n 13)[i]).en = true → (if True then LOut.post G 14 (.tst (.var 9 (((kidT s n 13).find? (wHit s w)).isSome)) (.one .ret [.undef, .undef, .int .i64 (.var 10 ((((kidT s n 13).find? (wHit s w)).getD 0) : Int)), .int .i64 (.var 11 (s.at_ (((kidT s n 13).find? (wHit s w)).getD 0)).st), .bool (.lit false), .int .i64 (.lit 0), .undef, .undef, .undef] [some ⟨1, .var 21 (encT 1 (freeX s (((kidT s n 13).find? (wHit s w)).getD 0)))⟩, some ⟨1, .row (.var 2 (setsL encP s)) (.lit 0)⟩, some ⟨1, .row (.var 2 (setsL encP s)) (.lit 1)⟩, some ⟨1, .row (.var 2 (setsL encP s)) (.lit 2)⟩, some ⟨1, .row (.var 2 (setsL encP s)) (.lit 3)⟩, some ⟨1, .row (.var 2 (setsL encP s)) (.lit 4)⟩, some ⟨1, .row (.var 2 (setsL encP s)) (.lit 5)⟩, some ⟨1, .row (.var 2 (setsL encP s)) (.lit 6)⟩, some ⟨1, .row (.var 2 (setsL encP s)) (.lit 7)⟩, some ⟨1, .row (.var 2 (setsL encP s)) (.lit 8)⟩, some ⟨1, .row (.var 2 (setsL encP s)) (.lit 9)⟩, some ⟨1, .row (.var 2 (setsL encP s)) (.lit 10)⟩, some ⟨1, .row (.var 2 (setsL encP s)) (.lit 11)⟩, some ⟨1, .row (.var 2 (setsL encP s)) (.lit 12)⟩, some ⟨1, .var 22 (nl (kidT s n 13))⟩]) (.one (.exit 0) [.undef, .undef, .int .i64 (.lit 0), .int .i64 (.lit 0), .bool (.var 7 ((kidT s n 13).any (wMat w))), .int .i64 (.lit 0), .undef, .undef, .undef] [some ⟨1, .var 1 (encT 1 s)⟩, some ⟨1, .row (.var 2 (setsL encP s)) (.lit 0)⟩, some ⟨1, .row (.var 2 (setsL encP s)) (.lit 1)⟩, some ⟨1, .row (.var 2 (setsL encP s)) (.lit 2)⟩, some ⟨1, .row (.var 2 (setsL encP s)) (.lit 3)⟩, some ⟨1, .row (.var 2 (setsL encP s)) (.lit 4)⟩, some ⟨1, .row (.var 2 (setsL encP s)) (.lit 5)⟩, some ⟨1, .row (.var 2 (setsL encP s)) (.lit 6)⟩, some ⟨1, .row (.var 2 (setsL encP s)) (.lit 7)⟩, some ⟨1, .row (.var 2 (setsL encP s)) (.lit 8)⟩, some ⟨1, .row (.var 2 (setsL encP s)) (.lit 9)⟩, some ⟨1, .row (.var 2 (setsL encP s)) (.lit 10)⟩, some ⟨1, .row (.var 2 (setsL encP s)) (.lit 11)⟩, some ⟨1, .row (.var 2 (setsL encP s)) (.lit 12)⟩, some ⟨1, .var 22 (nl (kidT s n 13))⟩])) .ret [.ptr (.rw 0) 0, .int .i64 w, .int .i64 ((kidT s n 13)[i] : Int), .int .i64 (s.at_ (kidT s n 13)[i]).st, .bool false, .int .i64 0, .slice true (.rw 14) 0 (kidT s n 13).length, .int .i64 ((kidT s n 13).length : Int), .int .i64 (i : Int)] (some ⟨1, encT 1 (freeX s (kidT s n 13)[i])⟩ :: ((List.range 13).map (fun n => some (⟨1, rowA (setsL encP s) n⟩ : Blk)) ++ [some ⟨1, nl (kidT s n 13)⟩, some ⟨1, rowT (s.at_ (kidT s n 13)[i]) (ptrO 1 (kidT s n 13)[i] (s.sg (kidT s n 13)[i]))⟩])) else True) := fun hm he => by
      rw [if_pos trivial]
      have hf : (kidT s n 13).find? (wHit s w) = some (kidT s n 13)[i] := find_at hlt (by unfold wHit; rw [hm, he]; rfl) hP
      refine .inl ⟨by show Option.isSome _ = true; rw [hf]; rfl, rfl, .inr ?_⟩
      have e1 : (((kidT s n 13).find? (wHit s w)).getD 0) = (kidT s n 13)[i] := by rw [hf]; rfl
      have e2 : vHp G [some ⟨1, .var 21 (encT 1 (freeX s (((kidT s n 13).find? (wHit s w)).getD 0)))⟩, some ⟨1, .row (.var 2 (setsL encP s)) (.lit 0)⟩, some ⟨1, .row (.var 2 (setsL encP s)) (.lit 1)⟩, some ⟨1, .row (.var 2 (setsL encP s)) (.lit 2)⟩, some ⟨1, .row (.var 2 (setsL encP s)) (.lit 3)⟩, some ⟨1, .row (.var 2 (setsL encP s)) (.lit 4)⟩, some ⟨1, .row (.var 2 (setsL encP s)) (.lit 5)⟩, some ⟨1, .row (.var 2 (setsL encP s)) (.lit 6)⟩, some ⟨1, .row (.var 2 (setsL encP s)) (.lit 7)⟩, some ⟨1, .row (.var 2 (setsL encP s)) (.lit 8)⟩, some ⟨1, .row (.var 2 (setsL encP s)) (.lit 9)⟩, some ⟨1, .row (.var 2 (setsL encP s)) (.lit 10)⟩, some ⟨1, .row (.var 2 (setsL encP s)) (.lit 11)⟩, some ⟨1, .row (.var 2 (setsL encP s)) (.lit 12)⟩, some ⟨1, .var 22 (nl (kidT s n 13))⟩] = some ⟨1, encT 1 (freeX s (kidT s n 13)[i])⟩ :: ((List.range 13).map (fun n => some (⟨1, rowA (setsL encP s) n⟩ : Blk)) ++ [some ⟨1, nl (kidT s n 13)⟩]) := by rw [e1]; rfl
      rw [e2]
      refine View.same (m := 14) (H := some ⟨1, encT 1 (freeX s (kidT s n 13)[i])⟩ :: ((List.range 13).map (fun n => some (⟨1, rowA (setsL encP s) n⟩ : Blk)) ++ [some ⟨1, nl (kidT s n 13)⟩])) (G := [some ⟨1, rowT (s.at_ (kidT s n 13)[i]) (ptrO 1 (kidT s n 13)[i] (s.sg (kidT s n 13)[i]))⟩]) (by simp) ?_ ?_
      · have hl : (some (⟨1, encT 1 (freeX s (kidT s n 13)[i])⟩ : Blk) :: ((List.range 13).map (fun n => some (⟨1, rowA (setsL encP s) n⟩ : Blk)) ++ [some ⟨1, nl (kidT s n 13)⟩])).length = 15 := by simp
        rw [hl]
        have t1 : bnds 15 (encT 1 (freeX s (kidT s n 13)[i])) = true := tsP_ok.bnd 15 (ptrs 1 (freeX s (kidT s n 13)[i])) _ fun n hn => bnd_ptrs (by omega) n hn
        have r1 := can_b s (m := 15) (by omega)
        rw [← hp_can (t := tsP) (s := s)] at r1
        simp only [hpB, Bool.and_eq_true] at r1
        simp only [hpB, t1, Bool.true_and]
        exact hpB_app r1.2 (by simp only [hpB, bm (nl_flat 0 (kidT s n 13)), Bool.and_self])
      · exact ⟨⟨rfl, by rw [e1]; rfl⟩, ⟨rfl, by rw [e1]; rfl⟩, ⟨rfl, rfl⟩, ⟨rfl, rfl⟩, trivial⟩
    have nexts : wHit s w (kidT s n 13)[i] = false → ∀ j, (hj : j < (kidT s n 13).length) → j < i + 1 → wHit s w (kidT s n 13)[j] = false := fun h0 j hj hji => by
      by_cases e : j = i
      · subst e; exact h0
      · exact hP j hj (by omega)
    rw [k2, Int.toNat_natCast, enC]
    have en0 : (0 : Int) ≤ ((kidT s n 13)[i] : Int) := by omega
    have leT : leB ((kidT s n 13)[i] * 7 + 8) (encT 1 s).length = true := leB_iff.2 (by rw [encT_len]; omega)
    have norm : wMat w (kidT s n 13)[i] = true → (s.at_ (kidT s n 13)[i]).en = false → (i < (kidT s n 13).length ∧ (∀ j, (hj : j < (kidT s n 13).length) → j < i + 1 → wHit s w (kidT s n 13)[j] = false) ∧ (([.ptr (.rw 0) 0, .int .i64 w, .int .i64 0, .int .i64 0, .bool true, .int .i64 0, .slice true (.rw 14) 0 (kidT s n 13).length, .int .i64 ((kidT s n 13).length : Int), .int .i64 (IntKind.wrap .i64 ((i : Int) + 1))] = (fun i : Nat => ([.ptr (.rw 0) 0, .int .i64 w, .int .i64 0, .int .i64 0, .bool (((kidT s n 13).take i).any (wMat w)), .int .i64 0, .slice true (.rw 14) 0 (kidT s n 13).length, .int .i64 ((kidT s n 13).length : Int), .int .i64 (i : Int)] : List AV)) (i + 1) ∧ (vHp G [some ⟨1, .var 1 (encT 1 s)⟩, some ⟨1, .row (.var 2 (setsL encP s)) (.lit 0)⟩, some ⟨1, .row (.var 2 (setsL encP s)) (.lit 1)⟩, some ⟨1, .row (.var 2 (setsL encP s)) (.lit 2)⟩, some ⟨1, .row (.var 2 (setsL encP s)) (.lit 3)⟩, some ⟨1, .row (.var 2 (setsL encP s)) (.lit 4)⟩, some ⟨1, .row (.var 2 (setsL encP s)) (.lit 5)⟩, some ⟨1, .row (.var 2 (setsL encP s)) (.lit 6)⟩, some ⟨1, .row (.var 2 (setsL encP s)) (.lit 7)⟩, some ⟨1, .row (.var 2 (setsL encP s)) (.lit 8)⟩, some ⟨1, .row (.var 2 (setsL encP s)) (.lit 9)⟩, some ⟨1, .row (.var 2 (setsL encP s)) (.lit 10)⟩, some ⟨1, .row (.var 2 (setsL encP s)) (.lit 11)⟩, some ⟨1, .row (.var 2 (setsL encP s)) (.lit 12)⟩, some ⟨1, .var 22 (nl (kidT s n 13))⟩] ++ [some (⟨1, rowT (s.at_ (kidT s n 13)[i]) (ptrO 1 (kidT s n 13)[i] (s.sg (kidT s n 13)[i]))⟩ : Blk)]) = vHp G [some ⟨1, .var 1 (encT 1 s)⟩, some ⟨1, .row (.var 2 (setsL encP s)) (.lit 0)⟩, some ⟨1, .row (.var 2 (setsL encP s)) (.lit 1)⟩, some ⟨1, .row (.var 2 (setsL encP s)) (.lit 2)⟩, some ⟨1, .row (.var 2 (setsL encP s)) (.lit 3)⟩, some ⟨1, .row (.var 2 (setsL encP s)) (.lit 4)⟩, some ⟨1, .row (.var 2 (setsL encP s)) (.lit 5)⟩, some ⟨1, .row (.var 2 (setsL encP s)) (.lit 6)⟩, some ⟨1, .row (.var 2 (setsL encP s)) (.lit 7)⟩, some ⟨1, .row (.var 2 (setsL encP s)) (.lit 8)⟩, some ⟨1, .row (.var 2 (setsL encP s)) (.lit 9)⟩, some ⟨1, .row (.var 2 (setsL encP s)) (.lit 10)⟩, some ⟨1, .row (.var 2 (setsL encP s)) (.lit 11)⟩, some ⟨1, .row (.var 2 (setsL encP s)) (.lit 12)⟩, some ⟨1, .var 22 (nl (kidT s n 13))⟩]) ∨ View 14 ((fun i : Nat => ([.ptr (.rw 0) 0, .int .i64 w, .int .i64 0, .int .i64 0, .bool (((kidT s n 13).take i).any (wMat w)), .int .i64 0, .slice true (.rw 14) 0 (kidT s n 13).length, .int .i64 ((kidT s n 13).length : Int), .int .i64 (i : Int)] : List AV)) (i + 1)) (vHp G [some ⟨1, .var 1 (encT 1 s)⟩, some ⟨1, .row (.var 2 (setsL encP s)) (.lit 0)⟩, some ⟨1, .row (.var 2 (setsL encP s)) (.lit 1)⟩, some ⟨1, .row (.var 2 (setsL encP s)) (.lit 2)⟩, some ⟨1, .row (.var 2 (setsL encP s)) (.lit 3)⟩, some ⟨1, .row (.var 2 (setsL encP s)) (.lit 4)⟩, some ⟨1, .row (.var 2 (setsL encP s)) (.lit 5)⟩, some ⟨1, .row (.var 2 (setsL encP s)) (.lit 6)⟩, some ⟨1, .row (.var 2 (setsL encP s)) (.lit 7)⟩, some ⟨1, .row (.var 2 (setsL encP s)) (.lit 8)⟩, some ⟨1, .row (.var 2 (setsL encP s)) (.lit 9)⟩, some ⟨1, .row (.var 2 (setsL encP s)) (.lit 10)⟩, some ⟨1, .row (.var 2 (setsL encP s)) (.lit 11)⟩, some ⟨1, .row (.var 2 (setsL encP s)) (.lit 12)⟩, some ⟨1, .var 22 (nl (kidT s n 13))⟩]) [.ptr (.rw 0) 0, .int .i64 w, .int .i64 0, .int .i64 0, .bool true, .int .i64 0, .slice true (.rw 14) 0 (kidT s n 13).length, .int .i64 ((kidT s n 13).length : Int), .int .i64 (IntKind.wrap .i64 ((i : Int) + 1))] (vHp G [some ⟨1, .var 1 (encT 1 s)⟩, some ⟨1, .row (.var 2 (setsL encP s)) (.lit 0)⟩, some ⟨1, .row (.var 2 (setsL encP s)) (.lit 1)⟩, some ⟨1, .row (.var 2 (setsL encP s)) (.lit 2)⟩, some ⟨1, .row (.var 2 (setsL encP s)) (.lit 3)⟩, some ⟨1, .row (.var 2 (setsL encP s)) (.lit 4)⟩, some ⟨1, .row (.var 2 (setsL encP s)) (.lit 5)⟩, some ⟨1, .row (.var 2 (setsL encP s)) (.lit 6)⟩, some ⟨1, .row (.var 2 (setsL encP s)) (.lit 7)⟩, some ⟨1, .row (.var 2 (setsL encP s)) (.lit 8)⟩, some ⟨1, .row (.var 2 (setsL encP s)) (.lit 9)⟩, some ⟨1, .row (.var 2 (setsL encP s)) (.lit 10)⟩, some ⟨1, .row (.var 2 (setsL encP s)) (.lit 11)⟩, some ⟨1, .row (.var 2 (setsL encP s)) (.lit 12)⟩, some ⟨1, .var 22 (nl (kidT s n 13))⟩] ++ [some (⟨1, rowT (s.at_ (kidT s n 13)[i]) (ptrO 1 (kidT s n 13)[i] (s.sg (kidT s n 13)[i]))⟩ : Blk)]))) := fun hm he =>
      ⟨hlt, nexts (by unfold wHit; rw [he, Bool.and_false]), .inr (hb20 _ _ (by show _ = [_, _, _, _, _, _, _, _, _]; rw [take_any hlt, hm, Bool.or_true, ew 0]))⟩
    have both : wMat w (kidT s n 13)[i] = true → _ := fun hm => And.intro (found hm) (norm hm)
    refine ⟨decide_eq_true (by omega), h, k1, fun h1 => ?_, fun h1 => ⟨fun h2 => ?_, fun h2 => ?_⟩⟩
    · have hm : wMat w (kidT s n 13)[i] = true := by unfold wMat; rw [show (w == -1) = true from h1]; rfl
      refine ⟨decide_eq_true en0, decide_eq_true (by omega), leT, ?_, rfl, rfl, fun he => ⟨decide_eq_true en0, decide_eq_true (by omega), leT, rfl, ?_⟩, fun he => norm hm he⟩
      · cases s.sg (kidT s n 13)[i] <;> rfl
      · have f := found hm he
        rw [if_pos trivial] at f
        have e9 : setPart (encT 1 s) ((kidT s n 13)[i] * 7 + 1) (.agg [.int .i64 0, .int .i64 0, .int .i64 0, .int .i64 0, .bool false, .int .i64 0, .nilp]) = encT 1 (freeX s (kidT s n 13)[i]) := enc_free (b := 1) (s := s) c1
        rw [e9]
        exact f
    · have hm : wMat w (kidT s n 13)[i] = true := by unfold wMat; rw [show (w == ((kidT s n 13)[i] : Int)) = true from h2, Bool.or_true]
      refine ⟨decide_eq_true en0, decide_eq_true (by omega), leT, ?_, rfl, rfl, fun he => ⟨decide_eq_true en0, decide_eq_true (by omega), leT, rfl, ?_⟩, fun he => norm hm he⟩
      · cases s.sg (kidT s n 13)[i] <;> rfl
      · have f := found hm he
        rw [if_pos trivial] at f
        have e9 : setPart (encT 1 s) ((kidT s n 13)[i] * 7 + 1) (.agg [.int .i64 0, .int .i64 0, .int .i64 0, .int .i64 0, .bool false, .int .i64 0, .nilp]) = encT 1 (freeX s (kidT s n 13)[i]) := enc_free (b := 1) (s := s) c1
        rw [e9]
        exact f
    · have hm : wMat w (kidT s n 13)[i] = false := by unfold wMat; rw [show (w == ((kidT s n 13)[i] : Int)) = false from h2, show (w == -1) = false from h1]; rfl
      refine ⟨hlt, nexts (by unfold wHit; rw [hm]; rfl), .inl ⟨?_, rfl⟩⟩
      show _ = [_, _, _, _, _, _, _, _, _]
      rw [take_any hlt, hm, Bool.or_false, ew 0]
  · have he : i = (kidT s n 13).length := by have := of_decide_eq_false h; omega
    have hn : (kidT s n 13).find? (wHit s w) = none := find_none fun j hj => hP j hj (by omega)
    refine .inr ⟨by show Option.isSome _ = false; rw [hn]; rfl, rfl, .inl ⟨?_, rfl⟩⟩
    rw [he, List.take_length]
    simp [wk, vVs, vV, vI, vB]
where
  can_b (s : Ptb) {m : Nat} (hm : 14 ≤ m) : hpB m (can tsP s) = true := by
    have h := hpB_get (can_hpB tsP_ok s)
    exact B15_bnd.hpB_of fun i b hb => bnds_mono hm _ (h i b hb)
end Go.Am
