/-
  Processes: two processes of two tables compared: the tree, discharged.
-/
import Derived.Test.YtkabjomhnddnoaaPrZ
namespace Go.Am
open Crc
set_option maxRecDepth 100000
def sgoB : Option Sg → Option Sg → Bool
  | none, none => true
  | some p, some q => sameB p q
  | _, _ => false
def pcB (x y : Pc) : Bool := x.num == y.num && (x.par == y.par && (x.grp == y.grp && (x.usr == y.usr && (x.en == y.en && x.st == y.st))))
structure SmF (K i : Nat) (ar tbb sl Ls : List AV) (x y : Pc) (u v : Option Sg) : Prop where
  lar : i * 7 + 7 ≤ ar.length
  ltb : i * 7 + 7 ≤ tbb.length
  X : ∃ px, subL ar (i * 7) 7 = rowT x px ∧ ((u = none ∧ px = .nilp) ∨ ∃ p j, u = some p ∧ px = .ptr (.rw (1 + j)) 0 ∧ j < K ∧ j < sl.length ∧ rowA sl j = encP p)
  Y : subL tbb (i * 7 + 1) 6 = rowU y
  V : (v = none ∧ isNilA tbb (i * 7 + 7) = true) ∨ ∃ q j, v = some q ∧ isNilA tbb (i * 7 + 7) = false ∧ isPA 1 K tbb (i * 7 + 7) = true ∧ fkA 1 tbb (i * 7 + 7) = j ∧ foA tbb (i * 7 + 7) = 0 ∧ j < K ∧ j < sl.length ∧ rowA sl j = encP q
  Ls : rowsA sl Ls = true
theorem sm_tail {K i : Nat} {ar tbb sl Ls : List AV} {x y : Pc} {u v : Option Sg} {A B : Prop} (F : SmF K i ar tbb sl Ls x y u v) (hi : i < 13) (hA : sgoB u v = true → A) (hB : sgoB u v = false → B) :
                    (isNilA (subL ar ((i) * 7) (7)) (6) = true →
                      decide ((0 : Int) ≤ ((i : Nat) : Int)) = true ∧
                      decide ((((i : Nat) : Int) : Int) < 13) = true ∧
                      (isNilA (tbb) ((i) * 7 + 7) = true →
                        A) ∧
                      (isNilA (tbb) ((i) * 7 + 7) = false →
                        isPA 1 K (tbb) ((i) * 7 + 7) = true ∧
                        Nat.beq (foA (tbb) ((i) * 7 + 7)) (0) = true ∧
                        leB (fkA 1 (tbb) ((i) * 7 + 7) + 1) (K) = true ∧
                        rowsA sl Ls = true ∧
                        leB (fkA 1 (tbb) ((i) * 7 + 7) + 1) (List.length sl) = true ∧
                        okU [.agg (rowA sl (fkA 1 (tbb) ((i) * 7 + 7)))] = true ∧
                        B)) ∧
                    (isNilA (subL ar ((i) * 7) (7)) (6) = false →
                      isPA 1 K (subL ar ((i) * 7) (7)) (6) = true ∧
                      decide ((0 : Int) ≤ ((i : Nat) : Int)) = true ∧
                      decide ((((i : Nat) : Int) : Int) < 13) = true ∧
                      (isNilA (tbb) ((i) * 7 + 7) = true →
                        Nat.beq (foA (subL ar ((i) * 7) (7)) (6)) (0) = true ∧
                        leB (fkA 1 (subL ar ((i) * 7) (7)) (6) + 1) (K) = true ∧
                        rowsA sl Ls = true ∧
                        leB (fkA 1 (subL ar ((i) * 7) (7)) (6) + 1) (List.length sl) = true ∧
                        okU [.agg (rowA sl (fkA 1 (subL ar ((i) * 7) (7)) (6)))] = true ∧
                        B) ∧
                      (isNilA (tbb) ((i) * 7 + 7) = false →
                        isPA 1 K (tbb) ((i) * 7 + 7) = true ∧
                        Nat.beq (foA (subL ar ((i) * 7) (7)) (6)) (0) = true ∧
                        leB (fkA 1 (subL ar ((i) * 7) (7)) (6) + 1) (K) = true ∧
                        rowsA sl Ls = true ∧
                        leB (fkA 1 (subL ar ((i) * 7) (7)) (6) + 1) (List.length sl) = true ∧
                        okU [.agg (rowA sl (fkA 1 (subL ar ((i) * 7) (7)) (6)))] = true ∧
                        Nat.beq (foA (tbb) ((i) * 7 + 7)) (0) = true ∧
                        leB (fkA 1 (tbb) ((i) * 7 + 7) + 1) (K) = true ∧
                        rowsA sl Ls = true ∧
                        leB (fkA 1 (tbb) ((i) * 7 + 7) + 1) (List.length sl) = true ∧
                        okU [.agg (rowA sl (fkA 1 (tbb) ((i) * 7 + 7)))] = true ∧
                        (sameU [.agg (rowA sl (fkA 1 (subL ar ((i) * 7) (7)) (6))), .agg (rowA sl (fkA 1 (tbb) ((i) * 7 + 7)))] = true →
                          A) ∧
                        (sameU [.agg (rowA sl (fkA 1 (subL ar ((i) * 7) (7)) (6))), .agg (rowA sl (fkA 1 (tbb) ((i) * 7 + 7)))] = false →
                          B))) := by
  obtain ⟨px, hX, hu⟩ := F.X
  rw [hX]
  have d1 : decide ((0 : Int) ≤ ((i : Nat) : Int)) = true := decide_eq_true (by omega)
  have d2 : decide ((((i : Nat) : Int) : Int) < 13) = true := decide_eq_true (by omega)
  refine ⟨fun h1 => ⟨d1, d2, fun h2 => ?_, fun h2 => ?_⟩, fun h1 => ?_⟩
  · rcases hu with ⟨rfl, rfl⟩ | ⟨p, j, rfl, rfl, _⟩
    · rcases F.V with ⟨rfl, _⟩ | ⟨q, j, rfl, n1, _⟩
      · exact hA rfl
      · rw [n1] at h2; cases h2
    · cases h1
  · rcases hu with ⟨rfl, rfl⟩ | ⟨p, j, rfl, rfl, _⟩
    · rcases F.V with ⟨rfl, n1⟩ | ⟨q, j, rfl, n1, n2, n3, n4, n5, n6, n7⟩
      · rw [n1] at h2; cases h2
      · rw [n3, n4, n7]
        exact ⟨n2, rfl, leB_iff.2 (by omega), F.Ls, leB_iff.2 (by omega), okU_enc q, hB rfl⟩
    · cases h1
  · rcases hu with ⟨rfl, rfl⟩ | ⟨p, j, rfl, rfl, m5, m6, m7⟩
    · cases h1
    · have f1 : fkA 1 (rowT x (.ptr (.rw (1 + j)) 0)) 6 = j := by show 1 + j - 1 = j; omega
      have f2 : isPA 1 K (rowT x (.ptr (.rw (1 + j)) 0)) 6 = true := by
        show (Nat.ble 1 (1 + j) && Nat.blt (1 + j) (1 + K)) = true
        rw [Bool.and_eq_true]
        exact ⟨Nat.ble_eq_true_of_le (by omega), Nat.ble_eq_true_of_le (by omega)⟩
      rw [f1, m7]
      refine ⟨f2, d1, d2, fun h2 => ?_, fun h2 => ?_⟩
      · rcases F.V with ⟨rfl, n1⟩ | ⟨q, j', rfl, n1, n2, n3, n4, n5, n6, n7⟩
        · exact ⟨rfl, leB_iff.2 (by omega), F.Ls, leB_iff.2 (by omega), okU_enc p, hB rfl⟩
        · rw [n1] at h2; cases h2
      · rcases F.V with ⟨rfl, n1⟩ | ⟨q, j', rfl, n1, n2, n3, n4, n5, n6, n7⟩
        · rw [n1] at h2; cases h2
        · rw [n3, n4, n7, sameU_enc]
          exact ⟨n2, rfl, leB_iff.2 (by omega), F.Ls, leB_iff.2 (by omega), okU_enc p, rfl, leB_iff.2 (by omega), F.Ls, leB_iff.2 (by omega), okU_enc q, hA, hB⟩
theorem sm_tree {K i : Nat} {ar tbb sl Ls : List AV} {x y : Pc} {u v : Option Sg} {A B E : Prop} (F : i < 13 → SmF K i ar tbb sl Ls x y u v) (hA : i < 13 → (pcB x y && sgoB u v) = true → A) (hB : i < 13 → (pcB x y && sgoB u v) = false → B) (hE : ¬ i < 13 → E) :
    (decide ((((i : Nat) : Int) : Int) < 13) = true →
      decide ((0 : Int) ≤ ((i : Nat) : Int)) = true ∧
      decide ((((i : Nat) : Int) : Int) < 13) = true ∧
      leB ((i) * 7 + 7) (List.length ar) = true ∧
      cellsB (subL ar ((i) * 7) (7)) = true ∧
      Nat.beq (List.length (subL ar ((i) * 7) (7))) (7) = true ∧
      leB (6) (List.length (subL ar ((i) * 7) (7))) = true ∧
      decide ((0 : Int) ≤ ((i : Nat) : Int)) = true ∧
      decide ((((i : Nat) : Int) : Int) < 13) = true ∧
      leB ((i) * 7 + 7) (List.length (tbb)) = true ∧
      isI .i64 (subL (subL ar ((i) * 7) (7)) (0) (6)) (0) = true ∧
      isI .i64 (subL (tbb) ((i) * 7 + 1) (6)) (0) = true ∧
      isI .i64 (subL (subL ar ((i) * 7) (7)) (0) (6)) (1) = true ∧
      isI .i64 (subL (tbb) ((i) * 7 + 1) (6)) (1) = true ∧
      isI .i64 (subL (subL ar ((i) * 7) (7)) (0) (6)) (2) = true ∧
      isI .i64 (subL (tbb) ((i) * 7 + 1) (6)) (2) = true ∧
      isI .i64 (subL (subL ar ((i) * 7) (7)) (0) (6)) (3) = true ∧
      isI .i64 (subL (tbb) ((i) * 7 + 1) (6)) (3) = true ∧
      isB (subL (subL ar ((i) * 7) (7)) (0) (6)) (4) = true ∧
      isB (subL (tbb) ((i) * 7 + 1) (6)) (4) = true ∧
      isI .i64 (subL (subL ar ((i) * 7) (7)) (0) (6)) (5) = true ∧
      isI .i64 (subL (tbb) ((i) * 7 + 1) (6)) (5) = true ∧
      (((getI (subL (subL ar ((i) * 7) (7)) (0) (6)) (0) : Int) == getI (subL (tbb) ((i) * 7 + 1) (6)) (0)) = true →
        (((getI (subL (subL ar ((i) * 7) (7)) (0) (6)) (1) : Int) == getI (subL (tbb) ((i) * 7 + 1) (6)) (1)) = true →
          (((getI (subL (subL ar ((i) * 7) (7)) (0) (6)) (2) : Int) == getI (subL (tbb) ((i) * 7 + 1) (6)) (2)) = true →
            (((getI (subL (subL ar ((i) * 7) (7)) (0) (6)) (3) : Int) == getI (subL (tbb) ((i) * 7 + 1) (6)) (3)) = true →
              (getB (subL (subL ar ((i) * 7) (7)) (0) (6)) (4) = true →
                (getB (subL (tbb) ((i) * 7 + 1) (6)) (4) = true →
                  (((getI (subL (subL ar ((i) * 7) (7)) (0) (6)) (5) : Int) == getI (subL (tbb) ((i) * 7 + 1) (6)) (5)) = true →
                    (isNilA (subL ar ((i) * 7) (7)) (6) = true →
                      decide ((0 : Int) ≤ ((i : Nat) : Int)) = true ∧
                      decide ((((i : Nat) : Int) : Int) < 13) = true ∧
                      (isNilA (tbb) ((i) * 7 + 7) = true →
                        A) ∧
                      (isNilA (tbb) ((i) * 7 + 7) = false →
                        isPA 1 K (tbb) ((i) * 7 + 7) = true ∧
                        Nat.beq (foA (tbb) ((i) * 7 + 7)) (0) = true ∧
                        leB (fkA 1 (tbb) ((i) * 7 + 7) + 1) (K) = true ∧
                        rowsA sl Ls = true ∧
                        leB (fkA 1 (tbb) ((i) * 7 + 7) + 1) (List.length sl) = true ∧
                        okU [.agg (rowA sl (fkA 1 (tbb) ((i) * 7 + 7)))] = true ∧
                        B)) ∧
                    (isNilA (subL ar ((i) * 7) (7)) (6) = false →
                      isPA 1 K (subL ar ((i) * 7) (7)) (6) = true ∧
                      decide ((0 : Int) ≤ ((i : Nat) : Int)) = true ∧
                      decide ((((i : Nat) : Int) : Int) < 13) = true ∧
                      (isNilA (tbb) ((i) * 7 + 7) = true →
                        Nat.beq (foA (subL ar ((i) * 7) (7)) (6)) (0) = true ∧
                        leB (fkA 1 (subL ar ((i) * 7) (7)) (6) + 1) (K) = true ∧
                        rowsA sl Ls = true ∧
                        leB (fkA 1 (subL ar ((i) * 7) (7)) (6) + 1) (List.length sl) = true ∧
                        okU [.agg (rowA sl (fkA 1 (subL ar ((i) * 7) (7)) (6)))] = true ∧
                        B) ∧
                      (isNilA (tbb) ((i) * 7 + 7) = false →
                        isPA 1 K (tbb) ((i) * 7 + 7) = true ∧
                        Nat.beq (foA (subL ar ((i) * 7) (7)) (6)) (0) = true ∧
                        leB (fkA 1 (subL ar ((i) * 7) (7)) (6) + 1) (K) = true ∧
                        rowsA sl Ls = true ∧
                        leB (fkA 1 (subL ar ((i) * 7) (7)) (6) + 1) (List.length sl) = true ∧
                        okU [.agg (rowA sl (fkA 1 (subL ar ((i) * 7) (7)) (6)))] = true ∧
                        Nat.beq (foA (tbb) ((i) * 7 + 7)) (0) = true ∧
                        leB (fkA 1 (tbb) ((i) * 7 + 7) + 1) (K) = true ∧
                        rowsA sl Ls = true ∧
                        leB (fkA 1 (tbb) ((i) * 7 + 7) + 1) (List.length sl) = true ∧
                        okU [.agg (rowA sl (fkA 1 (tbb) ((i) * 7 + 7)))] = true ∧
                        (sameU [.agg (rowA sl (fkA 1 (subL ar ((i) * 7) (7)) (6))), .agg (rowA sl (fkA 1 (tbb) ((i) * 7 + 7)))] = true →
                          A) ∧
                        (sameU [.agg (rowA sl (fkA 1 (subL ar ((i) * 7) (7)) (6))), .agg (rowA sl (fkA 1 (tbb) ((i) * 7 + 7)))] = false →
                          B)))) ∧
                  (((getI (subL (subL ar ((i) * 7) (7)) (0) (6)) (5) : Int) == getI (subL (tbb) ((i) * 7 + 1) (6)) (5)) = false →
                    B)) ∧
                (getB (subL (tbb) ((i) * 7 + 1) (6)) (4) = false →
                  B)) ∧
              (getB (subL (subL ar ((i) * 7) (7)) (0) (6)) (4) = false →
                (getB (subL (tbb) ((i) * 7 + 1) (6)) (4) = true →
                  B) ∧
                (getB (subL (tbb) ((i) * 7 + 1) (6)) (4) = false →
                  (((getI (subL (subL ar ((i) * 7) (7)) (0) (6)) (5) : Int) == getI (subL (tbb) ((i) * 7 + 1) (6)) (5)) = true →
                    (isNilA (subL ar ((i) * 7) (7)) (6) = true →
                      decide ((0 : Int) ≤ ((i : Nat) : Int)) = true ∧
                      decide ((((i : Nat) : Int) : Int) < 13) = true ∧
                      (isNilA (tbb) ((i) * 7 + 7) = true →
                        A) ∧
                      (isNilA (tbb) ((i) * 7 + 7) = false →
                        isPA 1 K (tbb) ((i) * 7 + 7) = true ∧
                        Nat.beq (foA (tbb) ((i) * 7 + 7)) (0) = true ∧
                        leB (fkA 1 (tbb) ((i) * 7 + 7) + 1) (K) = true ∧
                        rowsA sl Ls = true ∧
                        leB (fkA 1 (tbb) ((i) * 7 + 7) + 1) (List.length sl) = true ∧
                        okU [.agg (rowA sl (fkA 1 (tbb) ((i) * 7 + 7)))] = true ∧
                        B)) ∧
                    (isNilA (subL ar ((i) * 7) (7)) (6) = false →
                      isPA 1 K (subL ar ((i) * 7) (7)) (6) = true ∧
                      decide ((0 : Int) ≤ ((i : Nat) : Int)) = true ∧
                      decide ((((i : Nat) : Int) : Int) < 13) = true ∧
                      (isNilA (tbb) ((i) * 7 + 7) = true →
                        Nat.beq (foA (subL ar ((i) * 7) (7)) (6)) (0) = true ∧
                        leB (fkA 1 (subL ar ((i) * 7) (7)) (6) + 1) (K) = true ∧
                        rowsA sl Ls = true ∧
                        leB (fkA 1 (subL ar ((i) * 7) (7)) (6) + 1) (List.length sl) = true ∧
                        okU [.agg (rowA sl (fkA 1 (subL ar ((i) * 7) (7)) (6)))] = true ∧
                        B) ∧
                      (isNilA (tbb) ((i) * 7 + 7) = false →
                        isPA 1 K (tbb) ((i) * 7 + 7) = true ∧
                        Nat.beq (foA (subL ar ((i) * 7) (7)) (6)) (0) = true ∧
                        leB (fkA 1 (subL ar ((i) * 7) (7)) (6) + 1) (K) = true ∧
                        rowsA sl Ls = true ∧
                        leB (fkA 1 (subL ar ((i) * 7) (7)) (6) + 1) (List.length sl) = true ∧
                        okU [.agg (rowA sl (fkA 1 (subL ar ((i) * 7) (7)) (6)))] = true ∧
                        Nat.beq (foA (tbb) ((i) * 7 + 7)) (0) = true ∧
                        leB (fkA 1 (tbb) ((i) * 7 + 7) + 1) (K) = true ∧
                        rowsA sl Ls = true ∧
                        leB (fkA 1 (tbb) ((i) * 7 + 7) + 1) (List.length sl) = true ∧
                        okU [.agg (rowA sl (fkA 1 (tbb) ((i) * 7 + 7)))] = true ∧
                        (sameU [.agg (rowA sl (fkA 1 (subL ar ((i) * 7) (7)) (6))), .agg (rowA sl (fkA 1 (tbb) ((i) * 7 + 7)))] = true →
                          A) ∧
                        (sameU [.agg (rowA sl (fkA 1 (subL ar ((i) * 7) (7)) (6))), .agg (rowA sl (fkA 1 (tbb) ((i) * 7 + 7)))] = false →
                          B)))) ∧
                  (((getI (subL (subL ar ((i) * 7) (7)) (0) (6)) (5) : Int) == getI (subL (tbb) ((i) * 7 + 1) (6)) (5)) = false →
                    B)))) ∧
            (((getI (subL (subL ar ((i) * 7) (7)) (0) (6)) (3) : Int) == getI (subL (tbb) ((i) * 7 + 1) (6)) (3)) = false →
              B)) ∧
          (((getI (subL (subL ar ((i) * 7) (7)) (0) (6)) (2) : Int) == getI (subL (tbb) ((i) * 7 + 1) (6)) (2)) = false →
            B)) ∧
        (((getI (subL (subL ar ((i) * 7) (7)) (0) (6)) (1) : Int) == getI (subL (tbb) ((i) * 7 + 1) (6)) (1)) = false →
          B)) ∧
      (((getI (subL (subL ar ((i) * 7) (7)) (0) (6)) (0) : Int) == getI (subL (tbb) ((i) * 7 + 1) (6)) (0)) = false →
        B)) ∧
    (decide ((((i : Nat) : Int) : Int) < 13) = false →
      E) := by
  refine ⟨fun h => ?_, fun h => hE (by have := of_decide_eq_false h; omega)⟩
  have hi : i < 13 := by have := of_decide_eq_true h; omega
  have F := F hi
  have hA := hA hi
  have hB := hB hi
  have tl := fun (h : (pcB x y) = true) => sm_tail (A := A) (B := B) F hi (fun e => hA (by rw [h, e]; rfl)) (fun e => hB (by rw [h, e]; rfl))
  have no := fun (h : (pcB x y) = false) => hB (by rw [h]; rfl)
  obtain ⟨px, hX, hu⟩ := F.X
  rw [hX] at tl ⊢
  rw [F.Y]
  refine ⟨decide_eq_true (by omega), h, leB_iff.2 F.lar, ?_, rfl, rfl, decide_eq_true (by omega), h, leB_iff.2 F.ltb, rfl, rfl, rfl, rfl, rfl, rfl, rfl, rfl, rfl, rfl, rfl, rfl, fun c0 => ⟨fun c1 => ⟨fun c2 => ⟨fun c3 => ⟨fun c4 => ⟨fun c5 => ⟨fun c6 => ?_, fun c6 => ?_⟩, fun c5 => ?_⟩, fun c4 => ⟨fun c5 => ?_, fun c5 => ⟨fun c6 => ?_, fun c6 => ?_⟩⟩⟩, fun c3 => ?_⟩, fun c2 => ?_⟩, fun c1 => ?_⟩, fun c0 => ?_⟩
  · rcases hu with ⟨rfl, rfl⟩ | ⟨p, j, rfl, rfl, _⟩ <;> rfl
  · exact tl (by
      have c0 : (x.num == y.num) = true := c0
      have c1 : (x.par == y.par) = true := c1
      have c2 : (x.grp == y.grp) = true := c2
      have c3 : (x.usr == y.usr) = true := c3
      have c4 : x.en = true := c4
      have c5 : y.en = true := c5
      have c6 : (x.st == y.st) = true := c6
      unfold pcB; rw [c0, c1, c2, c3, c4, c5, c6]; rfl)
  · exact no (by
      have c6 : (x.st == y.st) = false := c6
      unfold pcB; rw [c6]; simp)
  · exact no (by
      have c4 : x.en = true := c4
      have c5 : y.en = false := c5
      unfold pcB; rw [c4, c5]; simp)
  · exact no (by
      have c4 : x.en = false := c4
      have c5 : y.en = true := c5
      unfold pcB; rw [c4, c5]; simp)
  · exact tl (by
      have c0 : (x.num == y.num) = true := c0
      have c1 : (x.par == y.par) = true := c1
      have c2 : (x.grp == y.grp) = true := c2
      have c3 : (x.usr == y.usr) = true := c3
      have c4 : x.en = false := c4
      have c5 : y.en = false := c5
      have c6 : (x.st == y.st) = true := c6
      unfold pcB; rw [c0, c1, c2, c3, c4, c5, c6]; rfl)
  · exact no (by
      have c6 : (x.st == y.st) = false := c6
      unfold pcB; rw [c6]; simp)
  · exact no (by
      have c3 : (x.usr == y.usr) = false := c3
      unfold pcB; rw [c3]; simp)
  · exact no (by
      have c2 : (x.grp == y.grp) = false := c2
      unfold pcB; rw [c2]; simp)
  · exact no (by
      have c1 : (x.par == y.par) = false := c1
      unfold pcB; rw [c1]; simp)
  · exact no (by
      have c0 : (x.num == y.num) = false := c0
      unfold pcB; rw [c0]; simp)
end Go.Am
