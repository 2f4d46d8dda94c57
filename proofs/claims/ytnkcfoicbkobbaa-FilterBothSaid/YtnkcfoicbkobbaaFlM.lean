/-
  Filters: the program's plain filter told; what two filters have both.
-/
import Derived.Test.YtnkcfoicbkobbaaFlL
namespace Go.Am
open Go.Proofs
set_option maxRecDepth 100000
theorem pl_call (G : Nat → List AV) (B : Nat) (k n : Nat) (h : okT (G k) n = true) : ACalls (⟨Try.prog, G, B⟩ : Ctx) 33 [.slice true (.ro k) 0 n] [] fun v H => v = .tup [.slice true (.rw 0) 0 (if mayF (G k) n = true then ppK (G k) n 64 else 0), .bool (mayF (G k) n)] ∧ H = [some ⟨3, if mayF (G k) n = true then ppC (G k) n 64 else []⟩] := by
  have hl := (okT_iff.1 h).1
  have := dcall_ok (C := (⟨Try.prog, G, B⟩ : Ctx)) (fuel := 300) (n0 := 20) (f := 33) (fn := Try.f33) (args := [.slice true (.ro (.var 1 k)) (.lit 0) (.var 2 n)]) (H := []) (keep := 9)
    (R := fun v H => (mayF (G k) n = true ∧ v = .tup [.slice true (.rw 1) 0 (ppK (G k) n 64), .bool true] ∧ H = [some ⟨1, wtF (G k) n⟩, some ⟨3, ppC (G k) n 64⟩]) ∨ (mayF (G k) n = false ∧ v = .tup [.nils, .bool false])) (dgood (inl := []) (ls := [(DLat 1642 (plQ G k n) 0 36 [6, 16, 17] (plO G k n))]) (M := 0) (mixF G B) (by kernel_rfl) (progK_ok G B) (.cast (.cons (i := 0) (by kernel_rfl) rfl (plL_ok G B k n) .nil) (by kernel_rfl))) (by kernel_rfl) (by kernel_rfl) (by kernel_rfl) (by
    rw [t33, wtU_eq hl, mayU2_eq hl, (ppU_eq hl).1, (ppU_eq hl).2, wtF_sub]
    refine ⟨okTU_eq h, wtF_cells, by rw [wtF_len]; rfl, fun e => ⟨leB_iff.2 (by rw [wtF_len]; omega), stQ_refl (by rw [h, e]; rfl) (by simp only [noRcds, noRcd, wtF_flat.2.2]; rfl) (by simp only [encHB, List.map_cons, List.map_nil, noRcds, noRcd, wtF_flat.2.2]; rfl), .inl ⟨e, ?_, ?_⟩⟩, fun e => .inr ⟨e, rfl⟩⟩
    · rw [if_pos e]
    · rw [if_pos e])
  refine ACalls.one (b := ⟨3, _⟩) this ?_ (by simp [bnd, bnds]) (fun j => by simp [ren, rens]) ?_
  · show bnds 0 (if mayF (G k) n = true then ppC (G k) n 64 else []) = true
    split
    · exact (ints_flat ppC_ints).1
    · rfl
  rintro v H (⟨e, rfl, hH⟩ | ⟨e, rfl⟩)
  · refine .inl ⟨1, ?_, by rw [e, if_pos rfl]; rfl⟩
    have := congrArg (fun l => l[1]?) hH
    rw [if_pos e]
    simpa [List.getElem?_take] using this
  · refine .inr ⟨by rw [e]; rfl, ?_⟩
    rw [e]
    exact ⟨.inr ⟨rfl, rfl⟩, .inl rfl, trivial⟩
def plS : DSum := fun args H => match args with
  | [x] => match rdT H x with
    | some (l, n) => some (.chk (.uf 1614 okTU [.agg l, .int .i64 (.ofN n)]) (.one (.tup [.slice true (.rw H.length) (.lit 0) (.uf 1640 ppN [.agg l, .int .i64 (.ofN n)]), .bool (.uf 1615 mayU2 [.agg l, .int .i64 (.ofN n)])]) [.new ⟨3, .uf 1641 ppU [.agg l, .int .i64 (.ofN n)]⟩]))
    | none => none
  | _ => none
theorem pp_flat {c : Prop} [Decidable c] {cs : List AV} {n k : Nat} : bnds 0 (if c then ppC cs n k else []) = true ∧ noros (if c then ppC cs n k else []) = true := by
  split
  · exact ⟨(ints_flat ppC_ints).1, (ints_flat ppC_ints).2.1⟩
  · exact ⟨rfl, rfl⟩
theorem plS_ok (G : Nat → List AV) (B : Nat) : DSumOk (⟨Try.prog, G, B⟩ : Ctx) 33 plS := by
  intro args H o ho
  unfold plS at ho
  split at ho
  · split at ho
    · rename_i x l n hx
      simp only [Option.some.injEq] at ho
      subst ho
      intro h1
      exact DOut.n1 (C := (⟨Try.prog, G, B⟩ : Ctx)) (F := fun cs n => .tup [.slice true (.rw 0) 0 (if mayF cs n = true then ppK cs n 64 else 0), .bool (mayF cs n)]) (Bk := fun cs n => ⟨3, if mayF cs n = true then ppC cs n 64 else []⟩) hx h1 ⟨rfl, rfl⟩ (fun G B k n h => pl_call G B k n h) rfl pp_flat rfl rfl
    · simp at ho
  · simp at ho
def progM : List (Nat × DSum) := (32, caS) :: (33, plS) :: progK
theorem progM_ok (G : Nat → List AV) (B : Nat) : DSumsOk (⟨Try.prog, G, B⟩ : Ctx) progM := .cons (caS_ok G B) (.cons (plS_ok G B) (progK_ok G B))
theorem t21 (G : Nat → List AV) (k n k2 m : Nat) (Q : Ex → List AV → Hp → Prop) (R : AV → Hp → Prop) : vT G Q R (dcall (Dc Try.prog [] progM [] 0) 300 20 Try.f21 [.slice true (.ro (.var 1 k)) (.lit 0) (.var 2 n), .slice true (.ro (.var 3 k2)) (.lit 0) (.var 4 m)] [] 9) = (
    rowsU [.agg (G (k)), .int .i64 (((n : Nat) : Int))] = true ∧
    (((chkU [.agg (G (k)), .int .i64 (((n : Nat) : Int))] : Int) == 0) = true →
      rowsU [.agg (G (k2)), .int .i64 (((m : Nat) : Int))] = true ∧
      (((chkU [.agg (G (k2)), .int .i64 (((m : Nat) : Int))] : Int) == 0) = true →
        rowsU [.agg (G (k)), .int .i64 (((n : Nat) : Int))] = true ∧
        rowsU [.agg (G (k2)), .int .i64 (((m : Nat) : Int))] = true ∧
        leB (n) (1000000) = true ∧
        leB (m) (1000000) = true ∧
        okTU [.agg ((subL (G (k)) (0) ((n) * 3)) ++ (subL (G (k2)) (0) ((m) * 3))), .int .i64 (((n + m : Nat) : Int))] = true ∧
        (mayU2 [.agg ((subL (G (k)) (0) ((n) * 3)) ++ (subL (G (k2)) (0) ((m) * 3))), .int .i64 (((n + m : Nat) : Int))] = true →
          (decide ((((ppN [.agg ((subL (G (k)) (0) ((n) * 3)) ++ (subL (G (k2)) (0) ((m) * 3))), .int .i64 (((n + m : Nat) : Int))] : Nat) : Int) : Int) > 8) = true →
            R (.tup [.nils, .int .i64 (3)]) [some ⟨1, ([.slice true (.ro (k)) (0) (n), .slice true (.ro (k2)) (0) (m)] : List AV)⟩, some ⟨3, ((subL (G (k)) (0) ((n) * 3)) ++ (subL (G (k2)) (0) ((m) * 3)))⟩, some ⟨3, (ppU [.agg ((subL (G (k)) (0) ((n) * 3)) ++ (subL (G (k2)) (0) ((m) * 3))), .int .i64 (((n + m : Nat) : Int))])⟩]) ∧
          (decide ((((ppN [.agg ((subL (G (k)) (0) ((n) * 3)) ++ (subL (G (k2)) (0) ((m) * 3))), .int .i64 (((n + m : Nat) : Int))] : Nat) : Int) : Int) > 8) = false →
            R (.tup [.slice true (.rw 2) (0) (ppN [.agg ((subL (G (k)) (0) ((n) * 3)) ++ (subL (G (k2)) (0) ((m) * 3))), .int .i64 (((n + m : Nat) : Int))]), .int .i64 (0)]) [some ⟨1, ([.slice true (.ro (k)) (0) (n), .slice true (.ro (k2)) (0) (m)] : List AV)⟩, some ⟨3, ((subL (G (k)) (0) ((n) * 3)) ++ (subL (G (k2)) (0) ((m) * 3)))⟩, some ⟨3, (ppU [.agg ((subL (G (k)) (0) ((n) * 3)) ++ (subL (G (k2)) (0) ((m) * 3))), .int .i64 (((n + m : Nat) : Int))])⟩])) ∧
        (mayU2 [.agg ((subL (G (k)) (0) ((n) * 3)) ++ (subL (G (k2)) (0) ((m) * 3))), .int .i64 (((n + m : Nat) : Int))] = false →
          R (.tup [.nils, .int .i64 (210)]) [some ⟨1, ([.slice true (.ro (k)) (0) (n), .slice true (.ro (k2)) (0) (m)] : List AV)⟩, some ⟨3, ((subL (G (k)) (0) ((n) * 3)) ++ (subL (G (k2)) (0) ((m) * 3)))⟩, some ⟨3, (ppU [.agg ((subL (G (k)) (0) ((n) * 3)) ++ (subL (G (k2)) (0) ((m) * 3))), .int .i64 (((n + m : Nat) : Int))])⟩])) ∧
      (((chkU [.agg (G (k2)), .int .i64 (((m : Nat) : Int))] : Int) == 0) = false →
        R (.tup [.nils, .int .i64 (2)]) [])) ∧
    (((chkU [.agg (G (k)), .int .i64 (((n : Nat) : Int))] : Int) == 0) = false →
      R (.tup [.nils, .int .i64 (2)]) [])) := by kernel_rfl
theorem t20 (G : Nat → List AV) (k n k2 m : Nat) (Q : Ex → List AV → Hp → Prop) (R : AV → Hp → Prop) : vT G Q R (dcall (Dc Try.prog [] progM [] 0) 300 20 Try.f20 [.slice true (.ro (.var 1 k)) (.lit 0) (.var 2 n), .slice true (.ro (.var 3 k2)) (.lit 0) (.var 4 m)] [] 0) = (
    rowsU [.agg (G (k)), .int .i64 (((n : Nat) : Int))] = true ∧
    (((chkU [.agg (G (k)), .int .i64 (((n : Nat) : Int))] : Int) == 0) = true →
      rowsU [.agg (G (k2)), .int .i64 (((m : Nat) : Int))] = true ∧
      (((chkU [.agg (G (k2)), .int .i64 (((m : Nat) : Int))] : Int) == 0) = true →
        rowsU [.agg (G (k)), .int .i64 (((n : Nat) : Int))] = true ∧
        rowsU [.agg (G (k2)), .int .i64 (((m : Nat) : Int))] = true ∧
        leB (n) (1000000) = true ∧
        leB (m) (1000000) = true ∧
        okTU [.agg ((subL (G (k)) (0) ((n) * 3)) ++ (subL (G (k2)) (0) ((m) * 3))), .int .i64 (((n + m : Nat) : Int))] = true ∧
        cellsB (wtU [.agg ((subL (G (k)) (0) ((n) * 3)) ++ (subL (G (k2)) (0) ((m) * 3))), .int .i64 (((n + m : Nat) : Int))]) = true ∧
        Nat.beq (List.length (wtU [.agg ((subL (G (k)) (0) ((n) * 3)) ++ (subL (G (k2)) (0) ((m) * 3))), .int .i64 (((n + m : Nat) : Int))])) (192) = true ∧
        R (.tup [.bool ((!(mayU2 [.agg ((subL (G (k)) (0) ((n) * 3)) ++ (subL (G (k2)) (0) ((m) * 3))), .int .i64 (((n + m : Nat) : Int))]))), .int .i64 (0)]) []) ∧
      (((chkU [.agg (G (k2)), .int .i64 (((m : Nat) : Int))] : Int) == 0) = false →
        R (.tup [.bool (false), .int .i64 (2)]) [])) ∧
    (((chkU [.agg (G (k)), .int .i64 (((n : Nat) : Int))] : Int) == 0) = false →
      R (.tup [.bool (false), .int .i64 (2)]) [])) := by kernel_rfl
theorem t22 (G : Nat → List AV) (k n k2 m : Nat) (Q : Ex → List AV → Hp → Prop) (R : AV → Hp → Prop) : vT G Q R (dcall (Dc Try.prog [] progM [] 0) 300 20 Try.f22 [.slice true (.ro (.var 1 k)) (.lit 0) (.var 2 n), .slice true (.ro (.var 3 k2)) (.lit 0) (.var 4 m)] [] 0) = (
    rowsU [.agg (G (k)), .int .i64 (((n : Nat) : Int))] = true ∧
    (((chkU [.agg (G (k)), .int .i64 (((n : Nat) : Int))] : Int) == 0) = true →
      rowsU [.agg (G (k2)), .int .i64 (((m : Nat) : Int))] = true ∧
      (((chkU [.agg (G (k2)), .int .i64 (((m : Nat) : Int))] : Int) == 0) = true →
        okTU [.agg (G (k)), .int .i64 (((n : Nat) : Int))] = true ∧
        rowsU [.agg (G (k)), .int .i64 (((n : Nat) : Int))] = true ∧
        rowsU [.agg (G (k2)), .int .i64 (((m : Nat) : Int))] = true ∧
        leB (n) (1000000) = true ∧
        leB (m) (1000000) = true ∧
        okTU [.agg ((subL (G (k)) (0) ((n) * 3)) ++ (subL (G (k2)) (0) ((m) * 3))), .int .i64 (((n + m : Nat) : Int))] = true ∧
        (mayU2 [.agg (G (k)), .int .i64 (((n : Nat) : Int))] = true →
          (mayU2 [.agg ((subL (G (k)) (0) ((n) * 3)) ++ (subL (G (k2)) (0) ((m) * 3))), .int .i64 (((n + m : Nat) : Int))] = true →
            okTU [.agg (ppU [.agg (G (k)), .int .i64 (((n : Nat) : Int))]), .int .i64 (((ppN [.agg (G (k)), .int .i64 (((n : Nat) : Int))] : Nat) : Int))] = true ∧
            okTU [.agg (ppU [.agg ((subL (G (k)) (0) ((n) * 3)) ++ (subL (G (k2)) (0) ((m) * 3))), .int .i64 (((n + m : Nat) : Int))]), .int .i64 (((ppN [.agg ((subL (G (k)) (0) ((n) * 3)) ++ (subL (G (k2)) (0) ((m) * 3))), .int .i64 (((n + m : Nat) : Int))] : Nat) : Int))] = true ∧
            R (.tup [.bool (stU [.agg (ppU [.agg (G (k)), .int .i64 (((n : Nat) : Int))]), .int .i64 (((ppN [.agg (G (k)), .int .i64 (((n : Nat) : Int))] : Nat) : Int)), .agg (ppU [.agg ((subL (G (k)) (0) ((n) * 3)) ++ (subL (G (k2)) (0) ((m) * 3))), .int .i64 (((n + m : Nat) : Int))]), .int .i64 (((ppN [.agg ((subL (G (k)) (0) ((n) * 3)) ++ (subL (G (k2)) (0) ((m) * 3))), .int .i64 (((n + m : Nat) : Int))] : Nat) : Int))]), .int .i64 (0)]) []) ∧
          (mayU2 [.agg ((subL (G (k)) (0) ((n) * 3)) ++ (subL (G (k2)) (0) ((m) * 3))), .int .i64 (((n + m : Nat) : Int))] = false →
            R (.tup [.bool (false), .int .i64 (0)]) [])) ∧
        (mayU2 [.agg (G (k)), .int .i64 (((n : Nat) : Int))] = false →
          R (.tup [.bool (true), .int .i64 (0)]) [])) ∧
      (((chkU [.agg (G (k2)), .int .i64 (((m : Nat) : Int))] : Int) == 0) = false →
        R (.tup [.bool (false), .int .i64 (2)]) [])) ∧
    (((chkU [.agg (G (k)), .int .i64 (((n : Nat) : Int))] : Int) == 0) = false →
      R (.tup [.bool (false), .int .i64 (2)]) [])) := by kernel_rfl
theorem t13 (G : Nat → List AV) (k n : Nat) (Q : Ex → List AV → Hp → Prop) (R : AV → Hp → Prop) : vT G Q R (dcall (Dc Try.prog [] progM [] 0) 300 20 Try.f13 [.slice true (.ro (.var 1 k)) (.lit 0) (.var 2 n)] [] 0) = (
    rowsU [.agg (G (k)), .int .i64 (((n : Nat) : Int))] = true ∧
    (((chkU [.agg (G (k)), .int .i64 (((n : Nat) : Int))] : Int) == 0) = true →
      okTU [.agg (G (k)), .int .i64 (((n : Nat) : Int))] = true ∧
      cellsB (wtU [.agg (G (k)), .int .i64 (((n : Nat) : Int))]) = true ∧
      Nat.beq (List.length (wtU [.agg (G (k)), .int .i64 (((n : Nat) : Int))])) (192) = true ∧
      R (.tup [.bool ((!(mayU2 [.agg (G (k)), .int .i64 (((n : Nat) : Int))]))), .int .i64 (0)]) []) ∧
    (((chkU [.agg (G (k)), .int .i64 (((n : Nat) : Int))] : Int) == 0) = false →
      R (.tup [.bool (false), .int .i64 (chkU [.agg (G (k)), .int .i64 (((n : Nat) : Int))])]) [])) := by kernel_rfl
/-! ### plainly -/
def ct2 (cs : List AV) (n : Nat) (ds : List AV) (m : Nat) : List AV := ctT cs n ++ ctT ds m
theorem ctT_ctT {cs : List AV} {n : Nat} : ctT (ctT cs n) n = ctT cs n := by unfold ctT; rw [List.take_take, Nat.min_self]
theorem mayB_ct {cs : List AV} {n : Nat} : mayB (ctT cs n) n = mayB cs n := mayB_take
def boE (cs : List AV) (n : Nat) (ds : List AV) (m : Nat) : Int := if (mayB cs n && mayB ds m) = true then (if mayF (ct2 cs n ds m) (n + m) = true then (if ppK (ct2 cs n ds m) (n + m) 64 > 8 then 3 else 0) else 210) else 2
def boK (cs : List AV) (n : Nat) (ds : List AV) (m : Nat) : Nat := if boE cs n ds m = 0 then ppK (ct2 cs n ds m) (n + m) 64 else 0
def boC (cs : List AV) (n : Nat) (ds : List AV) (m : Nat) : List AV := if boE cs n ds m = 0 then ppC (ct2 cs n ds m) (n + m) 64 else []
def apE (cs : List AV) (n : Nat) (ds : List AV) (m : Nat) : Int := if (mayB cs n && mayB ds m) = true then 0 else 2
def apB (cs : List AV) (n : Nat) (ds : List AV) (m : Nat) : Bool := (mayB cs n && mayB ds m) && !mayF (ct2 cs n ds m) (n + m)
def wiB (cs : List AV) (n : Nat) (ds : List AV) (m : Nat) : Bool := (mayB cs n && mayB ds m) && (!mayF (ctT cs n) n || (mayF (ct2 cs n ds m) (n + m) && stF (ppC (ctT cs n) n 64) (ppK (ctT cs n) n 64) (ppC (ct2 cs n ds m) (n + m) 64) (ppK (ct2 cs n ds m) (n + m) 64)))
def neB (cs : List AV) (n : Nat) : Bool := mayB cs n && !mayF (ctT cs n) n
theorem ct2_okI {cs ds : List AV} {n m : Nat} (h : okI .i64 cs 0 (n * 3) = true) (h2 : okI .i64 ds 0 (m * 3) = true) : (ct2 cs n ds m).length = (n + m) * 3 ∧ okI .i64 (ct2 cs n ds m) 0 ((n + m) * 3) = true := by
  obtain ⟨i1, l1⟩ := ct_ints h
  obtain ⟨i2, l2⟩ := ct_ints h2
  have i3 : (ct2 cs n ds m).all isI64V = true := by unfold ct2; rw [List.all_append, i1, i2]; rfl
  have hl : (ct2 cs n ds m).length = (n + m) * 3 := by unfold ct2; rw [List.length_append, l1, l2]; omega
  exact ⟨hl, (ints_flat i3).2.2.2 _ (by omega)⟩
theorem ct2_get {cs ds : List AV} {n m j : Nat} (h : okI .i64 cs 0 (n * 3) = true) (h2 : okI .i64 ds 0 (m * 3) = true) : getI (ct2 cs n ds m) j = if j < n * 3 then getI cs j else if j < (n + m) * 3 then getI ds (j - n * 3) else 0 := by
  obtain ⟨i1, l1⟩ := ct_ints h
  obtain ⟨i2, l2⟩ := ct_ints h2
  have o1 := okI_len h
  have o2 := okI_len h2
  unfold ct2 getI
  by_cases e : j < n * 3
  · rw [if_pos e, List.getElem?_append_left (by omega)]
    unfold ctT
    rw [List.getElem?_take, if_pos e]
  · rw [if_neg e, List.getElem?_append_right (by omega), l1]
    unfold ctT
    rw [List.getElem?_take]
    by_cases e2 : j < (n + m) * 3
    · rw [if_pos (by omega), if_pos e2]
    · rw [if_neg (by omega), if_neg e2]
theorem ct2_tst {cs ds : List AV} {n m i : Nat} (h : okI .i64 cs 0 (n * 3) = true) (h2 : okI .i64 ds 0 (m * 3) = true) : (i < n → tA (ct2 cs n ds m) i = tA cs i ∧ tM (ct2 cs n ds m) i = tM cs i ∧ tV (ct2 cs n ds m) i = tV cs i) ∧ (n ≤ i → i < n + m → tA (ct2 cs n ds m) i = tA ds (i - n) ∧ tM (ct2 cs n ds m) i = tM ds (i - n) ∧ tV (ct2 cs n ds m) i = tV ds (i - n)) := by
  unfold tA tM tV
  rw [ct2_get h h2, ct2_get h h2, ct2_get h h2]
  refine ⟨fun hi => ?_, fun h1 h2 => ?_⟩
  · rw [if_pos (by omega), if_pos (by omega), if_pos (by omega)]; exact ⟨rfl, rfl, rfl⟩
  · rw [if_neg (show ¬ i * 3 < n * 3 by omega), if_pos (show i * 3 < (n + m) * 3 by omega), if_neg (show ¬ i * 3 + 1 < n * 3 by omega), if_pos (show i * 3 + 1 < (n + m) * 3 by omega), if_neg (show ¬ i * 3 + 2 < n * 3 by omega), if_pos (show i * 3 + 2 < (n + m) * 3 by omega)]
    rw [show i * 3 - n * 3 = (i - n) * 3 by omega, show i * 3 + 1 - n * 3 = (i - n) * 3 + 1 by omega, show i * 3 + 2 - n * 3 = (i - n) * 3 + 2 by omega]
    exact ⟨rfl, rfl, rfl⟩
theorem ct2_okT {cs ds : List AV} {n m : Nat} (h : okI .i64 cs 0 (n * 3) = true) (h2 : okI .i64 ds 0 (m * 3) = true) (hm : mayB cs n = true) (hm2 : mayB ds m = true) : okT (ct2 cs n ds m) (n + m) = true := by
  obtain ⟨a1, a2⟩ := mayB_iff.1 hm
  obtain ⟨b1, b2⟩ := mayB_iff.1 hm2
  obtain ⟨c1, c2⟩ := ct2_okI h h2
  refine okT_iff.2 ⟨c1, by omega, c2, fun i hi => ?_⟩
  obtain ⟨t1, t2⟩ := ct2_tst (i := i) h h2
  by_cases e : i < n
  · obtain ⟨e1, e2, e3⟩ := t1 e
    rw [show okTst (ct2 cs n ds m) i = okTst cs i by unfold okTst; rw [e1, e2, e3]]
    exact a2 i e
  · obtain ⟨e1, e2, e3⟩ := t2 (by omega) hi
    rw [show okTst (ct2 cs n ds m) i = okTst ds (i - n) by unfold okTst; rw [e1, e2, e3]]
    exact b2 (i - n) (by omega)
theorem ct_okT {cs : List AV} {n : Nat} (h : okI .i64 cs 0 (n * 3) = true) (hm : mayB cs n = true) : okT (ctT cs n) n = true :=
  ctT_ok h (allTo_iff.2 (mayB_iff.1 hm).2) (by have := (mayB_iff.1 hm).1; omega)
/-- a plain filter's tests may be -/
theorem psC_tst {cs : List AV} {n : Nat} (ho : okF cs n) : ∀ {k i : Nat}, k ≤ 64 → i < psK cs n k → okTst (psC cs n k) i = true
  | k + 1, i, hk, hi => by
    obtain ⟨h1, h2⟩ := psC_len (cs := cs) (n := n) k
    simp only [psC, psK] at hi ⊢
    split
    · rename_i hm; rw [if_pos hm] at hi; exact psC_tst ho (by omega) hi
    · rename_i hm
      rw [if_neg hm] at hi
      by_cases e : i = psK cs n k
      · subst e
        have g : ∀ j, getI (psC cs n k ++ rowV cs n k) (psK cs n k * 3 + j) = getI (rowV cs n k) j := fun j => by
          unfold getI; rw [List.getElem?_append_right (by omega), h1, show psK cs n k * 3 + j - psK cs n k * 3 = j by omega]
        have l1 := mkAt_lt ho k
        have l2 := vlAt_lt ho k
        refine okTst_iff.2 ?_
        unfold tA tM tV
        rw [show psK cs n k * 3 = psK cs n k * 3 + 0 from rfl, g 0, Nat.add_zero, g 1, g 2]
        show (0 ≤ (k : Int) ∧ (k : Int) < 64) ∧ (0 ≤ (mkAt cs n k : Int) ∧ (mkAt cs n k : Int) ≤ 255) ∧ (0 ≤ (vlAt cs n k : Int) ∧ (vlAt cs n k : Int) ≤ 255)
        omega
      · have := psC_tst ho (k := k) (i := i) (by omega) (by omega)
        unfold okTst tA tM tV at this ⊢
        have g : ∀ j, j < 3 → getI (psC cs n k ++ rowV cs n k) (i * 3 + j) = getI (psC cs n k) (i * 3 + j) := fun j hj => by
          unfold getI; rw [List.getElem?_append_left (by omega)]
        have g0 := g 0 (by omega)
        rw [Nat.add_zero] at g0
        rw [g0, g 1 (by omega), g 2 (by omega)]
        exact this
theorem plF_lt {cs : List AV} {n : Nat} : ∀ {k : Nat}, 0 < k → plF cs n k < k
  | k + 1, _ => by
    simp only [plF]
    split
    · omega
    · by_cases e : k = 0
      · subst e; simp [plF]
      · have := plF_lt (cs := cs) (n := n) (k := k) (by omega); omega
theorem ppC_okT {cs : List AV} {n : Nat} (ho : okF cs n) : okT (ppC cs n 64) (ppK cs n 64) = true := by
  obtain ⟨h1, h2⟩ := ppC_len (cs := cs) (n := n) (k := 64)
  refine okT_iff.2 ⟨h1, by omega, (ints_flat ppC_ints).2.2.2 _ (by omega), fun i hi => ?_⟩
  obtain ⟨g1, g2⟩ := psC_len (cs := cs) (n := n) 64
  unfold ppC ppK at *
  split
  · rename_i hz
    rw [if_pos hz] at hi
    by_cases e : i = psK cs n 64
    · subst e
      have g : ∀ j, getI (psC cs n 64 ++ rowV cs n (plF cs n 64)) (psK cs n 64 * 3 + j) = getI (rowV cs n (plF cs n 64)) j := fun j => by
        unfold getI; rw [List.getElem?_append_right (by omega), g1, show psK cs n 64 * 3 + j - psK cs n 64 * 3 = j by omega]
      have l0 := plF_lt (cs := cs) (n := n) (k := 64) (by omega)
      have l1 := mkAt_lt ho (plF cs n 64)
      have l2 := vlAt_lt ho (plF cs n 64)
      refine okTst_iff.2 ?_
      unfold tA tM tV
      rw [show psK cs n 64 * 3 = psK cs n 64 * 3 + 0 from rfl, g 0, Nat.add_zero, g 1, g 2]
      show (0 ≤ (plF cs n 64 : Int) ∧ (plF cs n 64 : Int) < 64) ∧ (0 ≤ (mkAt cs n (plF cs n 64) : Int) ∧ (mkAt cs n (plF cs n 64) : Int) ≤ 255) ∧ (0 ≤ (vlAt cs n (plF cs n 64) : Int) ∧ (vlAt cs n (plF cs n 64) : Int) ≤ 255)
      omega
    · have := psC_tst ho (k := 64) (i := i) (by omega) (by omega)
      unfold okTst tA tM tV at this ⊢
      have g : ∀ j, j < 3 → getI (psC cs n 64 ++ rowV cs n (plF cs n 64)) (i * 3 + j) = getI (psC cs n 64) (i * 3 + j) := fun j hj => by
        unfold getI; rw [List.getElem?_append_left (by omega)]
      have g0 := g 0 (by omega)
      rw [Nat.add_zero] at g0
      rw [g0, g 1 (by omega), g 2 (by omega)]
      exact this
  · rename_i hz
    rw [if_neg hz] at hi
    exact psC_tst ho (by omega) hi
/-! ### the calls -/
theorem chkU_eq {cs : List AV} {n : Nat} : (chkU [.agg cs, .int .i64 (n : Int)] : Int) = if mayB cs n then 0 else 2 := by simp only [chkU, int_nat]
theorem chkU_t {cs : List AV} {n : Nat} : ((chkU [.agg cs, .int .i64 (n : Int)] : Int) == 0) = mayB cs n := by
  rw [chkU_eq]; cases mayB cs n <;> rfl
theorem okTU_ct {cs : List AV} {n : Nat} : okTU [.agg cs, .int .i64 (n : Int)] = okT (ctT cs n) n := by simp only [okTU, int_nat]
theorem ct_full {cs : List AV} {n : Nat} (h : okT cs n = true) : ctT cs n = cs := ctT_all (okT_iff.1 h).1
theorem bo_call (G : Nat → List AV) (B : Nat) (k n k2 m : Nat) (h : okI .i64 (G k) 0 (n * 3) = true) (h2 : okI .i64 (G k2) 0 (m * 3) = true) : ACalls (⟨Try.prog, G, B⟩ : Ctx) 21 [.slice true (.ro k) 0 n, .slice true (.ro k2) 0 m] [] fun v H => v = .tup [.slice true (.rw 0) 0 (boK (G k) n (G k2) m), .int .i64 (boE (G k) n (G k2) m)] ∧ H = [some ⟨3, boC (G k) n (G k2) m⟩] := by
  have := dcall_ok (C := (⟨Try.prog, G, B⟩ : Ctx)) (fuel := 300) (n0 := 20) (f := 21) (fn := Try.f21) (args := [.slice true (.ro (.var 1 k)) (.lit 0) (.var 2 n), .slice true (.ro (.var 3 k2)) (.lit 0) (.var 4 m)]) (H := []) (keep := 9)
    (R := fun v H => (boE (G k) n (G k2) m = 0 ∧ v = .tup [.slice true (.rw 2) 0 (boK (G k) n (G k2) m), .int .i64 (boE (G k) n (G k2) m)] ∧ H[2]? = some (some ⟨3, boC (G k) n (G k2) m⟩)) ∨ (boE (G k) n (G k2) m ≠ 0 ∧ v = .tup [.nils, .int .i64 (boE (G k) n (G k2) m)])) (by rw [show loopsOf (bodyOf Try.f21) = [] by kernel_rfl]; exact dgood (inl := []) (ls := []) (M := 0) (mixF G B) (by kernel_rfl) (progM_ok G B) .nil) (by kernel_rfl) (by kernel_rfl) (by kernel_rfl) (by
    rw [t21, chkU_t, chkU_t, subL_ct, subL_ct]
    have hc : ctT (G k) n ++ ctT (G k2) m = ct2 (G k) n (G k2) m := rfl
    rw [hc]
    refine ⟨h, fun e1 => ⟨h2, fun e2 => ?_, fun e2 => ?_⟩, fun e1 => ?_⟩
    · have ok := ct2_okT h h2 e1 e2
      have hl := (okT_iff.1 ok).1
      have n8 := (mayB_iff.1 e1).1
      have m8 := (mayB_iff.1 e2).1
      rw [okTU_ct, ct_full ok, mayU2_eq hl, (ppU_eq hl).1, (ppU_eq hl).2]
      refine ⟨h, h2, leB_iff.2 (by omega), leB_iff.2 (by omega), ok, fun e3 => ?_, fun e3 => ?_⟩
      · rw [if_pos e3, if_pos e3]
        refine ⟨fun e4 => ?_, fun e4 => ?_⟩
        · have e4 := of_decide_eq_true e4
          have e : boE (G k) n (G k2) m = 3 := by simp only [boE, e1, e2, e3, Bool.and_self, if_true]; rw [if_pos (by omega)]
          rw [e]; exact .inr ⟨by decide, rfl⟩
        · have e4 := of_decide_eq_false e4
          have e : boE (G k) n (G k2) m = 0 := by simp only [boE, e1, e2, e3, Bool.and_self, if_true]; rw [if_neg (by omega)]
          unfold boK boC
          rw [if_pos e, if_pos e, e]; exact .inl ⟨rfl, rfl, rfl⟩
      · have e : boE (G k) n (G k2) m = 210 := by simp [boE, e1, e2, e3]
        rw [e]; exact .inr ⟨by decide, rfl⟩
    · have e : boE (G k) n (G k2) m = 2 := by simp [boE, e1, e2]
      rw [e]; exact .inr ⟨by decide, rfl⟩
    · have e : boE (G k) n (G k2) m = 2 := by simp [boE, e1]
      rw [e]; exact .inr ⟨by decide, rfl⟩)
  refine ACalls.one (b := ⟨3, _⟩) this pp_flat.1 (by simp [bnd, bnds]) (fun j => by simp [ren, rens]) ?_
  rintro v H (⟨e, rfl, hH⟩ | ⟨e, rfl⟩)
  · refine .inl ⟨2, ?_, rfl⟩
    rw [List.getElem?_take] at hH
    simpa using hH
  · refine .inr ⟨by unfold boC; rw [if_neg e], ?_⟩
    have : boK (G k) n (G k2) m = 0 := by unfold boK; rw [if_neg e]
    rw [this]
    exact ⟨.inr ⟨rfl, rfl⟩, .inl rfl, trivial⟩
theorem ap_call (G : Nat → List AV) (B : Nat) (k n k2 m : Nat) (h : okI .i64 (G k) 0 (n * 3) = true) (h2 : okI .i64 (G k2) 0 (m * 3) = true) : ACalls (⟨Try.prog, G, B⟩ : Ctx) 20 [.slice true (.ro k) 0 n, .slice true (.ro k2) 0 m] [] fun v _ => v = .tup [.bool (apB (G k) n (G k2) m), .int .i64 (apE (G k) n (G k2) m)] := by
  have := dcall_ok (C := (⟨Try.prog, G, B⟩ : Ctx)) (fuel := 300) (n0 := 20) (f := 20) (fn := Try.f20) (args := [.slice true (.ro (.var 1 k)) (.lit 0) (.var 2 n), .slice true (.ro (.var 3 k2)) (.lit 0) (.var 4 m)]) (H := []) (keep := 0)
    (R := fun v _ => v = .tup [.bool (apB (G k) n (G k2) m), .int .i64 (apE (G k) n (G k2) m)]) (by rw [show loopsOf (bodyOf Try.f20) = [] by kernel_rfl]; exact dgood (inl := []) (ls := []) (M := 0) (mixF G B) (by kernel_rfl) (progM_ok G B) .nil) (by kernel_rfl) (by kernel_rfl) (by kernel_rfl) (by
    rw [t20, chkU_t, chkU_t, subL_ct, subL_ct]
    have hc : ctT (G k) n ++ ctT (G k2) m = ct2 (G k) n (G k2) m := rfl
    rw [hc]
    unfold apB apE
    refine ⟨h, fun e1 => ⟨h2, fun e2 => ?_, fun e2 => by rw [e1, e2]; rfl⟩, fun e1 => by rw [e1]; rfl⟩
    have ok := ct2_okT h h2 e1 e2
    have hl := (okT_iff.1 ok).1
    have n8 := (mayB_iff.1 e1).1
    have m8 := (mayB_iff.1 e2).1
    rw [okTU_ct, ct_full ok, mayU2_eq hl, wtU_eq hl, e1, e2]
    exact ⟨h, h2, leB_iff.2 (by omega), leB_iff.2 (by omega), ok, wtF_cells, by rw [wtF_len]; rfl, rfl⟩)
  exact this.monoK fun v H' h => h
theorem wi_call (G : Nat → List AV) (B : Nat) (k n k2 m : Nat) (h : okI .i64 (G k) 0 (n * 3) = true) (h2 : okI .i64 (G k2) 0 (m * 3) = true) : ACalls (⟨Try.prog, G, B⟩ : Ctx) 22 [.slice true (.ro k) 0 n, .slice true (.ro k2) 0 m] [] fun v _ => v = .tup [.bool (wiB (G k) n (G k2) m), .int .i64 (apE (G k) n (G k2) m)] := by
  have := dcall_ok (C := (⟨Try.prog, G, B⟩ : Ctx)) (fuel := 300) (n0 := 20) (f := 22) (fn := Try.f22) (args := [.slice true (.ro (.var 1 k)) (.lit 0) (.var 2 n), .slice true (.ro (.var 3 k2)) (.lit 0) (.var 4 m)]) (H := []) (keep := 0)
    (R := fun v _ => v = .tup [.bool (wiB (G k) n (G k2) m), .int .i64 (apE (G k) n (G k2) m)]) (by rw [show loopsOf (bodyOf Try.f22) = [] by kernel_rfl]; exact dgood (inl := []) (ls := []) (M := 0) (mixF G B) (by kernel_rfl) (progM_ok G B) .nil) (by kernel_rfl) (by kernel_rfl) (by kernel_rfl) (by
    rw [t22, chkU_t, chkU_t, subL_ct, subL_ct]
    have hc : ctT (G k) n ++ ctT (G k2) m = ct2 (G k) n (G k2) m := rfl
    rw [hc]
    unfold wiB apE
    refine ⟨h, fun e1 => ⟨h2, fun e2 => ?_, fun e2 => by rw [e1, e2]; rfl⟩, fun e1 => by rw [e1]; rfl⟩
    have ok := ct2_okT h h2 e1 e2
    have ok1 := ct_okT h e1
    have hl := (okT_iff.1 ok).1
    have n8 := (mayB_iff.1 e1).1
    have m8 := (mayB_iff.1 e2).1
    have em : mayU2 [.agg (G k), .int .i64 (n : Int)] = mayF (ctT (G k) n) n := by simp only [mayU2, int_nat]
    have ep : mayF (ctT (G k) n) n = true → ppU [.agg (G k), .int .i64 (n : Int)] = ppC (ctT (G k) n) n 64 ∧ ppN [.agg (G k), .int .i64 (n : Int)] = ppK (ctT (G k) n) n 64 := fun e => by simp only [ppU, ppN, int_nat, e, if_true, and_self]
    rw [okTU_ct, okTU_ct, ct_full ok, mayU2_eq hl, em, (ppU_eq hl).1, (ppU_eq hl).2, e1, e2]
    refine ⟨ok1, h, h2, leB_iff.2 (by omega), leB_iff.2 (by omega), ok, fun e3 => ⟨fun e4 => ?_, fun e4 => by rw [e3, e4]; rfl⟩, fun e3 => by rw [e3]; rfl⟩
    obtain ⟨p1, p2⟩ := ep e3
    have q1 := ppC_okT (okT_iff.1 ok1).2.2.2
    have q2 := ppC_okT (okT_iff.1 ok).2.2.2
    rw [p1, p2, if_pos e4, if_pos e4, okTU_ct, okTU_ct, ct_full q1, ct_full q2, stU_eq (okT_iff.1 q1).1 (okT_iff.1 q2).1, e3, e4]
    exact ⟨q1, q2, rfl⟩)
  exact this.monoK fun v H' h => h
theorem ne_call (G : Nat → List AV) (B : Nat) (k n : Nat) (h : okI .i64 (G k) 0 (n * 3) = true) : ACalls (⟨Try.prog, G, B⟩ : Ctx) 13 [.slice true (.ro k) 0 n] [] fun v _ => v = .tup [.bool (neB (G k) n), .int .i64 (if mayB (G k) n then 0 else 2)] := by
  have := dcall_ok (C := (⟨Try.prog, G, B⟩ : Ctx)) (fuel := 300) (n0 := 20) (f := 13) (fn := Try.f13) (args := [.slice true (.ro (.var 1 k)) (.lit 0) (.var 2 n)]) (H := []) (keep := 0)
    (R := fun v _ => v = .tup [.bool (neB (G k) n), .int .i64 (if mayB (G k) n then 0 else 2)]) (by rw [show loopsOf (bodyOf Try.f13) = [] by kernel_rfl]; exact dgood (inl := []) (ls := []) (M := 0) (mixF G B) (by kernel_rfl) (progM_ok G B) .nil) (by kernel_rfl) (by kernel_rfl) (by kernel_rfl) (by
    rw [t13, chkU_t, chkU_eq]
    unfold neB
    have em : mayU2 [.agg (G k), .int .i64 (n : Int)] = mayF (ctT (G k) n) n := by simp only [mayU2, int_nat]
    have ew : wtU [.agg (G k), .int .i64 (n : Int)] = wtF (ctT (G k) n) n := by simp only [wtU, int_nat]
    refine ⟨h, fun e1 => ?_, fun e1 => by rw [e1]; rfl⟩
    rw [okTU_ct, em, ew, e1]
    exact ⟨ct_okT h e1, wtF_cells, by rw [wtF_len]; rfl, rfl⟩)
  exact this.monoK fun v H' h => h
end Go.Am
