/-
  FilterBoth: the summaries that split into cases.
-/
import Derived.Test.YtnkcfoicbkobbaaFlP
namespace Go.Am
open Go.Proofs
set_option maxRecDepth 100000
/-- what is owed, and known from here on -/
def lrn (b : EB) (x : Outs) : Outs := .tst b x (.chk (.lit false) x)
/-- the tests of both, in one order -/
def cat2 (l : EL) (n : EN) (l2 : EL) (m : EN) : EL × EN := (.app (.sub l (.lit 0) (.mul n 3)) (.sub l2 (.lit 0) (.mul m 3)), .add n m)
def boT2 (l : EL) (n : EN) (l2 : EL) (m : EN) (i : Nat) : Outs :=
  .chk (.uf 1601 rowsU [.agg l, .int .i64 (.ofN n)]) (.chk (.uf 1601 rowsU [.agg l2, .int .i64 (.ofN m)])
   (.tst (.uf 1604 mayU [.agg l, .int .i64 (.ofN n)]) (.tst (.uf 1604 mayU [.agg l2, .int .i64 (.ofN m)])
    (.tst (.uf 1616 somU [.agg (cat2 l n l2 m).1, .int .i64 (.ofN (cat2 l n l2 m).2)])
     (lrn (.uf 1616 somU [.agg l, .int .i64 (.ofN n)]) (lrn (.uf 1616 somU [.agg l2, .int .i64 (.ofN m)]) (.tst (.cmp .gtr (.ofN (.uf 1640 ppN [.agg (cat2 l n l2 m).1, .int .i64 (.ofN (cat2 l n l2 m).2)])) (.lit 8))
       (.one (.tup [.slice true (.rw i) (.lit 0) (.lit 0), .int .i64 (.lit 3)]) [.new ⟨3, .of []⟩])
       (.one (.tup [.slice true (.rw i) (.lit 0) (.uf 1640 ppN [.agg (cat2 l n l2 m).1, .int .i64 (.ofN (cat2 l n l2 m).2)]), .int .i64 (.lit 0)]) [.new ⟨3, .uf 1641 ppU [.agg (cat2 l n l2 m).1, .int .i64 (.ofN (cat2 l n l2 m).2)]⟩]))))
     (.one (.tup [.slice true (.rw i) (.lit 0) (.lit 0), .int .i64 (.lit 210)]) [.new ⟨3, .of []⟩]))
    (.one (.tup [.slice true (.rw i) (.lit 0) (.lit 0), .int .i64 (.lit 2)]) [.new ⟨3, .of []⟩]))
   (.one (.tup [.slice true (.rw i) (.lit 0) (.lit 0), .int .i64 (.lit 2)]) [.new ⟨3, .of []⟩])))
def boT : DSum := fun args H => match args with
  | [x, y] => match rdT H x, rdT H y with
    | some (l, n), some (l2, m) => some (boT2 l n l2 m H.length)
    | _, _ => none
  | _ => none
def apT : DSum := fun args H => match args with
  | [x, y] => match rdT H x, rdT H y with
    | some (l, n), some (l2, m) => some (.chk (.uf 1601 rowsU [.agg l, .int .i64 (.ofN n)]) (.chk (.uf 1601 rowsU [.agg l2, .int .i64 (.ofN m)]) (.tst (.uf 1604 mayU [.agg l, .int .i64 (.ofN n)]) (.tst (.uf 1604 mayU [.agg l2, .int .i64 (.ofN m)])
        (.one (.tup [.bool (.not (.uf 1616 somU [.agg (cat2 l n l2 m).1, .int .i64 (.ofN (cat2 l n l2 m).2)])), .int .i64 (.lit 0)]) [])
        (.one (.tup [.bool (.lit false), .int .i64 (.lit 2)]) [])) (.one (.tup [.bool (.lit false), .int .i64 (.lit 2)]) []))))
    | _, _ => none
  | _ => none
/-- is this the second one? then the tests stand the other way round -/
def sndV : EL → Bool
  | .ro (.var j _) => Nat.beq j 3
  | _ => false
def catO (l : EL) (n : EN) (l2 : EL) (m : EN) : EL × EN := bif sndV l then cat2 l2 m l n else cat2 l n l2 m
def wiT : DSum := fun args H => match args with
  | [x, y] => match rdT H x, rdT H y with
    | some (l, n), some (l2, m) => some (.chk (.uf 1601 rowsU [.agg l, .int .i64 (.ofN n)]) (.chk (.uf 1601 rowsU [.agg l2, .int .i64 (.ofN m)]) (.tst (.uf 1604 mayU [.agg l, .int .i64 (.ofN n)]) (.tst (.uf 1604 mayU [.agg l2, .int .i64 (.ofN m)])
        (.tst (.uf 1616 somU [.agg l, .int .i64 (.ofN n)])
         (.tst (.uf 1616 somU [.agg (catO l n l2 m).1, .int .i64 (.ofN (catO l n l2 m).2)])
          (.one (.tup [.bool (.uf 1612 stU [.agg (.uf 1641 ppU [.agg (catO l n l2 m).1, .int .i64 (.ofN (catO l n l2 m).2)]), .int .i64 (.ofN (.uf 1640 ppN [.agg (catO l n l2 m).1, .int .i64 (.ofN (catO l n l2 m).2)])), .agg (.uf 1641 ppU [.agg l, .int .i64 (.ofN n)]), .int .i64 (.ofN (.uf 1640 ppN [.agg l, .int .i64 (.ofN n)]))]), .int .i64 (.lit 0)]) [])
          (.one (.tup [.bool (.lit false), .int .i64 (.lit 0)]) []))
         (.one (.tup [.bool (.lit true), .int .i64 (.lit 0)]) []))
        (.one (.tup [.bool (.lit false), .int .i64 (.lit 2)]) [])) (.one (.tup [.bool (.lit false), .int .i64 (.lit 2)]) []))))
    | _, _ => none
  | _ => none
def rpT : DSum := fun args H => match args with
  | [x] => match rdT H x with
    | some (l, n) => some (.chk (.uf 1614 okTU [.agg l, .int .i64 (.ofN n)]) (.tst (.uf 1616 somU [.agg l, .int .i64 (.ofN n)])
        (.one (.slice true (.rw H.length) (.lit 0) (.uf 1640 ppN [.agg l, .int .i64 (.ofN n)])) [.new ⟨3, .uf 1641 ppU [.agg l, .int .i64 (.ofN n)]⟩])
        (.one (.slice true (.rw H.length) (.lit 0) (.uf 1631 rpN [.agg l, .int .i64 (.ofN n)])) [.new ⟨3, .uf 1632 rpU [.agg l, .int .i64 (.ofN n)]⟩])))
    | none => none
  | _ => none
def progQ : List (Nat × DSum) := (21, boT) :: (20, apT) :: (22, wiT) :: (18, rpT) :: progN
theorem l6 (G : Nat → List AV) (k n k2 m k3 r : Nat) (Q : Ex → List AV → Hp → Prop) (R : AV → Hp → Prop) : vT G Q R (dlaw (Dc Try.prog [23, 24] progQ [] 0) 400 20 Try.f6 [.slice true (.ro (.var 1 k)) (.lit 0) (.var 2 n), .slice true (.ro (.var 3 k2)) (.lit 0) (.var 4 m), .slice true (.ro (.var 5 k3)) (.lit 0) (.var 6 r)] []) = (
    (decide ((((n : Nat) : Int) : Int) > 40) = true →
      R (.bool (true)) []) ∧
    (decide ((((n : Nat) : Int) : Int) > 40) = false →
      (decide ((((m : Nat) : Int) : Int) > 40) = true →
        R (.bool (true)) []) ∧
      (decide ((((m : Nat) : Int) : Int) > 40) = false →
        (decide ((((r : Nat) : Int) : Int) > 300) = true →
          R (.bool (true)) []) ∧
        (decide ((((r : Nat) : Int) : Int) > 300) = false →
          rowsU [.agg (G (k)), .int .i64 (((n : Nat) : Int))] = true ∧
          rowsU [.agg (G (k2)), .int .i64 (((m : Nat) : Int))] = true ∧
          (mayU [.agg (G (k)), .int .i64 (((n : Nat) : Int))] = true →
            (mayU [.agg (G (k2)), .int .i64 (((m : Nat) : Int))] = true →
              (somU [.agg ((subL (G (k)) (0) ((n) * 3)) ++ (subL (G (k2)) (0) ((m) * 3))), .int .i64 (((n + m : Nat) : Int))] = true →
                (somU [.agg (G (k)), .int .i64 (((n : Nat) : Int))] = true →
                  (somU [.agg (G (k2)), .int .i64 (((m : Nat) : Int))] = true →
                    (decide ((((ppN [.agg ((subL (G (k)) (0) ((n) * 3)) ++ (subL (G (k2)) (0) ((m) * 3))), .int .i64 (((n + m : Nat) : Int))] : Nat) : Int) : Int) > 8) = true →
                      rowsU [.agg (G (k)), .int .i64 (((n : Nat) : Int))] = true ∧
                      rowsU [.agg (G (k2)), .int .i64 (((m : Nat) : Int))] = true ∧
                      mayU [.agg (G (k)), .int .i64 (((n : Nat) : Int))] = true ∧
                      mayU [.agg (G (k2)), .int .i64 (((m : Nat) : Int))] = true ∧
                      rowsU [.agg (G (k)), .int .i64 (((n : Nat) : Int))] = true ∧
                      rowsU [.agg (G (k2)), .int .i64 (((m : Nat) : Int))] = true ∧
                      mayU [.agg (G (k)), .int .i64 (((n : Nat) : Int))] = true ∧
                      mayU [.agg (G (k2)), .int .i64 (((m : Nat) : Int))] = true ∧
                      somU [.agg (G (k)), .int .i64 (((n : Nat) : Int))] = true ∧
                      somU [.agg ((subL (G (k)) (0) ((n) * 3)) ++ (subL (G (k2)) (0) ((m) * 3))), .int .i64 (((n + m : Nat) : Int))] = true ∧
                      rowsU [.agg (G (k)), .int .i64 (((n : Nat) : Int))] = true ∧
                      rowsU [.agg (G (k2)), .int .i64 (((m : Nat) : Int))] = true ∧
                      mayU [.agg (G (k)), .int .i64 (((n : Nat) : Int))] = true ∧
                      mayU [.agg (G (k2)), .int .i64 (((m : Nat) : Int))] = true ∧
                      somU [.agg (G (k)), .int .i64 (((n : Nat) : Int))] = true ∧
                      somU [.agg ((subL (G (k)) (0) ((n) * 3)) ++ (subL (G (k2)) (0) ((m) * 3))), .int .i64 (((n + m : Nat) : Int))] = true ∧
                      rowsU [.agg (G (k2)), .int .i64 (((m : Nat) : Int))] = true ∧
                      rowsU [.agg (G (k)), .int .i64 (((n : Nat) : Int))] = true ∧
                      mayU [.agg (G (k2)), .int .i64 (((m : Nat) : Int))] = true ∧
                      mayU [.agg (G (k)), .int .i64 (((n : Nat) : Int))] = true ∧
                      somU [.agg (G (k2)), .int .i64 (((m : Nat) : Int))] = true ∧
                      somU [.agg ((subL (G (k)) (0) ((n) * 3)) ++ (subL (G (k2)) (0) ((m) * 3))), .int .i64 (((n + m : Nat) : Int))] = true ∧
                      (stU [.agg (ppU [.agg ((subL (G (k)) (0) ((n) * 3)) ++ (subL (G (k2)) (0) ((m) * 3))), .int .i64 (((n + m : Nat) : Int))]), .int .i64 (((ppN [.agg ((subL (G (k)) (0) ((n) * 3)) ++ (subL (G (k2)) (0) ((m) * 3))), .int .i64 (((n + m : Nat) : Int))] : Nat) : Int)), .agg (ppU [.agg (G (k)), .int .i64 (((n : Nat) : Int))]), .int .i64 (((ppN [.agg (G (k)), .int .i64 (((n : Nat) : Int))] : Nat) : Int))] = true →
                        rowsU [.agg (G (k)), .int .i64 (((n : Nat) : Int))] = true ∧
                        mayU [.agg (G (k)), .int .i64 (((n : Nat) : Int))] = true ∧
                        rowsU [.agg (G (k2)), .int .i64 (((m : Nat) : Int))] = true ∧
                        mayU [.agg (G (k2)), .int .i64 (((m : Nat) : Int))] = true ∧
                        leB ((n) * 3) (List.length (G (k))) = true ∧
                        cellsB (subL (G (k)) (0) ((n) * 3)) = true ∧
                        leB ((n) * 24) (140737488355328) = true ∧
                        leB ((m) * 3) (List.length (G (k2))) = true ∧
                        cellsB (subL (G (k2)) (0) ((m) * 3)) = true ∧
                        leB ((n + m) * 24) (140737488355328) = true ∧
                        Nat.beq (List.length (subL (G (k)) (0) ((n) * 3))) ((n) * 3) = true ∧
                        okTU [.agg ((subL (G (k)) (0) ((n) * 3)) ++ (subL (G (k2)) (0) ((m) * 3))), .int .i64 (((n + m : Nat) : Int))] = true ∧
                        okTU [.agg (G (k)), .int .i64 (((n : Nat) : Int))] = true ∧
                        okTU [.agg (G (k2)), .int .i64 (((m : Nat) : Int))] = true ∧
                        somU [.agg ((subL (G (k)) (0) ((n) * 3)) ++ (subL (G (k2)) (0) ((m) * 3))), .int .i64 (((n + m : Nat) : Int))] = true ∧
                        somU [.agg ((subL (G (k)) (0) ((n) * 3)) ++ (subL (G (k2)) (0) ((m) * 3))), .int .i64 (((n + m : Nat) : Int))] = true ∧
                        somU [.agg ((subL (G (k)) (0) ((n) * 3)) ++ (subL (G (k2)) (0) ((m) * 3))), .int .i64 (((n + m : Nat) : Int))] = true ∧
                        okTU [.agg ((subL (G (k)) (0) ((n) * 3)) ++ (subL (G (k2)) (0) ((m) * 3))), .int .i64 (((n + m : Nat) : Int))] = true ∧
                        somU [.agg ((subL (G (k)) (0) ((n) * 3)) ++ (subL (G (k2)) (0) ((m) * 3))), .int .i64 (((n + m : Nat) : Int))] = true ∧
                        okTU [.agg (G (k)), .int .i64 (((n : Nat) : Int))] = true ∧
                        somU [.agg (G (k)), .int .i64 (((n : Nat) : Int))] = true ∧
                        okTU [.agg (ppU [.agg ((subL (G (k)) (0) ((n) * 3)) ++ (subL (G (k2)) (0) ((m) * 3))), .int .i64 (((n + m : Nat) : Int))]), .int .i64 (((ppN [.agg ((subL (G (k)) (0) ((n) * 3)) ++ (subL (G (k2)) (0) ((m) * 3))), .int .i64 (((n + m : Nat) : Int))] : Nat) : Int))] = true ∧
                        okTU [.agg (ppU [.agg (G (k)), .int .i64 (((n : Nat) : Int))]), .int .i64 (((ppN [.agg (G (k)), .int .i64 (((n : Nat) : Int))] : Nat) : Int))] = true ∧
                        stU [.agg (ppU [.agg ((subL (G (k)) (0) ((n) * 3)) ++ (subL (G (k2)) (0) ((m) * 3))), .int .i64 (((n + m : Nat) : Int))]), .int .i64 (((ppN [.agg ((subL (G (k)) (0) ((n) * 3)) ++ (subL (G (k2)) (0) ((m) * 3))), .int .i64 (((n + m : Nat) : Int))] : Nat) : Int)), .agg (ppU [.agg (G (k)), .int .i64 (((n : Nat) : Int))]), .int .i64 (((ppN [.agg (G (k)), .int .i64 (((n : Nat) : Int))] : Nat) : Int))] = true ∧
                        somU [.agg ((subL (G (k)) (0) ((n) * 3)) ++ (subL (G (k2)) (0) ((m) * 3))), .int .i64 (((n + m : Nat) : Int))] = true ∧
                        okTU [.agg ((subL (G (k)) (0) ((n) * 3)) ++ (subL (G (k2)) (0) ((m) * 3))), .int .i64 (((n + m : Nat) : Int))] = true ∧
                        somU [.agg ((subL (G (k)) (0) ((n) * 3)) ++ (subL (G (k2)) (0) ((m) * 3))), .int .i64 (((n + m : Nat) : Int))] = true ∧
                        okTU [.agg (G (k2)), .int .i64 (((m : Nat) : Int))] = true ∧
                        somU [.agg (G (k2)), .int .i64 (((m : Nat) : Int))] = true ∧
                        okTU [.agg (ppU [.agg ((subL (G (k)) (0) ((n) * 3)) ++ (subL (G (k2)) (0) ((m) * 3))), .int .i64 (((n + m : Nat) : Int))]), .int .i64 (((ppN [.agg ((subL (G (k)) (0) ((n) * 3)) ++ (subL (G (k2)) (0) ((m) * 3))), .int .i64 (((n + m : Nat) : Int))] : Nat) : Int))] = true ∧
                        okTU [.agg (ppU [.agg (G (k2)), .int .i64 (((m : Nat) : Int))]), .int .i64 (((ppN [.agg (G (k2)), .int .i64 (((m : Nat) : Int))] : Nat) : Int))] = true ∧
                        (stU [.agg (ppU [.agg ((subL (G (k)) (0) ((n) * 3)) ++ (subL (G (k2)) (0) ((m) * 3))), .int .i64 (((n + m : Nat) : Int))]), .int .i64 (((ppN [.agg ((subL (G (k)) (0) ((n) * 3)) ++ (subL (G (k2)) (0) ((m) * 3))), .int .i64 (((n + m : Nat) : Int))] : Nat) : Int)), .agg (ppU [.agg (G (k2)), .int .i64 (((m : Nat) : Int))]), .int .i64 (((ppN [.agg (G (k2)), .int .i64 (((m : Nat) : Int))] : Nat) : Int))] = true →
                          stU [.agg (ppU [.agg ((subL (G (k)) (0) ((n) * 3)) ++ (subL (G (k2)) (0) ((m) * 3))), .int .i64 (((n + m : Nat) : Int))]), .int .i64 (((ppN [.agg ((subL (G (k)) (0) ((n) * 3)) ++ (subL (G (k2)) (0) ((m) * 3))), .int .i64 (((n + m : Nat) : Int))] : Nat) : Int)), .agg (ppU [.agg (G (k)), .int .i64 (((n : Nat) : Int))]), .int .i64 (((ppN [.agg (G (k)), .int .i64 (((n : Nat) : Int))] : Nat) : Int))] = true ∧
                          stU [.agg (ppU [.agg ((subL (G (k)) (0) ((n) * 3)) ++ (subL (G (k2)) (0) ((m) * 3))), .int .i64 (((n + m : Nat) : Int))]), .int .i64 (((ppN [.agg ((subL (G (k)) (0) ((n) * 3)) ++ (subL (G (k2)) (0) ((m) * 3))), .int .i64 (((n + m : Nat) : Int))] : Nat) : Int)), .agg (ppU [.agg (G (k2)), .int .i64 (((m : Nat) : Int))]), .int .i64 (((ppN [.agg (G (k2)), .int .i64 (((m : Nat) : Int))] : Nat) : Int))] = true ∧
                          rowsU [.agg (G (k)), .int .i64 (((n : Nat) : Int))] = true ∧
                          bytesU [.agg (G (k3)), .int .i64 (((r : Nat) : Int))] = true ∧
                          (matchU [.agg (G (k)), .int .i64 (((n : Nat) : Int)), .agg (G (k3)), .int .i64 (((r : Nat) : Int))] = true →
                            rowsU [.agg (G (k2)), .int .i64 (((m : Nat) : Int))] = true ∧
                            bytesU [.agg (G (k3)), .int .i64 (((r : Nat) : Int))] = true ∧
                            (matchU [.agg (G (k2)), .int .i64 (((m : Nat) : Int)), .agg (G (k3)), .int .i64 (((r : Nat) : Int))] = true →
                              somU [.agg ((subL (G (k)) (0) ((n) * 3)) ++ (subL (G (k2)) (0) ((m) * 3))), .int .i64 (((n + m : Nat) : Int))] = true ∧
                              stU [.agg (ppU [.agg ((subL (G (k)) (0) ((n) * 3)) ++ (subL (G (k2)) (0) ((m) * 3))), .int .i64 (((n + m : Nat) : Int))]), .int .i64 (((ppN [.agg ((subL (G (k)) (0) ((n) * 3)) ++ (subL (G (k2)) (0) ((m) * 3))), .int .i64 (((n + m : Nat) : Int))] : Nat) : Int)), .agg (ppU [.agg (G (k)), .int .i64 (((n : Nat) : Int))]), .int .i64 (((ppN [.agg (G (k)), .int .i64 (((n : Nat) : Int))] : Nat) : Int))] = true ∧
                              rowsU [.agg (G (k)), .int .i64 (((n : Nat) : Int))] = true ∧
                              bytesU [.agg (G (k3)), .int .i64 (((r : Nat) : Int))] = true ∧
                              matchU [.agg (G (k)), .int .i64 (((n : Nat) : Int)), .agg (G (k3)), .int .i64 (((r : Nat) : Int))] = true ∧
                              rowsU [.agg (G (k2)), .int .i64 (((m : Nat) : Int))] = true ∧
                              bytesU [.agg (G (k3)), .int .i64 (((r : Nat) : Int))] = true ∧
                              matchU [.agg (G (k2)), .int .i64 (((m : Nat) : Int)), .agg (G (k3)), .int .i64 (((r : Nat) : Int))] = true ∧
                              stU [.agg (ppU [.agg ((subL (G (k)) (0) ((n) * 3)) ++ (subL (G (k2)) (0) ((m) * 3))), .int .i64 (((n + m : Nat) : Int))]), .int .i64 (((ppN [.agg ((subL (G (k)) (0) ((n) * 3)) ++ (subL (G (k2)) (0) ((m) * 3))), .int .i64 (((n + m : Nat) : Int))] : Nat) : Int)), .agg (ppU [.agg (G (k2)), .int .i64 (((m : Nat) : Int))]), .int .i64 (((ppN [.agg (G (k2)), .int .i64 (((m : Nat) : Int))] : Nat) : Int))] = true ∧
                              rowsU [.agg (G (k)), .int .i64 (((n : Nat) : Int))] = true ∧
                              bytesU [.agg (G (k3)), .int .i64 (((r : Nat) : Int))] = true ∧
                              rowsU [.agg (G (k2)), .int .i64 (((m : Nat) : Int))] = true ∧
                              bytesU [.agg (G (k3)), .int .i64 (((r : Nat) : Int))] = true ∧
                              matchU [.agg (G (k)), .int .i64 (((n : Nat) : Int)), .agg (G (k3)), .int .i64 (((r : Nat) : Int))] = true ∧
                              matchU [.agg (G (k2)), .int .i64 (((m : Nat) : Int)), .agg (G (k3)), .int .i64 (((r : Nat) : Int))] = true ∧
                              somU [.agg ((subL (G (k)) (0) ((n) * 3)) ++ (subL (G (k2)) (0) ((m) * 3))), .int .i64 (((n + m : Nat) : Int))] = true ∧
                              okTU [.agg ((subL (G (k)) (0) ((n) * 3)) ++ (subL (G (k2)) (0) ((m) * 3))), .int .i64 (((n + m : Nat) : Int))] = true ∧
                              somU [.agg ((subL (G (k)) (0) ((n) * 3)) ++ (subL (G (k2)) (0) ((m) * 3))), .int .i64 (((n + m : Nat) : Int))] = true ∧
                              decide ((((ppN [.agg ((subL (G (k)) (0) ((n) * 3)) ++ (subL (G (k2)) (0) ((m) * 3))), .int .i64 (((n + m : Nat) : Int))] : Nat) : Int) : Int) > 8) = true ∧
                              R (.bool (true)) []) ∧
                            (matchU [.agg (G (k2)), .int .i64 (((m : Nat) : Int)), .agg (G (k3)), .int .i64 (((r : Nat) : Int))] = false →
                              stU [.agg (ppU [.agg ((subL (G (k)) (0) ((n) * 3)) ++ (subL (G (k2)) (0) ((m) * 3))), .int .i64 (((n + m : Nat) : Int))]), .int .i64 (((ppN [.agg ((subL (G (k)) (0) ((n) * 3)) ++ (subL (G (k2)) (0) ((m) * 3))), .int .i64 (((n + m : Nat) : Int))] : Nat) : Int)), .agg (ppU [.agg (G (k)), .int .i64 (((n : Nat) : Int))]), .int .i64 (((ppN [.agg (G (k)), .int .i64 (((n : Nat) : Int))] : Nat) : Int))] = true ∧
                              rowsU [.agg (G (k)), .int .i64 (((n : Nat) : Int))] = true ∧
                              bytesU [.agg (G (k3)), .int .i64 (((r : Nat) : Int))] = true ∧
                              matchU [.agg (G (k)), .int .i64 (((n : Nat) : Int)), .agg (G (k3)), .int .i64 (((r : Nat) : Int))] = true ∧
                              rowsU [.agg (G (k2)), .int .i64 (((m : Nat) : Int))] = true ∧
                              bytesU [.agg (G (k3)), .int .i64 (((r : Nat) : Int))] = true ∧
                              (!(matchU [.agg (G (k2)), .int .i64 (((m : Nat) : Int)), .agg (G (k3)), .int .i64 (((r : Nat) : Int))])) = true ∧
                              R (.bool (false)) [])) ∧
                          (matchU [.agg (G (k)), .int .i64 (((n : Nat) : Int)), .agg (G (k3)), .int .i64 (((r : Nat) : Int))] = false →
                            stU [.agg (ppU [.agg ((subL (G (k)) (0) ((n) * 3)) ++ (subL (G (k2)) (0) ((m) * 3))), .int .i64 (((n + m : Nat) : Int))]), .int .i64 (((ppN [.agg ((subL (G (k)) (0) ((n) * 3)) ++ (subL (G (k2)) (0) ((m) * 3))), .int .i64 (((n + m : Nat) : Int))] : Nat) : Int)), .agg (ppU [.agg (G (k)), .int .i64 (((n : Nat) : Int))]), .int .i64 (((ppN [.agg (G (k)), .int .i64 (((n : Nat) : Int))] : Nat) : Int))] = true ∧
                            rowsU [.agg (G (k)), .int .i64 (((n : Nat) : Int))] = true ∧
                            bytesU [.agg (G (k3)), .int .i64 (((r : Nat) : Int))] = true ∧
                            (!(matchU [.agg (G (k)), .int .i64 (((n : Nat) : Int)), .agg (G (k3)), .int .i64 (((r : Nat) : Int))])) = true ∧
                            stU [.agg (ppU [.agg ((subL (G (k)) (0) ((n) * 3)) ++ (subL (G (k2)) (0) ((m) * 3))), .int .i64 (((n + m : Nat) : Int))]), .int .i64 (((ppN [.agg ((subL (G (k)) (0) ((n) * 3)) ++ (subL (G (k2)) (0) ((m) * 3))), .int .i64 (((n + m : Nat) : Int))] : Nat) : Int)), .agg (ppU [.agg (G (k2)), .int .i64 (((m : Nat) : Int))]), .int .i64 (((ppN [.agg (G (k2)), .int .i64 (((m : Nat) : Int))] : Nat) : Int))] = true ∧
                            rowsU [.agg (G (k)), .int .i64 (((n : Nat) : Int))] = true ∧
                            bytesU [.agg (G (k3)), .int .i64 (((r : Nat) : Int))] = true ∧
                            rowsU [.agg (G (k2)), .int .i64 (((m : Nat) : Int))] = true ∧
                            bytesU [.agg (G (k3)), .int .i64 (((r : Nat) : Int))] = true ∧
                            (!(matchU [.agg (G (k)), .int .i64 (((n : Nat) : Int)), .agg (G (k3)), .int .i64 (((r : Nat) : Int))])) = true ∧
                            (matchU [.agg (G (k2)), .int .i64 (((m : Nat) : Int)), .agg (G (k3)), .int .i64 (((r : Nat) : Int))] = true →
                              R (.bool (false)) []) ∧
                            (matchU [.agg (G (k2)), .int .i64 (((m : Nat) : Int)), .agg (G (k3)), .int .i64 (((r : Nat) : Int))] = false →
                              somU [.agg ((subL (G (k)) (0) ((n) * 3)) ++ (subL (G (k2)) (0) ((m) * 3))), .int .i64 (((n + m : Nat) : Int))] = true ∧
                              okTU [.agg ((subL (G (k)) (0) ((n) * 3)) ++ (subL (G (k2)) (0) ((m) * 3))), .int .i64 (((n + m : Nat) : Int))] = true ∧
                              somU [.agg ((subL (G (k)) (0) ((n) * 3)) ++ (subL (G (k2)) (0) ((m) * 3))), .int .i64 (((n + m : Nat) : Int))] = true ∧
                              decide ((((ppN [.agg ((subL (G (k)) (0) ((n) * 3)) ++ (subL (G (k2)) (0) ((m) * 3))), .int .i64 (((n + m : Nat) : Int))] : Nat) : Int) : Int) > 8) = true ∧
                              R (.bool (true)) []))) ∧
                        (stU [.agg (ppU [.agg ((subL (G (k)) (0) ((n) * 3)) ++ (subL (G (k2)) (0) ((m) * 3))), .int .i64 (((n + m : Nat) : Int))]), .int .i64 (((ppN [.agg ((subL (G (k)) (0) ((n) * 3)) ++ (subL (G (k2)) (0) ((m) * 3))), .int .i64 (((n + m : Nat) : Int))] : Nat) : Int)), .agg (ppU [.agg (G (k2)), .int .i64 (((m : Nat) : Int))]), .int .i64 (((ppN [.agg (G (k2)), .int .i64 (((m : Nat) : Int))] : Nat) : Int))] = false →
                          stU [.agg (ppU [.agg ((subL (G (k)) (0) ((n) * 3)) ++ (subL (G (k2)) (0) ((m) * 3))), .int .i64 (((n + m : Nat) : Int))]), .int .i64 (((ppN [.agg ((subL (G (k)) (0) ((n) * 3)) ++ (subL (G (k2)) (0) ((m) * 3))), .int .i64 (((n + m : Nat) : Int))] : Nat) : Int)), .agg (ppU [.agg (G (k)), .int .i64 (((n : Nat) : Int))]), .int .i64 (((ppN [.agg (G (k)), .int .i64 (((n : Nat) : Int))] : Nat) : Int))] = true ∧
                          (!(stU [.agg (ppU [.agg ((subL (G (k)) (0) ((n) * 3)) ++ (subL (G (k2)) (0) ((m) * 3))), .int .i64 (((n + m : Nat) : Int))]), .int .i64 (((ppN [.agg ((subL (G (k)) (0) ((n) * 3)) ++ (subL (G (k2)) (0) ((m) * 3))), .int .i64 (((n + m : Nat) : Int))] : Nat) : Int)), .agg (ppU [.agg (G (k2)), .int .i64 (((m : Nat) : Int))]), .int .i64 (((ppN [.agg (G (k2)), .int .i64 (((m : Nat) : Int))] : Nat) : Int))])) = true ∧
                          somU [.agg (G (k2)), .int .i64 (((m : Nat) : Int))] = true ∧
                          rowsU [.agg (G (k)), .int .i64 (((n : Nat) : Int))] = true ∧
                          bytesU [.agg (G (k3)), .int .i64 (((r : Nat) : Int))] = true ∧
                          (matchU [.agg (G (k)), .int .i64 (((n : Nat) : Int)), .agg (G (k3)), .int .i64 (((r : Nat) : Int))] = true →
                            rowsU [.agg (G (k2)), .int .i64 (((m : Nat) : Int))] = true ∧
                            bytesU [.agg (G (k3)), .int .i64 (((r : Nat) : Int))] = true ∧
                            (matchU [.agg (G (k2)), .int .i64 (((m : Nat) : Int)), .agg (G (k3)), .int .i64 (((r : Nat) : Int))] = true →
                              somU [.agg ((subL (G (k)) (0) ((n) * 3)) ++ (subL (G (k2)) (0) ((m) * 3))), .int .i64 (((n + m : Nat) : Int))] = true ∧
                              stU [.agg (ppU [.agg ((subL (G (k)) (0) ((n) * 3)) ++ (subL (G (k2)) (0) ((m) * 3))), .int .i64 (((n + m : Nat) : Int))]), .int .i64 (((ppN [.agg ((subL (G (k)) (0) ((n) * 3)) ++ (subL (G (k2)) (0) ((m) * 3))), .int .i64 (((n + m : Nat) : Int))] : Nat) : Int)), .agg (ppU [.agg (G (k)), .int .i64 (((n : Nat) : Int))]), .int .i64 (((ppN [.agg (G (k)), .int .i64 (((n : Nat) : Int))] : Nat) : Int))] = true ∧
                              rowsU [.agg (G (k)), .int .i64 (((n : Nat) : Int))] = true ∧
                              bytesU [.agg (G (k3)), .int .i64 (((r : Nat) : Int))] = true ∧
                              matchU [.agg (G (k)), .int .i64 (((n : Nat) : Int)), .agg (G (k3)), .int .i64 (((r : Nat) : Int))] = true ∧
                              rowsU [.agg (G (k2)), .int .i64 (((m : Nat) : Int))] = true ∧
                              bytesU [.agg (G (k3)), .int .i64 (((r : Nat) : Int))] = true ∧
                              matchU [.agg (G (k2)), .int .i64 (((m : Nat) : Int)), .agg (G (k3)), .int .i64 (((r : Nat) : Int))] = true ∧
                              (!(stU [.agg (ppU [.agg ((subL (G (k)) (0) ((n) * 3)) ++ (subL (G (k2)) (0) ((m) * 3))), .int .i64 (((n + m : Nat) : Int))]), .int .i64 (((ppN [.agg ((subL (G (k)) (0) ((n) * 3)) ++ (subL (G (k2)) (0) ((m) * 3))), .int .i64 (((n + m : Nat) : Int))] : Nat) : Int)), .agg (ppU [.agg (G (k2)), .int .i64 (((m : Nat) : Int))]), .int .i64 (((ppN [.agg (G (k2)), .int .i64 (((m : Nat) : Int))] : Nat) : Int))])) = true ∧
                              somU [.agg ((subL (G (k)) (0) ((n) * 3)) ++ (subL (G (k2)) (0) ((m) * 3))), .int .i64 (((n + m : Nat) : Int))] = true ∧
                              okTU [.agg ((subL (G (k)) (0) ((n) * 3)) ++ (subL (G (k2)) (0) ((m) * 3))), .int .i64 (((n + m : Nat) : Int))] = true ∧
                              somU [.agg ((subL (G (k)) (0) ((n) * 3)) ++ (subL (G (k2)) (0) ((m) * 3))), .int .i64 (((n + m : Nat) : Int))] = true ∧
                              decide ((((ppN [.agg ((subL (G (k)) (0) ((n) * 3)) ++ (subL (G (k2)) (0) ((m) * 3))), .int .i64 (((n + m : Nat) : Int))] : Nat) : Int) : Int) > 8) = true ∧
                              R (.bool (true)) []) ∧
                            (matchU [.agg (G (k2)), .int .i64 (((m : Nat) : Int)), .agg (G (k3)), .int .i64 (((r : Nat) : Int))] = false →
                              stU [.agg (ppU [.agg ((subL (G (k)) (0) ((n) * 3)) ++ (subL (G (k2)) (0) ((m) * 3))), .int .i64 (((n + m : Nat) : Int))]), .int .i64 (((ppN [.agg ((subL (G (k)) (0) ((n) * 3)) ++ (subL (G (k2)) (0) ((m) * 3))), .int .i64 (((n + m : Nat) : Int))] : Nat) : Int)), .agg (ppU [.agg (G (k)), .int .i64 (((n : Nat) : Int))]), .int .i64 (((ppN [.agg (G (k)), .int .i64 (((n : Nat) : Int))] : Nat) : Int))] = true ∧
                              rowsU [.agg (G (k)), .int .i64 (((n : Nat) : Int))] = true ∧
                              bytesU [.agg (G (k3)), .int .i64 (((r : Nat) : Int))] = true ∧
                              matchU [.agg (G (k)), .int .i64 (((n : Nat) : Int)), .agg (G (k3)), .int .i64 (((r : Nat) : Int))] = true ∧
                              rowsU [.agg (G (k2)), .int .i64 (((m : Nat) : Int))] = true ∧
                              bytesU [.agg (G (k3)), .int .i64 (((r : Nat) : Int))] = true ∧
                              (!(matchU [.agg (G (k2)), .int .i64 (((m : Nat) : Int)), .agg (G (k3)), .int .i64 (((r : Nat) : Int))])) = true ∧
                              R (.bool (false)) [])) ∧
                          (matchU [.agg (G (k)), .int .i64 (((n : Nat) : Int)), .agg (G (k3)), .int .i64 (((r : Nat) : Int))] = false →
                            stU [.agg (ppU [.agg ((subL (G (k)) (0) ((n) * 3)) ++ (subL (G (k2)) (0) ((m) * 3))), .int .i64 (((n + m : Nat) : Int))]), .int .i64 (((ppN [.agg ((subL (G (k)) (0) ((n) * 3)) ++ (subL (G (k2)) (0) ((m) * 3))), .int .i64 (((n + m : Nat) : Int))] : Nat) : Int)), .agg (ppU [.agg (G (k)), .int .i64 (((n : Nat) : Int))]), .int .i64 (((ppN [.agg (G (k)), .int .i64 (((n : Nat) : Int))] : Nat) : Int))] = true ∧
                            rowsU [.agg (G (k)), .int .i64 (((n : Nat) : Int))] = true ∧
                            bytesU [.agg (G (k3)), .int .i64 (((r : Nat) : Int))] = true ∧
                            (!(matchU [.agg (G (k)), .int .i64 (((n : Nat) : Int)), .agg (G (k3)), .int .i64 (((r : Nat) : Int))])) = true ∧
                            (!(stU [.agg (ppU [.agg ((subL (G (k)) (0) ((n) * 3)) ++ (subL (G (k2)) (0) ((m) * 3))), .int .i64 (((n + m : Nat) : Int))]), .int .i64 (((ppN [.agg ((subL (G (k)) (0) ((n) * 3)) ++ (subL (G (k2)) (0) ((m) * 3))), .int .i64 (((n + m : Nat) : Int))] : Nat) : Int)), .agg (ppU [.agg (G (k2)), .int .i64 (((m : Nat) : Int))]), .int .i64 (((ppN [.agg (G (k2)), .int .i64 (((m : Nat) : Int))] : Nat) : Int))])) = true ∧
                            somU [.agg ((subL (G (k)) (0) ((n) * 3)) ++ (subL (G (k2)) (0) ((m) * 3))), .int .i64 (((n + m : Nat) : Int))] = true ∧
                            okTU [.agg ((subL (G (k)) (0) ((n) * 3)) ++ (subL (G (k2)) (0) ((m) * 3))), .int .i64 (((n + m : Nat) : Int))] = true ∧
                            somU [.agg ((subL (G (k)) (0) ((n) * 3)) ++ (subL (G (k2)) (0) ((m) * 3))), .int .i64 (((n + m : Nat) : Int))] = true ∧
                            decide ((((ppN [.agg ((subL (G (k)) (0) ((n) * 3)) ++ (subL (G (k2)) (0) ((m) * 3))), .int .i64 (((n + m : Nat) : Int))] : Nat) : Int) : Int) > 8) = true ∧
                            R (.bool (true)) []))) ∧
                      (stU [.agg (ppU [.agg ((subL (G (k)) (0) ((n) * 3)) ++ (subL (G (k2)) (0) ((m) * 3))), .int .i64 (((n + m : Nat) : Int))]), .int .i64 (((ppN [.agg ((subL (G (k)) (0) ((n) * 3)) ++ (subL (G (k2)) (0) ((m) * 3))), .int .i64 (((n + m : Nat) : Int))] : Nat) : Int)), .agg (ppU [.agg (G (k)), .int .i64 (((n : Nat) : Int))]), .int .i64 (((ppN [.agg (G (k)), .int .i64 (((n : Nat) : Int))] : Nat) : Int))] = false →
                        rowsU [.agg (G (k)), .int .i64 (((n : Nat) : Int))] = true ∧
                        mayU [.agg (G (k)), .int .i64 (((n : Nat) : Int))] = true ∧
                        rowsU [.agg (G (k2)), .int .i64 (((m : Nat) : Int))] = true ∧
                        mayU [.agg (G (k2)), .int .i64 (((m : Nat) : Int))] = true ∧
                        leB ((n) * 3) (List.length (G (k))) = true ∧
                        cellsB (subL (G (k)) (0) ((n) * 3)) = true ∧
                        leB ((n) * 24) (140737488355328) = true ∧
                        leB ((m) * 3) (List.length (G (k2))) = true ∧
                        cellsB (subL (G (k2)) (0) ((m) * 3)) = true ∧
                        leB ((n + m) * 24) (140737488355328) = true ∧
                        Nat.beq (List.length (subL (G (k)) (0) ((n) * 3))) ((n) * 3) = true ∧
                        okTU [.agg ((subL (G (k)) (0) ((n) * 3)) ++ (subL (G (k2)) (0) ((m) * 3))), .int .i64 (((n + m : Nat) : Int))] = true ∧
                        okTU [.agg (G (k)), .int .i64 (((n : Nat) : Int))] = true ∧
                        okTU [.agg (G (k2)), .int .i64 (((m : Nat) : Int))] = true ∧
                        somU [.agg ((subL (G (k)) (0) ((n) * 3)) ++ (subL (G (k2)) (0) ((m) * 3))), .int .i64 (((n + m : Nat) : Int))] = true ∧
                        somU [.agg ((subL (G (k)) (0) ((n) * 3)) ++ (subL (G (k2)) (0) ((m) * 3))), .int .i64 (((n + m : Nat) : Int))] = true ∧
                        somU [.agg ((subL (G (k)) (0) ((n) * 3)) ++ (subL (G (k2)) (0) ((m) * 3))), .int .i64 (((n + m : Nat) : Int))] = true ∧
                        okTU [.agg ((subL (G (k)) (0) ((n) * 3)) ++ (subL (G (k2)) (0) ((m) * 3))), .int .i64 (((n + m : Nat) : Int))] = true ∧
                        somU [.agg ((subL (G (k)) (0) ((n) * 3)) ++ (subL (G (k2)) (0) ((m) * 3))), .int .i64 (((n + m : Nat) : Int))] = true ∧
                        okTU [.agg (G (k)), .int .i64 (((n : Nat) : Int))] = true ∧
                        somU [.agg (G (k)), .int .i64 (((n : Nat) : Int))] = true ∧
                        okTU [.agg (ppU [.agg ((subL (G (k)) (0) ((n) * 3)) ++ (subL (G (k2)) (0) ((m) * 3))), .int .i64 (((n + m : Nat) : Int))]), .int .i64 (((ppN [.agg ((subL (G (k)) (0) ((n) * 3)) ++ (subL (G (k2)) (0) ((m) * 3))), .int .i64 (((n + m : Nat) : Int))] : Nat) : Int))] = true ∧
                        okTU [.agg (ppU [.agg (G (k)), .int .i64 (((n : Nat) : Int))]), .int .i64 (((ppN [.agg (G (k)), .int .i64 (((n : Nat) : Int))] : Nat) : Int))] = true ∧
                        (!(stU [.agg (ppU [.agg ((subL (G (k)) (0) ((n) * 3)) ++ (subL (G (k2)) (0) ((m) * 3))), .int .i64 (((n + m : Nat) : Int))]), .int .i64 (((ppN [.agg ((subL (G (k)) (0) ((n) * 3)) ++ (subL (G (k2)) (0) ((m) * 3))), .int .i64 (((n + m : Nat) : Int))] : Nat) : Int)), .agg (ppU [.agg (G (k)), .int .i64 (((n : Nat) : Int))]), .int .i64 (((ppN [.agg (G (k)), .int .i64 (((n : Nat) : Int))] : Nat) : Int))])) = true ∧
                        somU [.agg ((subL (G (k)) (0) ((n) * 3)) ++ (subL (G (k2)) (0) ((m) * 3))), .int .i64 (((n + m : Nat) : Int))] = true ∧
                        okTU [.agg ((subL (G (k)) (0) ((n) * 3)) ++ (subL (G (k2)) (0) ((m) * 3))), .int .i64 (((n + m : Nat) : Int))] = true ∧
                        somU [.agg ((subL (G (k)) (0) ((n) * 3)) ++ (subL (G (k2)) (0) ((m) * 3))), .int .i64 (((n + m : Nat) : Int))] = true ∧
                        okTU [.agg (G (k2)), .int .i64 (((m : Nat) : Int))] = true ∧
                        somU [.agg (G (k2)), .int .i64 (((m : Nat) : Int))] = true ∧
                        okTU [.agg (ppU [.agg ((subL (G (k)) (0) ((n) * 3)) ++ (subL (G (k2)) (0) ((m) * 3))), .int .i64 (((n + m : Nat) : Int))]), .int .i64 (((ppN [.agg ((subL (G (k)) (0) ((n) * 3)) ++ (subL (G (k2)) (0) ((m) * 3))), .int .i64 (((n + m : Nat) : Int))] : Nat) : Int))] = true ∧
                        okTU [.agg (ppU [.agg (G (k2)), .int .i64 (((m : Nat) : Int))]), .int .i64 (((ppN [.agg (G (k2)), .int .i64 (((m : Nat) : Int))] : Nat) : Int))] = true ∧
                        (stU [.agg (ppU [.agg ((subL (G (k)) (0) ((n) * 3)) ++ (subL (G (k2)) (0) ((m) * 3))), .int .i64 (((n + m : Nat) : Int))]), .int .i64 (((ppN [.agg ((subL (G (k)) (0) ((n) * 3)) ++ (subL (G (k2)) (0) ((m) * 3))), .int .i64 (((n + m : Nat) : Int))] : Nat) : Int)), .agg (ppU [.agg (G (k2)), .int .i64 (((m : Nat) : Int))]), .int .i64 (((ppN [.agg (G (k2)), .int .i64 (((m : Nat) : Int))] : Nat) : Int))] = true →
                          (!(stU [.agg (ppU [.agg ((subL (G (k)) (0) ((n) * 3)) ++ (subL (G (k2)) (0) ((m) * 3))), .int .i64 (((n + m : Nat) : Int))]), .int .i64 (((ppN [.agg ((subL (G (k)) (0) ((n) * 3)) ++ (subL (G (k2)) (0) ((m) * 3))), .int .i64 (((n + m : Nat) : Int))] : Nat) : Int)), .agg (ppU [.agg (G (k)), .int .i64 (((n : Nat) : Int))]), .int .i64 (((ppN [.agg (G (k)), .int .i64 (((n : Nat) : Int))] : Nat) : Int))])) = true ∧
                          somU [.agg (G (k)), .int .i64 (((n : Nat) : Int))] = true ∧
                          somU [.agg (G (k)), .int .i64 (((n : Nat) : Int))] = true ∧
                          rowsU [.agg (G (k)), .int .i64 (((n : Nat) : Int))] = true ∧
                          bytesU [.agg (G (k3)), .int .i64 (((r : Nat) : Int))] = true ∧
                          (matchU [.agg (G (k)), .int .i64 (((n : Nat) : Int)), .agg (G (k3)), .int .i64 (((r : Nat) : Int))] = true →
                            rowsU [.agg (G (k2)), .int .i64 (((m : Nat) : Int))] = true ∧
                            bytesU [.agg (G (k3)), .int .i64 (((r : Nat) : Int))] = true ∧
                            (matchU [.agg (G (k2)), .int .i64 (((m : Nat) : Int)), .agg (G (k3)), .int .i64 (((r : Nat) : Int))] = true →
                              somU [.agg ((subL (G (k)) (0) ((n) * 3)) ++ (subL (G (k2)) (0) ((m) * 3))), .int .i64 (((n + m : Nat) : Int))] = true ∧
                              (!(stU [.agg (ppU [.agg ((subL (G (k)) (0) ((n) * 3)) ++ (subL (G (k2)) (0) ((m) * 3))), .int .i64 (((n + m : Nat) : Int))]), .int .i64 (((ppN [.agg ((subL (G (k)) (0) ((n) * 3)) ++ (subL (G (k2)) (0) ((m) * 3))), .int .i64 (((n + m : Nat) : Int))] : Nat) : Int)), .agg (ppU [.agg (G (k)), .int .i64 (((n : Nat) : Int))]), .int .i64 (((ppN [.agg (G (k)), .int .i64 (((n : Nat) : Int))] : Nat) : Int))])) = true ∧
                              somU [.agg ((subL (G (k)) (0) ((n) * 3)) ++ (subL (G (k2)) (0) ((m) * 3))), .int .i64 (((n + m : Nat) : Int))] = true ∧
                              okTU [.agg ((subL (G (k)) (0) ((n) * 3)) ++ (subL (G (k2)) (0) ((m) * 3))), .int .i64 (((n + m : Nat) : Int))] = true ∧
                              somU [.agg ((subL (G (k)) (0) ((n) * 3)) ++ (subL (G (k2)) (0) ((m) * 3))), .int .i64 (((n + m : Nat) : Int))] = true ∧
                              decide ((((ppN [.agg ((subL (G (k)) (0) ((n) * 3)) ++ (subL (G (k2)) (0) ((m) * 3))), .int .i64 (((n + m : Nat) : Int))] : Nat) : Int) : Int) > 8) = true ∧
                              R (.bool (true)) []) ∧
                            (matchU [.agg (G (k2)), .int .i64 (((m : Nat) : Int)), .agg (G (k3)), .int .i64 (((r : Nat) : Int))] = false →
                              (!(stU [.agg (ppU [.agg ((subL (G (k)) (0) ((n) * 3)) ++ (subL (G (k2)) (0) ((m) * 3))), .int .i64 (((n + m : Nat) : Int))]), .int .i64 (((ppN [.agg ((subL (G (k)) (0) ((n) * 3)) ++ (subL (G (k2)) (0) ((m) * 3))), .int .i64 (((n + m : Nat) : Int))] : Nat) : Int)), .agg (ppU [.agg (G (k)), .int .i64 (((n : Nat) : Int))]), .int .i64 (((ppN [.agg (G (k)), .int .i64 (((n : Nat) : Int))] : Nat) : Int))])) = true ∧
                              somU [.agg ((subL (G (k)) (0) ((n) * 3)) ++ (subL (G (k2)) (0) ((m) * 3))), .int .i64 (((n + m : Nat) : Int))] = true ∧
                              okTU [.agg ((subL (G (k)) (0) ((n) * 3)) ++ (subL (G (k2)) (0) ((m) * 3))), .int .i64 (((n + m : Nat) : Int))] = true ∧
                              somU [.agg ((subL (G (k)) (0) ((n) * 3)) ++ (subL (G (k2)) (0) ((m) * 3))), .int .i64 (((n + m : Nat) : Int))] = true ∧
                              decide ((((ppN [.agg ((subL (G (k)) (0) ((n) * 3)) ++ (subL (G (k2)) (0) ((m) * 3))), .int .i64 (((n + m : Nat) : Int))] : Nat) : Int) : Int) > 8) = true ∧
                              R (.bool (true)) [])) ∧
                          (matchU [.agg (G (k)), .int .i64 (((n : Nat) : Int)), .agg (G (k3)), .int .i64 (((r : Nat) : Int))] = false →
                            (!(stU [.agg (ppU [.agg ((subL (G (k)) (0) ((n) * 3)) ++ (subL (G (k2)) (0) ((m) * 3))), .int .i64 (((n + m : Nat) : Int))]), .int .i64 (((ppN [.agg ((subL (G (k)) (0) ((n) * 3)) ++ (subL (G (k2)) (0) ((m) * 3))), .int .i64 (((n + m : Nat) : Int))] : Nat) : Int)), .agg (ppU [.agg (G (k)), .int .i64 (((n : Nat) : Int))]), .int .i64 (((ppN [.agg (G (k)), .int .i64 (((n : Nat) : Int))] : Nat) : Int))])) = true ∧
                            somU [.agg ((subL (G (k)) (0) ((n) * 3)) ++ (subL (G (k2)) (0) ((m) * 3))), .int .i64 (((n + m : Nat) : Int))] = true ∧
                            okTU [.agg ((subL (G (k)) (0) ((n) * 3)) ++ (subL (G (k2)) (0) ((m) * 3))), .int .i64 (((n + m : Nat) : Int))] = true ∧
                            somU [.agg ((subL (G (k)) (0) ((n) * 3)) ++ (subL (G (k2)) (0) ((m) * 3))), .int .i64 (((n + m : Nat) : Int))] = true ∧
                            decide ((((ppN [.agg ((subL (G (k)) (0) ((n) * 3)) ++ (subL (G (k2)) (0) ((m) * 3))), .int .i64 (((n + m : Nat) : Int))] : Nat) : Int) : Int) > 8) = true ∧
                            R (.bool (true)) [])) ∧
                        (stU [.agg (ppU [.agg ((subL (G (k)) (0) ((n) * 3)) ++ (subL (G (k2)) (0) ((m) * 3))), .int .i64 (((n + m : Nat) : Int))]), .int .i64 (((ppN [.agg ((subL (G (k)) (0) ((n) * 3)) ++ (subL (G (k2)) (0) ((m) * 3))), .int .i64 (((n + m : Nat) : Int))] : Nat) : Int)), .agg (ppU [.agg (G (k2)), .int .i64 (((m : Nat) : Int))]), .int .i64 (((ppN [.agg (G (k2)), .int .i64 (((m : Nat) : Int))] : Nat) : Int))] = false →
                          (!(stU [.agg (ppU [.agg ((subL (G (k)) (0) ((n) * 3)) ++ (subL (G (k2)) (0) ((m) * 3))), .int .i64 (((n + m : Nat) : Int))]), .int .i64 (((ppN [.agg ((subL (G (k)) (0) ((n) * 3)) ++ (subL (G (k2)) (0) ((m) * 3))), .int .i64 (((n + m : Nat) : Int))] : Nat) : Int)), .agg (ppU [.agg (G (k)), .int .i64 (((n : Nat) : Int))]), .int .i64 (((ppN [.agg (G (k)), .int .i64 (((n : Nat) : Int))] : Nat) : Int))])) = true ∧
                          somU [.agg (G (k)), .int .i64 (((n : Nat) : Int))] = true ∧
                          somU [.agg (G (k)), .int .i64 (((n : Nat) : Int))] = true ∧
                          rowsU [.agg (G (k)), .int .i64 (((n : Nat) : Int))] = true ∧
                          bytesU [.agg (G (k3)), .int .i64 (((r : Nat) : Int))] = true ∧
                          (matchU [.agg (G (k)), .int .i64 (((n : Nat) : Int)), .agg (G (k3)), .int .i64 (((r : Nat) : Int))] = true →
                            rowsU [.agg (G (k2)), .int .i64 (((m : Nat) : Int))] = true ∧
                            bytesU [.agg (G (k3)), .int .i64 (((r : Nat) : Int))] = true ∧
                            (matchU [.agg (G (k2)), .int .i64 (((m : Nat) : Int)), .agg (G (k3)), .int .i64 (((r : Nat) : Int))] = true →
                              somU [.agg ((subL (G (k)) (0) ((n) * 3)) ++ (subL (G (k2)) (0) ((m) * 3))), .int .i64 (((n + m : Nat) : Int))] = true ∧
                              (!(stU [.agg (ppU [.agg ((subL (G (k)) (0) ((n) * 3)) ++ (subL (G (k2)) (0) ((m) * 3))), .int .i64 (((n + m : Nat) : Int))]), .int .i64 (((ppN [.agg ((subL (G (k)) (0) ((n) * 3)) ++ (subL (G (k2)) (0) ((m) * 3))), .int .i64 (((n + m : Nat) : Int))] : Nat) : Int)), .agg (ppU [.agg (G (k)), .int .i64 (((n : Nat) : Int))]), .int .i64 (((ppN [.agg (G (k)), .int .i64 (((n : Nat) : Int))] : Nat) : Int))])) = true ∧
                              somU [.agg ((subL (G (k)) (0) ((n) * 3)) ++ (subL (G (k2)) (0) ((m) * 3))), .int .i64 (((n + m : Nat) : Int))] = true ∧
                              okTU [.agg ((subL (G (k)) (0) ((n) * 3)) ++ (subL (G (k2)) (0) ((m) * 3))), .int .i64 (((n + m : Nat) : Int))] = true ∧
                              somU [.agg ((subL (G (k)) (0) ((n) * 3)) ++ (subL (G (k2)) (0) ((m) * 3))), .int .i64 (((n + m : Nat) : Int))] = true ∧
                              decide ((((ppN [.agg ((subL (G (k)) (0) ((n) * 3)) ++ (subL (G (k2)) (0) ((m) * 3))), .int .i64 (((n + m : Nat) : Int))] : Nat) : Int) : Int) > 8) = true ∧
                              R (.bool (true)) []) ∧
                            (matchU [.agg (G (k2)), .int .i64 (((m : Nat) : Int)), .agg (G (k3)), .int .i64 (((r : Nat) : Int))] = false →
                              (!(stU [.agg (ppU [.agg ((subL (G (k)) (0) ((n) * 3)) ++ (subL (G (k2)) (0) ((m) * 3))), .int .i64 (((n + m : Nat) : Int))]), .int .i64 (((ppN [.agg ((subL (G (k)) (0) ((n) * 3)) ++ (subL (G (k2)) (0) ((m) * 3))), .int .i64 (((n + m : Nat) : Int))] : Nat) : Int)), .agg (ppU [.agg (G (k)), .int .i64 (((n : Nat) : Int))]), .int .i64 (((ppN [.agg (G (k)), .int .i64 (((n : Nat) : Int))] : Nat) : Int))])) = true ∧
                              somU [.agg ((subL (G (k)) (0) ((n) * 3)) ++ (subL (G (k2)) (0) ((m) * 3))), .int .i64 (((n + m : Nat) : Int))] = true ∧
                              okTU [.agg ((subL (G (k)) (0) ((n) * 3)) ++ (subL (G (k2)) (0) ((m) * 3))), .int .i64 (((n + m : Nat) : Int))] = true ∧
                              somU [.agg ((subL (G (k)) (0) ((n) * 3)) ++ (subL (G (k2)) (0) ((m) * 3))), .int .i64 (((n + m : Nat) : Int))] = true ∧
                              decide ((((ppN [.agg ((subL (G (k)) (0) ((n) * 3)) ++ (subL (G (k2)) (0) ((m) * 3))), .int .i64 (((n + m : Nat) : Int))] : Nat) : Int) : Int) > 8) = true ∧
                              R (.bool (true)) [])) ∧
                          (matchU [.agg (G (k)), .int .i64 (((n : Nat) : Int)), .agg (G (k3)), .int .i64 (((r : Nat) : Int))] = false →
                            (!(stU [.agg (ppU [.agg ((subL (G (k)) (0) ((n) * 3)) ++ (subL (G (k2)) (0) ((m) * 3))), .int .i64 (((n + m : Nat) : Int))]), .int .i64 (((ppN [.agg ((subL (G (k)) (0) ((n) * 3)) ++ (subL (G (k2)) (0) ((m) * 3))), .int .i64 (((n + m : Nat) : Int))] : Nat) : Int)), .agg (ppU [.agg (G (k)), .int .i64 (((n : Nat) : Int))]), .int .i64 (((ppN [.agg (G (k)), .int .i64 (((n : Nat) : Int))] : Nat) : Int))])) = true ∧
                            somU [.agg ((subL (G (k)) (0) ((n) * 3)) ++ (subL (G (k2)) (0) ((m) * 3))), .int .i64 (((n + m : Nat) : Int))] = true ∧
                            okTU [.agg ((subL (G (k)) (0) ((n) * 3)) ++ (subL (G (k2)) (0) ((m) * 3))), .int .i64 (((n + m : Nat) : Int))] = true ∧
                            somU [.agg ((subL (G (k)) (0) ((n) * 3)) ++ (subL (G (k2)) (0) ((m) * 3))), .int .i64 (((n + m : Nat) : Int))] = true ∧
                            decide ((((ppN [.agg ((subL (G (k)) (0) ((n) * 3)) ++ (subL (G (k2)) (0) ((m) * 3))), .int .i64 (((n + m : Nat) : Int))] : Nat) : Int) : Int) > 8) = true ∧
                            R (.bool (true)) [])))) ∧
                    (decide ((((ppN [.agg ((subL (G (k)) (0) ((n) * 3)) ++ (subL (G (k2)) (0) ((m) * 3))), .int .i64 (((n + m : Nat) : Int))] : Nat) : Int) : Int) > 8) = false →
                      rowsU [.agg (G (k)), .int .i64 (((n : Nat) : Int))] = true ∧
                      rowsU [.agg (G (k2)), .int .i64 (((m : Nat) : Int))] = true ∧
                      mayU [.agg (G (k)), .int .i64 (((n : Nat) : Int))] = true ∧
                      mayU [.agg (G (k2)), .int .i64 (((m : Nat) : Int))] = true ∧
                      rowsU [.agg (G (k)), .int .i64 (((n : Nat) : Int))] = true ∧
                      rowsU [.agg (G (k2)), .int .i64 (((m : Nat) : Int))] = true ∧
                      mayU [.agg (G (k)), .int .i64 (((n : Nat) : Int))] = true ∧
                      mayU [.agg (G (k2)), .int .i64 (((m : Nat) : Int))] = true ∧
                      somU [.agg (G (k)), .int .i64 (((n : Nat) : Int))] = true ∧
                      somU [.agg ((subL (G (k)) (0) ((n) * 3)) ++ (subL (G (k2)) (0) ((m) * 3))), .int .i64 (((n + m : Nat) : Int))] = true ∧
                      rowsU [.agg (G (k)), .int .i64 (((n : Nat) : Int))] = true ∧
                      rowsU [.agg (G (k2)), .int .i64 (((m : Nat) : Int))] = true ∧
                      mayU [.agg (G (k)), .int .i64 (((n : Nat) : Int))] = true ∧
                      mayU [.agg (G (k2)), .int .i64 (((m : Nat) : Int))] = true ∧
                      somU [.agg (G (k)), .int .i64 (((n : Nat) : Int))] = true ∧
                      somU [.agg ((subL (G (k)) (0) ((n) * 3)) ++ (subL (G (k2)) (0) ((m) * 3))), .int .i64 (((n + m : Nat) : Int))] = true ∧
                      rowsU [.agg (G (k2)), .int .i64 (((m : Nat) : Int))] = true ∧
                      rowsU [.agg (G (k)), .int .i64 (((n : Nat) : Int))] = true ∧
                      mayU [.agg (G (k2)), .int .i64 (((m : Nat) : Int))] = true ∧
                      mayU [.agg (G (k)), .int .i64 (((n : Nat) : Int))] = true ∧
                      somU [.agg (G (k2)), .int .i64 (((m : Nat) : Int))] = true ∧
                      somU [.agg ((subL (G (k)) (0) ((n) * 3)) ++ (subL (G (k2)) (0) ((m) * 3))), .int .i64 (((n + m : Nat) : Int))] = true ∧
                      (stU [.agg (ppU [.agg ((subL (G (k)) (0) ((n) * 3)) ++ (subL (G (k2)) (0) ((m) * 3))), .int .i64 (((n + m : Nat) : Int))]), .int .i64 (((ppN [.agg ((subL (G (k)) (0) ((n) * 3)) ++ (subL (G (k2)) (0) ((m) * 3))), .int .i64 (((n + m : Nat) : Int))] : Nat) : Int)), .agg (ppU [.agg (G (k)), .int .i64 (((n : Nat) : Int))]), .int .i64 (((ppN [.agg (G (k)), .int .i64 (((n : Nat) : Int))] : Nat) : Int))] = true →
                        rowsU [.agg (G (k)), .int .i64 (((n : Nat) : Int))] = true ∧
                        mayU [.agg (G (k)), .int .i64 (((n : Nat) : Int))] = true ∧
                        rowsU [.agg (G (k2)), .int .i64 (((m : Nat) : Int))] = true ∧
                        mayU [.agg (G (k2)), .int .i64 (((m : Nat) : Int))] = true ∧
                        leB ((n) * 3) (List.length (G (k))) = true ∧
                        cellsB (subL (G (k)) (0) ((n) * 3)) = true ∧
                        leB ((n) * 24) (140737488355328) = true ∧
                        leB ((m) * 3) (List.length (G (k2))) = true ∧
                        cellsB (subL (G (k2)) (0) ((m) * 3)) = true ∧
                        leB ((n + m) * 24) (140737488355328) = true ∧
                        Nat.beq (List.length (subL (G (k)) (0) ((n) * 3))) ((n) * 3) = true ∧
                        okTU [.agg ((subL (G (k)) (0) ((n) * 3)) ++ (subL (G (k2)) (0) ((m) * 3))), .int .i64 (((n + m : Nat) : Int))] = true ∧
                        okTU [.agg (G (k)), .int .i64 (((n : Nat) : Int))] = true ∧
                        okTU [.agg (G (k2)), .int .i64 (((m : Nat) : Int))] = true ∧
                        somU [.agg ((subL (G (k)) (0) ((n) * 3)) ++ (subL (G (k2)) (0) ((m) * 3))), .int .i64 (((n + m : Nat) : Int))] = true ∧
                        somU [.agg ((subL (G (k)) (0) ((n) * 3)) ++ (subL (G (k2)) (0) ((m) * 3))), .int .i64 (((n + m : Nat) : Int))] = true ∧
                        somU [.agg ((subL (G (k)) (0) ((n) * 3)) ++ (subL (G (k2)) (0) ((m) * 3))), .int .i64 (((n + m : Nat) : Int))] = true ∧
                        okTU [.agg ((subL (G (k)) (0) ((n) * 3)) ++ (subL (G (k2)) (0) ((m) * 3))), .int .i64 (((n + m : Nat) : Int))] = true ∧
                        somU [.agg ((subL (G (k)) (0) ((n) * 3)) ++ (subL (G (k2)) (0) ((m) * 3))), .int .i64 (((n + m : Nat) : Int))] = true ∧
                        okTU [.agg (G (k)), .int .i64 (((n : Nat) : Int))] = true ∧
                        somU [.agg (G (k)), .int .i64 (((n : Nat) : Int))] = true ∧
                        okTU [.agg (ppU [.agg ((subL (G (k)) (0) ((n) * 3)) ++ (subL (G (k2)) (0) ((m) * 3))), .int .i64 (((n + m : Nat) : Int))]), .int .i64 (((ppN [.agg ((subL (G (k)) (0) ((n) * 3)) ++ (subL (G (k2)) (0) ((m) * 3))), .int .i64 (((n + m : Nat) : Int))] : Nat) : Int))] = true ∧
                        okTU [.agg (ppU [.agg (G (k)), .int .i64 (((n : Nat) : Int))]), .int .i64 (((ppN [.agg (G (k)), .int .i64 (((n : Nat) : Int))] : Nat) : Int))] = true ∧
                        stU [.agg (ppU [.agg ((subL (G (k)) (0) ((n) * 3)) ++ (subL (G (k2)) (0) ((m) * 3))), .int .i64 (((n + m : Nat) : Int))]), .int .i64 (((ppN [.agg ((subL (G (k)) (0) ((n) * 3)) ++ (subL (G (k2)) (0) ((m) * 3))), .int .i64 (((n + m : Nat) : Int))] : Nat) : Int)), .agg (ppU [.agg (G (k)), .int .i64 (((n : Nat) : Int))]), .int .i64 (((ppN [.agg (G (k)), .int .i64 (((n : Nat) : Int))] : Nat) : Int))] = true ∧
                        somU [.agg ((subL (G (k)) (0) ((n) * 3)) ++ (subL (G (k2)) (0) ((m) * 3))), .int .i64 (((n + m : Nat) : Int))] = true ∧
                        okTU [.agg ((subL (G (k)) (0) ((n) * 3)) ++ (subL (G (k2)) (0) ((m) * 3))), .int .i64 (((n + m : Nat) : Int))] = true ∧
                        somU [.agg ((subL (G (k)) (0) ((n) * 3)) ++ (subL (G (k2)) (0) ((m) * 3))), .int .i64 (((n + m : Nat) : Int))] = true ∧
                        okTU [.agg (G (k2)), .int .i64 (((m : Nat) : Int))] = true ∧
                        somU [.agg (G (k2)), .int .i64 (((m : Nat) : Int))] = true ∧
                        okTU [.agg (ppU [.agg ((subL (G (k)) (0) ((n) * 3)) ++ (subL (G (k2)) (0) ((m) * 3))), .int .i64 (((n + m : Nat) : Int))]), .int .i64 (((ppN [.agg ((subL (G (k)) (0) ((n) * 3)) ++ (subL (G (k2)) (0) ((m) * 3))), .int .i64 (((n + m : Nat) : Int))] : Nat) : Int))] = true ∧
                        okTU [.agg (ppU [.agg (G (k2)), .int .i64 (((m : Nat) : Int))]), .int .i64 (((ppN [.agg (G (k2)), .int .i64 (((m : Nat) : Int))] : Nat) : Int))] = true ∧
                        (stU [.agg (ppU [.agg ((subL (G (k)) (0) ((n) * 3)) ++ (subL (G (k2)) (0) ((m) * 3))), .int .i64 (((n + m : Nat) : Int))]), .int .i64 (((ppN [.agg ((subL (G (k)) (0) ((n) * 3)) ++ (subL (G (k2)) (0) ((m) * 3))), .int .i64 (((n + m : Nat) : Int))] : Nat) : Int)), .agg (ppU [.agg (G (k2)), .int .i64 (((m : Nat) : Int))]), .int .i64 (((ppN [.agg (G (k2)), .int .i64 (((m : Nat) : Int))] : Nat) : Int))] = true →
                          stU [.agg (ppU [.agg ((subL (G (k)) (0) ((n) * 3)) ++ (subL (G (k2)) (0) ((m) * 3))), .int .i64 (((n + m : Nat) : Int))]), .int .i64 (((ppN [.agg ((subL (G (k)) (0) ((n) * 3)) ++ (subL (G (k2)) (0) ((m) * 3))), .int .i64 (((n + m : Nat) : Int))] : Nat) : Int)), .agg (ppU [.agg (G (k)), .int .i64 (((n : Nat) : Int))]), .int .i64 (((ppN [.agg (G (k)), .int .i64 (((n : Nat) : Int))] : Nat) : Int))] = true ∧
                          stU [.agg (ppU [.agg ((subL (G (k)) (0) ((n) * 3)) ++ (subL (G (k2)) (0) ((m) * 3))), .int .i64 (((n + m : Nat) : Int))]), .int .i64 (((ppN [.agg ((subL (G (k)) (0) ((n) * 3)) ++ (subL (G (k2)) (0) ((m) * 3))), .int .i64 (((n + m : Nat) : Int))] : Nat) : Int)), .agg (ppU [.agg (G (k2)), .int .i64 (((m : Nat) : Int))]), .int .i64 (((ppN [.agg (G (k2)), .int .i64 (((m : Nat) : Int))] : Nat) : Int))] = true ∧
                          rowsU [.agg (G (k)), .int .i64 (((n : Nat) : Int))] = true ∧
                          bytesU [.agg (G (k3)), .int .i64 (((r : Nat) : Int))] = true ∧
                          (matchU [.agg (G (k)), .int .i64 (((n : Nat) : Int)), .agg (G (k3)), .int .i64 (((r : Nat) : Int))] = true →
                            rowsU [.agg (G (k2)), .int .i64 (((m : Nat) : Int))] = true ∧
                            bytesU [.agg (G (k3)), .int .i64 (((r : Nat) : Int))] = true ∧
                            (matchU [.agg (G (k2)), .int .i64 (((m : Nat) : Int)), .agg (G (k3)), .int .i64 (((r : Nat) : Int))] = true →
                              somU [.agg ((subL (G (k)) (0) ((n) * 3)) ++ (subL (G (k2)) (0) ((m) * 3))), .int .i64 (((n + m : Nat) : Int))] = true ∧
                              stU [.agg (ppU [.agg ((subL (G (k)) (0) ((n) * 3)) ++ (subL (G (k2)) (0) ((m) * 3))), .int .i64 (((n + m : Nat) : Int))]), .int .i64 (((ppN [.agg ((subL (G (k)) (0) ((n) * 3)) ++ (subL (G (k2)) (0) ((m) * 3))), .int .i64 (((n + m : Nat) : Int))] : Nat) : Int)), .agg (ppU [.agg (G (k)), .int .i64 (((n : Nat) : Int))]), .int .i64 (((ppN [.agg (G (k)), .int .i64 (((n : Nat) : Int))] : Nat) : Int))] = true ∧
                              rowsU [.agg (G (k)), .int .i64 (((n : Nat) : Int))] = true ∧
                              bytesU [.agg (G (k3)), .int .i64 (((r : Nat) : Int))] = true ∧
                              matchU [.agg (G (k)), .int .i64 (((n : Nat) : Int)), .agg (G (k3)), .int .i64 (((r : Nat) : Int))] = true ∧
                              rowsU [.agg (G (k2)), .int .i64 (((m : Nat) : Int))] = true ∧
                              bytesU [.agg (G (k3)), .int .i64 (((r : Nat) : Int))] = true ∧
                              matchU [.agg (G (k2)), .int .i64 (((m : Nat) : Int)), .agg (G (k3)), .int .i64 (((r : Nat) : Int))] = true ∧
                              stU [.agg (ppU [.agg ((subL (G (k)) (0) ((n) * 3)) ++ (subL (G (k2)) (0) ((m) * 3))), .int .i64 (((n + m : Nat) : Int))]), .int .i64 (((ppN [.agg ((subL (G (k)) (0) ((n) * 3)) ++ (subL (G (k2)) (0) ((m) * 3))), .int .i64 (((n + m : Nat) : Int))] : Nat) : Int)), .agg (ppU [.agg (G (k2)), .int .i64 (((m : Nat) : Int))]), .int .i64 (((ppN [.agg (G (k2)), .int .i64 (((m : Nat) : Int))] : Nat) : Int))] = true ∧
                              rowsU [.agg (G (k)), .int .i64 (((n : Nat) : Int))] = true ∧
                              bytesU [.agg (G (k3)), .int .i64 (((r : Nat) : Int))] = true ∧
                              rowsU [.agg (G (k2)), .int .i64 (((m : Nat) : Int))] = true ∧
                              bytesU [.agg (G (k3)), .int .i64 (((r : Nat) : Int))] = true ∧
                              matchU [.agg (G (k)), .int .i64 (((n : Nat) : Int)), .agg (G (k3)), .int .i64 (((r : Nat) : Int))] = true ∧
                              matchU [.agg (G (k2)), .int .i64 (((m : Nat) : Int)), .agg (G (k3)), .int .i64 (((r : Nat) : Int))] = true ∧
                              somU [.agg ((subL (G (k)) (0) ((n) * 3)) ++ (subL (G (k2)) (0) ((m) * 3))), .int .i64 (((n + m : Nat) : Int))] = true ∧
                              okTU [.agg ((subL (G (k)) (0) ((n) * 3)) ++ (subL (G (k2)) (0) ((m) * 3))), .int .i64 (((n + m : Nat) : Int))] = true ∧
                              somU [.agg ((subL (G (k)) (0) ((n) * 3)) ++ (subL (G (k2)) (0) ((m) * 3))), .int .i64 (((n + m : Nat) : Int))] = true ∧
                              (!(decide ((((ppN [.agg ((subL (G (k)) (0) ((n) * 3)) ++ (subL (G (k2)) (0) ((m) * 3))), .int .i64 (((n + m : Nat) : Int))] : Nat) : Int) : Int) > 8))) = true ∧
                              okTU [.agg (ppU [.agg ((subL (G (k)) (0) ((n) * 3)) ++ (subL (G (k2)) (0) ((m) * 3))), .int .i64 (((n + m : Nat) : Int))]), .int .i64 (((ppN [.agg ((subL (G (k)) (0) ((n) * 3)) ++ (subL (G (k2)) (0) ((m) * 3))), .int .i64 (((n + m : Nat) : Int))] : Nat) : Int))] = true ∧
                              okTU [.agg (ppU [.agg ((subL (G (k)) (0) ((n) * 3)) ++ (subL (G (k2)) (0) ((m) * 3))), .int .i64 (((n + m : Nat) : Int))]), .int .i64 (((ppN [.agg ((subL (G (k)) (0) ((n) * 3)) ++ (subL (G (k2)) (0) ((m) * 3))), .int .i64 (((n + m : Nat) : Int))] : Nat) : Int))] = true ∧
                              (stU [.agg (ppU [.agg ((subL (G (k)) (0) ((n) * 3)) ++ (subL (G (k2)) (0) ((m) * 3))), .int .i64 (((n + m : Nat) : Int))]), .int .i64 (((ppN [.agg ((subL (G (k)) (0) ((n) * 3)) ++ (subL (G (k2)) (0) ((m) * 3))), .int .i64 (((n + m : Nat) : Int))] : Nat) : Int)), .agg (ppU [.agg ((subL (G (k)) (0) ((n) * 3)) ++ (subL (G (k2)) (0) ((m) * 3))), .int .i64 (((n + m : Nat) : Int))]), .int .i64 (((ppN [.agg ((subL (G (k)) (0) ((n) * 3)) ++ (subL (G (k2)) (0) ((m) * 3))), .int .i64 (((n + m : Nat) : Int))] : Nat) : Int))] = true →
                                R (.bool (true)) []) ∧
                              (stU [.agg (ppU [.agg ((subL (G (k)) (0) ((n) * 3)) ++ (subL (G (k2)) (0) ((m) * 3))), .int .i64 (((n + m : Nat) : Int))]), .int .i64 (((ppN [.agg ((subL (G (k)) (0) ((n) * 3)) ++ (subL (G (k2)) (0) ((m) * 3))), .int .i64 (((n + m : Nat) : Int))] : Nat) : Int)), .agg (ppU [.agg ((subL (G (k)) (0) ((n) * 3)) ++ (subL (G (k2)) (0) ((m) * 3))), .int .i64 (((n + m : Nat) : Int))]), .int .i64 (((ppN [.agg ((subL (G (k)) (0) ((n) * 3)) ++ (subL (G (k2)) (0) ((m) * 3))), .int .i64 (((n + m : Nat) : Int))] : Nat) : Int))] = false →
                                R (.bool (false)) [])) ∧
                            (matchU [.agg (G (k2)), .int .i64 (((m : Nat) : Int)), .agg (G (k3)), .int .i64 (((r : Nat) : Int))] = false →
                              stU [.agg (ppU [.agg ((subL (G (k)) (0) ((n) * 3)) ++ (subL (G (k2)) (0) ((m) * 3))), .int .i64 (((n + m : Nat) : Int))]), .int .i64 (((ppN [.agg ((subL (G (k)) (0) ((n) * 3)) ++ (subL (G (k2)) (0) ((m) * 3))), .int .i64 (((n + m : Nat) : Int))] : Nat) : Int)), .agg (ppU [.agg (G (k)), .int .i64 (((n : Nat) : Int))]), .int .i64 (((ppN [.agg (G (k)), .int .i64 (((n : Nat) : Int))] : Nat) : Int))] = true ∧
                              rowsU [.agg (G (k)), .int .i64 (((n : Nat) : Int))] = true ∧
                              bytesU [.agg (G (k3)), .int .i64 (((r : Nat) : Int))] = true ∧
                              matchU [.agg (G (k)), .int .i64 (((n : Nat) : Int)), .agg (G (k3)), .int .i64 (((r : Nat) : Int))] = true ∧
                              rowsU [.agg (G (k2)), .int .i64 (((m : Nat) : Int))] = true ∧
                              bytesU [.agg (G (k3)), .int .i64 (((r : Nat) : Int))] = true ∧
                              (!(matchU [.agg (G (k2)), .int .i64 (((m : Nat) : Int)), .agg (G (k3)), .int .i64 (((r : Nat) : Int))])) = true ∧
                              R (.bool (false)) [])) ∧
                          (matchU [.agg (G (k)), .int .i64 (((n : Nat) : Int)), .agg (G (k3)), .int .i64 (((r : Nat) : Int))] = false →
                            stU [.agg (ppU [.agg ((subL (G (k)) (0) ((n) * 3)) ++ (subL (G (k2)) (0) ((m) * 3))), .int .i64 (((n + m : Nat) : Int))]), .int .i64 (((ppN [.agg ((subL (G (k)) (0) ((n) * 3)) ++ (subL (G (k2)) (0) ((m) * 3))), .int .i64 (((n + m : Nat) : Int))] : Nat) : Int)), .agg (ppU [.agg (G (k)), .int .i64 (((n : Nat) : Int))]), .int .i64 (((ppN [.agg (G (k)), .int .i64 (((n : Nat) : Int))] : Nat) : Int))] = true ∧
                            rowsU [.agg (G (k)), .int .i64 (((n : Nat) : Int))] = true ∧
                            bytesU [.agg (G (k3)), .int .i64 (((r : Nat) : Int))] = true ∧
                            (!(matchU [.agg (G (k)), .int .i64 (((n : Nat) : Int)), .agg (G (k3)), .int .i64 (((r : Nat) : Int))])) = true ∧
                            stU [.agg (ppU [.agg ((subL (G (k)) (0) ((n) * 3)) ++ (subL (G (k2)) (0) ((m) * 3))), .int .i64 (((n + m : Nat) : Int))]), .int .i64 (((ppN [.agg ((subL (G (k)) (0) ((n) * 3)) ++ (subL (G (k2)) (0) ((m) * 3))), .int .i64 (((n + m : Nat) : Int))] : Nat) : Int)), .agg (ppU [.agg (G (k2)), .int .i64 (((m : Nat) : Int))]), .int .i64 (((ppN [.agg (G (k2)), .int .i64 (((m : Nat) : Int))] : Nat) : Int))] = true ∧
                            rowsU [.agg (G (k)), .int .i64 (((n : Nat) : Int))] = true ∧
                            bytesU [.agg (G (k3)), .int .i64 (((r : Nat) : Int))] = true ∧
                            rowsU [.agg (G (k2)), .int .i64 (((m : Nat) : Int))] = true ∧
                            bytesU [.agg (G (k3)), .int .i64 (((r : Nat) : Int))] = true ∧
                            (!(matchU [.agg (G (k)), .int .i64 (((n : Nat) : Int)), .agg (G (k3)), .int .i64 (((r : Nat) : Int))])) = true ∧
                            (matchU [.agg (G (k2)), .int .i64 (((m : Nat) : Int)), .agg (G (k3)), .int .i64 (((r : Nat) : Int))] = true →
                              R (.bool (false)) []) ∧
                            (matchU [.agg (G (k2)), .int .i64 (((m : Nat) : Int)), .agg (G (k3)), .int .i64 (((r : Nat) : Int))] = false →
                              somU [.agg ((subL (G (k)) (0) ((n) * 3)) ++ (subL (G (k2)) (0) ((m) * 3))), .int .i64 (((n + m : Nat) : Int))] = true ∧
                              okTU [.agg ((subL (G (k)) (0) ((n) * 3)) ++ (subL (G (k2)) (0) ((m) * 3))), .int .i64 (((n + m : Nat) : Int))] = true ∧
                              somU [.agg ((subL (G (k)) (0) ((n) * 3)) ++ (subL (G (k2)) (0) ((m) * 3))), .int .i64 (((n + m : Nat) : Int))] = true ∧
                              (!(decide ((((ppN [.agg ((subL (G (k)) (0) ((n) * 3)) ++ (subL (G (k2)) (0) ((m) * 3))), .int .i64 (((n + m : Nat) : Int))] : Nat) : Int) : Int) > 8))) = true ∧
                              okTU [.agg (ppU [.agg ((subL (G (k)) (0) ((n) * 3)) ++ (subL (G (k2)) (0) ((m) * 3))), .int .i64 (((n + m : Nat) : Int))]), .int .i64 (((ppN [.agg ((subL (G (k)) (0) ((n) * 3)) ++ (subL (G (k2)) (0) ((m) * 3))), .int .i64 (((n + m : Nat) : Int))] : Nat) : Int))] = true ∧
                              okTU [.agg (ppU [.agg ((subL (G (k)) (0) ((n) * 3)) ++ (subL (G (k2)) (0) ((m) * 3))), .int .i64 (((n + m : Nat) : Int))]), .int .i64 (((ppN [.agg ((subL (G (k)) (0) ((n) * 3)) ++ (subL (G (k2)) (0) ((m) * 3))), .int .i64 (((n + m : Nat) : Int))] : Nat) : Int))] = true ∧
                              (stU [.agg (ppU [.agg ((subL (G (k)) (0) ((n) * 3)) ++ (subL (G (k2)) (0) ((m) * 3))), .int .i64 (((n + m : Nat) : Int))]), .int .i64 (((ppN [.agg ((subL (G (k)) (0) ((n) * 3)) ++ (subL (G (k2)) (0) ((m) * 3))), .int .i64 (((n + m : Nat) : Int))] : Nat) : Int)), .agg (ppU [.agg ((subL (G (k)) (0) ((n) * 3)) ++ (subL (G (k2)) (0) ((m) * 3))), .int .i64 (((n + m : Nat) : Int))]), .int .i64 (((ppN [.agg ((subL (G (k)) (0) ((n) * 3)) ++ (subL (G (k2)) (0) ((m) * 3))), .int .i64 (((n + m : Nat) : Int))] : Nat) : Int))] = true →
                                R (.bool (true)) []) ∧
                              (stU [.agg (ppU [.agg ((subL (G (k)) (0) ((n) * 3)) ++ (subL (G (k2)) (0) ((m) * 3))), .int .i64 (((n + m : Nat) : Int))]), .int .i64 (((ppN [.agg ((subL (G (k)) (0) ((n) * 3)) ++ (subL (G (k2)) (0) ((m) * 3))), .int .i64 (((n + m : Nat) : Int))] : Nat) : Int)), .agg (ppU [.agg ((subL (G (k)) (0) ((n) * 3)) ++ (subL (G (k2)) (0) ((m) * 3))), .int .i64 (((n + m : Nat) : Int))]), .int .i64 (((ppN [.agg ((subL (G (k)) (0) ((n) * 3)) ++ (subL (G (k2)) (0) ((m) * 3))), .int .i64 (((n + m : Nat) : Int))] : Nat) : Int))] = false →
                                R (.bool (false)) [])))) ∧
                        (stU [.agg (ppU [.agg ((subL (G (k)) (0) ((n) * 3)) ++ (subL (G (k2)) (0) ((m) * 3))), .int .i64 (((n + m : Nat) : Int))]), .int .i64 (((ppN [.agg ((subL (G (k)) (0) ((n) * 3)) ++ (subL (G (k2)) (0) ((m) * 3))), .int .i64 (((n + m : Nat) : Int))] : Nat) : Int)), .agg (ppU [.agg (G (k2)), .int .i64 (((m : Nat) : Int))]), .int .i64 (((ppN [.agg (G (k2)), .int .i64 (((m : Nat) : Int))] : Nat) : Int))] = false →
                          stU [.agg (ppU [.agg ((subL (G (k)) (0) ((n) * 3)) ++ (subL (G (k2)) (0) ((m) * 3))), .int .i64 (((n + m : Nat) : Int))]), .int .i64 (((ppN [.agg ((subL (G (k)) (0) ((n) * 3)) ++ (subL (G (k2)) (0) ((m) * 3))), .int .i64 (((n + m : Nat) : Int))] : Nat) : Int)), .agg (ppU [.agg (G (k)), .int .i64 (((n : Nat) : Int))]), .int .i64 (((ppN [.agg (G (k)), .int .i64 (((n : Nat) : Int))] : Nat) : Int))] = true ∧
                          (!(stU [.agg (ppU [.agg ((subL (G (k)) (0) ((n) * 3)) ++ (subL (G (k2)) (0) ((m) * 3))), .int .i64 (((n + m : Nat) : Int))]), .int .i64 (((ppN [.agg ((subL (G (k)) (0) ((n) * 3)) ++ (subL (G (k2)) (0) ((m) * 3))), .int .i64 (((n + m : Nat) : Int))] : Nat) : Int)), .agg (ppU [.agg (G (k2)), .int .i64 (((m : Nat) : Int))]), .int .i64 (((ppN [.agg (G (k2)), .int .i64 (((m : Nat) : Int))] : Nat) : Int))])) = true ∧
                          somU [.agg (G (k2)), .int .i64 (((m : Nat) : Int))] = true ∧
                          rowsU [.agg (G (k)), .int .i64 (((n : Nat) : Int))] = true ∧
                          bytesU [.agg (G (k3)), .int .i64 (((r : Nat) : Int))] = true ∧
                          (matchU [.agg (G (k)), .int .i64 (((n : Nat) : Int)), .agg (G (k3)), .int .i64 (((r : Nat) : Int))] = true →
                            rowsU [.agg (G (k2)), .int .i64 (((m : Nat) : Int))] = true ∧
                            bytesU [.agg (G (k3)), .int .i64 (((r : Nat) : Int))] = true ∧
                            (matchU [.agg (G (k2)), .int .i64 (((m : Nat) : Int)), .agg (G (k3)), .int .i64 (((r : Nat) : Int))] = true →
                              somU [.agg ((subL (G (k)) (0) ((n) * 3)) ++ (subL (G (k2)) (0) ((m) * 3))), .int .i64 (((n + m : Nat) : Int))] = true ∧
                              stU [.agg (ppU [.agg ((subL (G (k)) (0) ((n) * 3)) ++ (subL (G (k2)) (0) ((m) * 3))), .int .i64 (((n + m : Nat) : Int))]), .int .i64 (((ppN [.agg ((subL (G (k)) (0) ((n) * 3)) ++ (subL (G (k2)) (0) ((m) * 3))), .int .i64 (((n + m : Nat) : Int))] : Nat) : Int)), .agg (ppU [.agg (G (k)), .int .i64 (((n : Nat) : Int))]), .int .i64 (((ppN [.agg (G (k)), .int .i64 (((n : Nat) : Int))] : Nat) : Int))] = true ∧
                              rowsU [.agg (G (k)), .int .i64 (((n : Nat) : Int))] = true ∧
                              bytesU [.agg (G (k3)), .int .i64 (((r : Nat) : Int))] = true ∧
                              matchU [.agg (G (k)), .int .i64 (((n : Nat) : Int)), .agg (G (k3)), .int .i64 (((r : Nat) : Int))] = true ∧
                              rowsU [.agg (G (k2)), .int .i64 (((m : Nat) : Int))] = true ∧
                              bytesU [.agg (G (k3)), .int .i64 (((r : Nat) : Int))] = true ∧
                              matchU [.agg (G (k2)), .int .i64 (((m : Nat) : Int)), .agg (G (k3)), .int .i64 (((r : Nat) : Int))] = true ∧
                              (!(stU [.agg (ppU [.agg ((subL (G (k)) (0) ((n) * 3)) ++ (subL (G (k2)) (0) ((m) * 3))), .int .i64 (((n + m : Nat) : Int))]), .int .i64 (((ppN [.agg ((subL (G (k)) (0) ((n) * 3)) ++ (subL (G (k2)) (0) ((m) * 3))), .int .i64 (((n + m : Nat) : Int))] : Nat) : Int)), .agg (ppU [.agg (G (k2)), .int .i64 (((m : Nat) : Int))]), .int .i64 (((ppN [.agg (G (k2)), .int .i64 (((m : Nat) : Int))] : Nat) : Int))])) = true ∧
                              somU [.agg ((subL (G (k)) (0) ((n) * 3)) ++ (subL (G (k2)) (0) ((m) * 3))), .int .i64 (((n + m : Nat) : Int))] = true ∧
                              okTU [.agg ((subL (G (k)) (0) ((n) * 3)) ++ (subL (G (k2)) (0) ((m) * 3))), .int .i64 (((n + m : Nat) : Int))] = true ∧
                              somU [.agg ((subL (G (k)) (0) ((n) * 3)) ++ (subL (G (k2)) (0) ((m) * 3))), .int .i64 (((n + m : Nat) : Int))] = true ∧
                              (!(decide ((((ppN [.agg ((subL (G (k)) (0) ((n) * 3)) ++ (subL (G (k2)) (0) ((m) * 3))), .int .i64 (((n + m : Nat) : Int))] : Nat) : Int) : Int) > 8))) = true ∧
                              okTU [.agg (ppU [.agg ((subL (G (k)) (0) ((n) * 3)) ++ (subL (G (k2)) (0) ((m) * 3))), .int .i64 (((n + m : Nat) : Int))]), .int .i64 (((ppN [.agg ((subL (G (k)) (0) ((n) * 3)) ++ (subL (G (k2)) (0) ((m) * 3))), .int .i64 (((n + m : Nat) : Int))] : Nat) : Int))] = true ∧
                              okTU [.agg (ppU [.agg ((subL (G (k)) (0) ((n) * 3)) ++ (subL (G (k2)) (0) ((m) * 3))), .int .i64 (((n + m : Nat) : Int))]), .int .i64 (((ppN [.agg ((subL (G (k)) (0) ((n) * 3)) ++ (subL (G (k2)) (0) ((m) * 3))), .int .i64 (((n + m : Nat) : Int))] : Nat) : Int))] = true ∧
                              (stU [.agg (ppU [.agg ((subL (G (k)) (0) ((n) * 3)) ++ (subL (G (k2)) (0) ((m) * 3))), .int .i64 (((n + m : Nat) : Int))]), .int .i64 (((ppN [.agg ((subL (G (k)) (0) ((n) * 3)) ++ (subL (G (k2)) (0) ((m) * 3))), .int .i64 (((n + m : Nat) : Int))] : Nat) : Int)), .agg (ppU [.agg ((subL (G (k)) (0) ((n) * 3)) ++ (subL (G (k2)) (0) ((m) * 3))), .int .i64 (((n + m : Nat) : Int))]), .int .i64 (((ppN [.agg ((subL (G (k)) (0) ((n) * 3)) ++ (subL (G (k2)) (0) ((m) * 3))), .int .i64 (((n + m : Nat) : Int))] : Nat) : Int))] = true →
                                R (.bool (true)) []) ∧
                              (stU [.agg (ppU [.agg ((subL (G (k)) (0) ((n) * 3)) ++ (subL (G (k2)) (0) ((m) * 3))), .int .i64 (((n + m : Nat) : Int))]), .int .i64 (((ppN [.agg ((subL (G (k)) (0) ((n) * 3)) ++ (subL (G (k2)) (0) ((m) * 3))), .int .i64 (((n + m : Nat) : Int))] : Nat) : Int)), .agg (ppU [.agg ((subL (G (k)) (0) ((n) * 3)) ++ (subL (G (k2)) (0) ((m) * 3))), .int .i64 (((n + m : Nat) : Int))]), .int .i64 (((ppN [.agg ((subL (G (k)) (0) ((n) * 3)) ++ (subL (G (k2)) (0) ((m) * 3))), .int .i64 (((n + m : Nat) : Int))] : Nat) : Int))] = false →
                                R (.bool (false)) [])) ∧
                            (matchU [.agg (G (k2)), .int .i64 (((m : Nat) : Int)), .agg (G (k3)), .int .i64 (((r : Nat) : Int))] = false →
                              stU [.agg (ppU [.agg ((subL (G (k)) (0) ((n) * 3)) ++ (subL (G (k2)) (0) ((m) * 3))), .int .i64 (((n + m : Nat) : Int))]), .int .i64 (((ppN [.agg ((subL (G (k)) (0) ((n) * 3)) ++ (subL (G (k2)) (0) ((m) * 3))), .int .i64 (((n + m : Nat) : Int))] : Nat) : Int)), .agg (ppU [.agg (G (k)), .int .i64 (((n : Nat) : Int))]), .int .i64 (((ppN [.agg (G (k)), .int .i64 (((n : Nat) : Int))] : Nat) : Int))] = true ∧
                              rowsU [.agg (G (k)), .int .i64 (((n : Nat) : Int))] = true ∧
                              bytesU [.agg (G (k3)), .int .i64 (((r : Nat) : Int))] = true ∧
                              matchU [.agg (G (k)), .int .i64 (((n : Nat) : Int)), .agg (G (k3)), .int .i64 (((r : Nat) : Int))] = true ∧
                              rowsU [.agg (G (k2)), .int .i64 (((m : Nat) : Int))] = true ∧
                              bytesU [.agg (G (k3)), .int .i64 (((r : Nat) : Int))] = true ∧
                              (!(matchU [.agg (G (k2)), .int .i64 (((m : Nat) : Int)), .agg (G (k3)), .int .i64 (((r : Nat) : Int))])) = true ∧
                              R (.bool (false)) [])) ∧
                          (matchU [.agg (G (k)), .int .i64 (((n : Nat) : Int)), .agg (G (k3)), .int .i64 (((r : Nat) : Int))] = false →
                            stU [.agg (ppU [.agg ((subL (G (k)) (0) ((n) * 3)) ++ (subL (G (k2)) (0) ((m) * 3))), .int .i64 (((n + m : Nat) : Int))]), .int .i64 (((ppN [.agg ((subL (G (k)) (0) ((n) * 3)) ++ (subL (G (k2)) (0) ((m) * 3))), .int .i64 (((n + m : Nat) : Int))] : Nat) : Int)), .agg (ppU [.agg (G (k)), .int .i64 (((n : Nat) : Int))]), .int .i64 (((ppN [.agg (G (k)), .int .i64 (((n : Nat) : Int))] : Nat) : Int))] = true ∧
                            rowsU [.agg (G (k)), .int .i64 (((n : Nat) : Int))] = true ∧
                            bytesU [.agg (G (k3)), .int .i64 (((r : Nat) : Int))] = true ∧
                            (!(matchU [.agg (G (k)), .int .i64 (((n : Nat) : Int)), .agg (G (k3)), .int .i64 (((r : Nat) : Int))])) = true ∧
                            (!(stU [.agg (ppU [.agg ((subL (G (k)) (0) ((n) * 3)) ++ (subL (G (k2)) (0) ((m) * 3))), .int .i64 (((n + m : Nat) : Int))]), .int .i64 (((ppN [.agg ((subL (G (k)) (0) ((n) * 3)) ++ (subL (G (k2)) (0) ((m) * 3))), .int .i64 (((n + m : Nat) : Int))] : Nat) : Int)), .agg (ppU [.agg (G (k2)), .int .i64 (((m : Nat) : Int))]), .int .i64 (((ppN [.agg (G (k2)), .int .i64 (((m : Nat) : Int))] : Nat) : Int))])) = true ∧
                            somU [.agg ((subL (G (k)) (0) ((n) * 3)) ++ (subL (G (k2)) (0) ((m) * 3))), .int .i64 (((n + m : Nat) : Int))] = true ∧
                            okTU [.agg ((subL (G (k)) (0) ((n) * 3)) ++ (subL (G (k2)) (0) ((m) * 3))), .int .i64 (((n + m : Nat) : Int))] = true ∧
                            somU [.agg ((subL (G (k)) (0) ((n) * 3)) ++ (subL (G (k2)) (0) ((m) * 3))), .int .i64 (((n + m : Nat) : Int))] = true ∧
                            (!(decide ((((ppN [.agg ((subL (G (k)) (0) ((n) * 3)) ++ (subL (G (k2)) (0) ((m) * 3))), .int .i64 (((n + m : Nat) : Int))] : Nat) : Int) : Int) > 8))) = true ∧
                            okTU [.agg (ppU [.agg ((subL (G (k)) (0) ((n) * 3)) ++ (subL (G (k2)) (0) ((m) * 3))), .int .i64 (((n + m : Nat) : Int))]), .int .i64 (((ppN [.agg ((subL (G (k)) (0) ((n) * 3)) ++ (subL (G (k2)) (0) ((m) * 3))), .int .i64 (((n + m : Nat) : Int))] : Nat) : Int))] = true ∧
                            okTU [.agg (ppU [.agg ((subL (G (k)) (0) ((n) * 3)) ++ (subL (G (k2)) (0) ((m) * 3))), .int .i64 (((n + m : Nat) : Int))]), .int .i64 (((ppN [.agg ((subL (G (k)) (0) ((n) * 3)) ++ (subL (G (k2)) (0) ((m) * 3))), .int .i64 (((n + m : Nat) : Int))] : Nat) : Int))] = true ∧
                            (stU [.agg (ppU [.agg ((subL (G (k)) (0) ((n) * 3)) ++ (subL (G (k2)) (0) ((m) * 3))), .int .i64 (((n + m : Nat) : Int))]), .int .i64 (((ppN [.agg ((subL (G (k)) (0) ((n) * 3)) ++ (subL (G (k2)) (0) ((m) * 3))), .int .i64 (((n + m : Nat) : Int))] : Nat) : Int)), .agg (ppU [.agg ((subL (G (k)) (0) ((n) * 3)) ++ (subL (G (k2)) (0) ((m) * 3))), .int .i64 (((n + m : Nat) : Int))]), .int .i64 (((ppN [.agg ((subL (G (k)) (0) ((n) * 3)) ++ (subL (G (k2)) (0) ((m) * 3))), .int .i64 (((n + m : Nat) : Int))] : Nat) : Int))] = true →
                              R (.bool (true)) []) ∧
                            (stU [.agg (ppU [.agg ((subL (G (k)) (0) ((n) * 3)) ++ (subL (G (k2)) (0) ((m) * 3))), .int .i64 (((n + m : Nat) : Int))]), .int .i64 (((ppN [.agg ((subL (G (k)) (0) ((n) * 3)) ++ (subL (G (k2)) (0) ((m) * 3))), .int .i64 (((n + m : Nat) : Int))] : Nat) : Int)), .agg (ppU [.agg ((subL (G (k)) (0) ((n) * 3)) ++ (subL (G (k2)) (0) ((m) * 3))), .int .i64 (((n + m : Nat) : Int))]), .int .i64 (((ppN [.agg ((subL (G (k)) (0) ((n) * 3)) ++ (subL (G (k2)) (0) ((m) * 3))), .int .i64 (((n + m : Nat) : Int))] : Nat) : Int))] = false →
                              R (.bool (false)) [])))) ∧
                      (stU [.agg (ppU [.agg ((subL (G (k)) (0) ((n) * 3)) ++ (subL (G (k2)) (0) ((m) * 3))), .int .i64 (((n + m : Nat) : Int))]), .int .i64 (((ppN [.agg ((subL (G (k)) (0) ((n) * 3)) ++ (subL (G (k2)) (0) ((m) * 3))), .int .i64 (((n + m : Nat) : Int))] : Nat) : Int)), .agg (ppU [.agg (G (k)), .int .i64 (((n : Nat) : Int))]), .int .i64 (((ppN [.agg (G (k)), .int .i64 (((n : Nat) : Int))] : Nat) : Int))] = false →
                        rowsU [.agg (G (k)), .int .i64 (((n : Nat) : Int))] = true ∧
                        mayU [.agg (G (k)), .int .i64 (((n : Nat) : Int))] = true ∧
                        rowsU [.agg (G (k2)), .int .i64 (((m : Nat) : Int))] = true ∧
                        mayU [.agg (G (k2)), .int .i64 (((m : Nat) : Int))] = true ∧
                        leB ((n) * 3) (List.length (G (k))) = true ∧
                        cellsB (subL (G (k)) (0) ((n) * 3)) = true ∧
                        leB ((n) * 24) (140737488355328) = true ∧
                        leB ((m) * 3) (List.length (G (k2))) = true ∧
                        cellsB (subL (G (k2)) (0) ((m) * 3)) = true ∧
                        leB ((n + m) * 24) (140737488355328) = true ∧
                        Nat.beq (List.length (subL (G (k)) (0) ((n) * 3))) ((n) * 3) = true ∧
                        okTU [.agg ((subL (G (k)) (0) ((n) * 3)) ++ (subL (G (k2)) (0) ((m) * 3))), .int .i64 (((n + m : Nat) : Int))] = true ∧
                        okTU [.agg (G (k)), .int .i64 (((n : Nat) : Int))] = true ∧
                        okTU [.agg (G (k2)), .int .i64 (((m : Nat) : Int))] = true ∧
                        somU [.agg ((subL (G (k)) (0) ((n) * 3)) ++ (subL (G (k2)) (0) ((m) * 3))), .int .i64 (((n + m : Nat) : Int))] = true ∧
                        somU [.agg ((subL (G (k)) (0) ((n) * 3)) ++ (subL (G (k2)) (0) ((m) * 3))), .int .i64 (((n + m : Nat) : Int))] = true ∧
                        somU [.agg ((subL (G (k)) (0) ((n) * 3)) ++ (subL (G (k2)) (0) ((m) * 3))), .int .i64 (((n + m : Nat) : Int))] = true ∧
                        okTU [.agg ((subL (G (k)) (0) ((n) * 3)) ++ (subL (G (k2)) (0) ((m) * 3))), .int .i64 (((n + m : Nat) : Int))] = true ∧
                        somU [.agg ((subL (G (k)) (0) ((n) * 3)) ++ (subL (G (k2)) (0) ((m) * 3))), .int .i64 (((n + m : Nat) : Int))] = true ∧
                        okTU [.agg (G (k)), .int .i64 (((n : Nat) : Int))] = true ∧
                        somU [.agg (G (k)), .int .i64 (((n : Nat) : Int))] = true ∧
                        okTU [.agg (ppU [.agg ((subL (G (k)) (0) ((n) * 3)) ++ (subL (G (k2)) (0) ((m) * 3))), .int .i64 (((n + m : Nat) : Int))]), .int .i64 (((ppN [.agg ((subL (G (k)) (0) ((n) * 3)) ++ (subL (G (k2)) (0) ((m) * 3))), .int .i64 (((n + m : Nat) : Int))] : Nat) : Int))] = true ∧
                        okTU [.agg (ppU [.agg (G (k)), .int .i64 (((n : Nat) : Int))]), .int .i64 (((ppN [.agg (G (k)), .int .i64 (((n : Nat) : Int))] : Nat) : Int))] = true ∧
                        (!(stU [.agg (ppU [.agg ((subL (G (k)) (0) ((n) * 3)) ++ (subL (G (k2)) (0) ((m) * 3))), .int .i64 (((n + m : Nat) : Int))]), .int .i64 (((ppN [.agg ((subL (G (k)) (0) ((n) * 3)) ++ (subL (G (k2)) (0) ((m) * 3))), .int .i64 (((n + m : Nat) : Int))] : Nat) : Int)), .agg (ppU [.agg (G (k)), .int .i64 (((n : Nat) : Int))]), .int .i64 (((ppN [.agg (G (k)), .int .i64 (((n : Nat) : Int))] : Nat) : Int))])) = true ∧
                        somU [.agg ((subL (G (k)) (0) ((n) * 3)) ++ (subL (G (k2)) (0) ((m) * 3))), .int .i64 (((n + m : Nat) : Int))] = true ∧
                        okTU [.agg ((subL (G (k)) (0) ((n) * 3)) ++ (subL (G (k2)) (0) ((m) * 3))), .int .i64 (((n + m : Nat) : Int))] = true ∧
                        somU [.agg ((subL (G (k)) (0) ((n) * 3)) ++ (subL (G (k2)) (0) ((m) * 3))), .int .i64 (((n + m : Nat) : Int))] = true ∧
                        okTU [.agg (G (k2)), .int .i64 (((m : Nat) : Int))] = true ∧
                        somU [.agg (G (k2)), .int .i64 (((m : Nat) : Int))] = true ∧
                        okTU [.agg (ppU [.agg ((subL (G (k)) (0) ((n) * 3)) ++ (subL (G (k2)) (0) ((m) * 3))), .int .i64 (((n + m : Nat) : Int))]), .int .i64 (((ppN [.agg ((subL (G (k)) (0) ((n) * 3)) ++ (subL (G (k2)) (0) ((m) * 3))), .int .i64 (((n + m : Nat) : Int))] : Nat) : Int))] = true ∧
                        okTU [.agg (ppU [.agg (G (k2)), .int .i64 (((m : Nat) : Int))]), .int .i64 (((ppN [.agg (G (k2)), .int .i64 (((m : Nat) : Int))] : Nat) : Int))] = true ∧
                        (stU [.agg (ppU [.agg ((subL (G (k)) (0) ((n) * 3)) ++ (subL (G (k2)) (0) ((m) * 3))), .int .i64 (((n + m : Nat) : Int))]), .int .i64 (((ppN [.agg ((subL (G (k)) (0) ((n) * 3)) ++ (subL (G (k2)) (0) ((m) * 3))), .int .i64 (((n + m : Nat) : Int))] : Nat) : Int)), .agg (ppU [.agg (G (k2)), .int .i64 (((m : Nat) : Int))]), .int .i64 (((ppN [.agg (G (k2)), .int .i64 (((m : Nat) : Int))] : Nat) : Int))] = true →
                          (!(stU [.agg (ppU [.agg ((subL (G (k)) (0) ((n) * 3)) ++ (subL (G (k2)) (0) ((m) * 3))), .int .i64 (((n + m : Nat) : Int))]), .int .i64 (((ppN [.agg ((subL (G (k)) (0) ((n) * 3)) ++ (subL (G (k2)) (0) ((m) * 3))), .int .i64 (((n + m : Nat) : Int))] : Nat) : Int)), .agg (ppU [.agg (G (k)), .int .i64 (((n : Nat) : Int))]), .int .i64 (((ppN [.agg (G (k)), .int .i64 (((n : Nat) : Int))] : Nat) : Int))])) = true ∧
                          somU [.agg (G (k)), .int .i64 (((n : Nat) : Int))] = true ∧
                          somU [.agg (G (k)), .int .i64 (((n : Nat) : Int))] = true ∧
                          rowsU [.agg (G (k)), .int .i64 (((n : Nat) : Int))] = true ∧
                          bytesU [.agg (G (k3)), .int .i64 (((r : Nat) : Int))] = true ∧
                          (matchU [.agg (G (k)), .int .i64 (((n : Nat) : Int)), .agg (G (k3)), .int .i64 (((r : Nat) : Int))] = true →
                            rowsU [.agg (G (k2)), .int .i64 (((m : Nat) : Int))] = true ∧
                            bytesU [.agg (G (k3)), .int .i64 (((r : Nat) : Int))] = true ∧
                            (matchU [.agg (G (k2)), .int .i64 (((m : Nat) : Int)), .agg (G (k3)), .int .i64 (((r : Nat) : Int))] = true →
                              somU [.agg ((subL (G (k)) (0) ((n) * 3)) ++ (subL (G (k2)) (0) ((m) * 3))), .int .i64 (((n + m : Nat) : Int))] = true ∧
                              (!(stU [.agg (ppU [.agg ((subL (G (k)) (0) ((n) * 3)) ++ (subL (G (k2)) (0) ((m) * 3))), .int .i64 (((n + m : Nat) : Int))]), .int .i64 (((ppN [.agg ((subL (G (k)) (0) ((n) * 3)) ++ (subL (G (k2)) (0) ((m) * 3))), .int .i64 (((n + m : Nat) : Int))] : Nat) : Int)), .agg (ppU [.agg (G (k)), .int .i64 (((n : Nat) : Int))]), .int .i64 (((ppN [.agg (G (k)), .int .i64 (((n : Nat) : Int))] : Nat) : Int))])) = true ∧
                              somU [.agg ((subL (G (k)) (0) ((n) * 3)) ++ (subL (G (k2)) (0) ((m) * 3))), .int .i64 (((n + m : Nat) : Int))] = true ∧
                              okTU [.agg ((subL (G (k)) (0) ((n) * 3)) ++ (subL (G (k2)) (0) ((m) * 3))), .int .i64 (((n + m : Nat) : Int))] = true ∧
                              somU [.agg ((subL (G (k)) (0) ((n) * 3)) ++ (subL (G (k2)) (0) ((m) * 3))), .int .i64 (((n + m : Nat) : Int))] = true ∧
                              (!(decide ((((ppN [.agg ((subL (G (k)) (0) ((n) * 3)) ++ (subL (G (k2)) (0) ((m) * 3))), .int .i64 (((n + m : Nat) : Int))] : Nat) : Int) : Int) > 8))) = true ∧
                              okTU [.agg (ppU [.agg ((subL (G (k)) (0) ((n) * 3)) ++ (subL (G (k2)) (0) ((m) * 3))), .int .i64 (((n + m : Nat) : Int))]), .int .i64 (((ppN [.agg ((subL (G (k)) (0) ((n) * 3)) ++ (subL (G (k2)) (0) ((m) * 3))), .int .i64 (((n + m : Nat) : Int))] : Nat) : Int))] = true ∧
                              okTU [.agg (ppU [.agg ((subL (G (k)) (0) ((n) * 3)) ++ (subL (G (k2)) (0) ((m) * 3))), .int .i64 (((n + m : Nat) : Int))]), .int .i64 (((ppN [.agg ((subL (G (k)) (0) ((n) * 3)) ++ (subL (G (k2)) (0) ((m) * 3))), .int .i64 (((n + m : Nat) : Int))] : Nat) : Int))] = true ∧
                              (stU [.agg (ppU [.agg ((subL (G (k)) (0) ((n) * 3)) ++ (subL (G (k2)) (0) ((m) * 3))), .int .i64 (((n + m : Nat) : Int))]), .int .i64 (((ppN [.agg ((subL (G (k)) (0) ((n) * 3)) ++ (subL (G (k2)) (0) ((m) * 3))), .int .i64 (((n + m : Nat) : Int))] : Nat) : Int)), .agg (ppU [.agg ((subL (G (k)) (0) ((n) * 3)) ++ (subL (G (k2)) (0) ((m) * 3))), .int .i64 (((n + m : Nat) : Int))]), .int .i64 (((ppN [.agg ((subL (G (k)) (0) ((n) * 3)) ++ (subL (G (k2)) (0) ((m) * 3))), .int .i64 (((n + m : Nat) : Int))] : Nat) : Int))] = true →
                                R (.bool (true)) []) ∧
                              (stU [.agg (ppU [.agg ((subL (G (k)) (0) ((n) * 3)) ++ (subL (G (k2)) (0) ((m) * 3))), .int .i64 (((n + m : Nat) : Int))]), .int .i64 (((ppN [.agg ((subL (G (k)) (0) ((n) * 3)) ++ (subL (G (k2)) (0) ((m) * 3))), .int .i64 (((n + m : Nat) : Int))] : Nat) : Int)), .agg (ppU [.agg ((subL (G (k)) (0) ((n) * 3)) ++ (subL (G (k2)) (0) ((m) * 3))), .int .i64 (((n + m : Nat) : Int))]), .int .i64 (((ppN [.agg ((subL (G (k)) (0) ((n) * 3)) ++ (subL (G (k2)) (0) ((m) * 3))), .int .i64 (((n + m : Nat) : Int))] : Nat) : Int))] = false →
                                R (.bool (false)) [])) ∧
                            (matchU [.agg (G (k2)), .int .i64 (((m : Nat) : Int)), .agg (G (k3)), .int .i64 (((r : Nat) : Int))] = false →
                              (!(stU [.agg (ppU [.agg ((subL (G (k)) (0) ((n) * 3)) ++ (subL (G (k2)) (0) ((m) * 3))), .int .i64 (((n + m : Nat) : Int))]), .int .i64 (((ppN [.agg ((subL (G (k)) (0) ((n) * 3)) ++ (subL (G (k2)) (0) ((m) * 3))), .int .i64 (((n + m : Nat) : Int))] : Nat) : Int)), .agg (ppU [.agg (G (k)), .int .i64 (((n : Nat) : Int))]), .int .i64 (((ppN [.agg (G (k)), .int .i64 (((n : Nat) : Int))] : Nat) : Int))])) = true ∧
                              somU [.agg ((subL (G (k)) (0) ((n) * 3)) ++ (subL (G (k2)) (0) ((m) * 3))), .int .i64 (((n + m : Nat) : Int))] = true ∧
                              okTU [.agg ((subL (G (k)) (0) ((n) * 3)) ++ (subL (G (k2)) (0) ((m) * 3))), .int .i64 (((n + m : Nat) : Int))] = true ∧
                              somU [.agg ((subL (G (k)) (0) ((n) * 3)) ++ (subL (G (k2)) (0) ((m) * 3))), .int .i64 (((n + m : Nat) : Int))] = true ∧
                              (!(decide ((((ppN [.agg ((subL (G (k)) (0) ((n) * 3)) ++ (subL (G (k2)) (0) ((m) * 3))), .int .i64 (((n + m : Nat) : Int))] : Nat) : Int) : Int) > 8))) = true ∧
                              okTU [.agg (ppU [.agg ((subL (G (k)) (0) ((n) * 3)) ++ (subL (G (k2)) (0) ((m) * 3))), .int .i64 (((n + m : Nat) : Int))]), .int .i64 (((ppN [.agg ((subL (G (k)) (0) ((n) * 3)) ++ (subL (G (k2)) (0) ((m) * 3))), .int .i64 (((n + m : Nat) : Int))] : Nat) : Int))] = true ∧
                              okTU [.agg (ppU [.agg ((subL (G (k)) (0) ((n) * 3)) ++ (subL (G (k2)) (0) ((m) * 3))), .int .i64 (((n + m : Nat) : Int))]), .int .i64 (((ppN [.agg ((subL (G (k)) (0) ((n) * 3)) ++ (subL (G (k2)) (0) ((m) * 3))), .int .i64 (((n + m : Nat) : Int))] : Nat) : Int))] = true ∧
                              (stU [.agg (ppU [.agg ((subL (G (k)) (0) ((n) * 3)) ++ (subL (G (k2)) (0) ((m) * 3))), .int .i64 (((n + m : Nat) : Int))]), .int .i64 (((ppN [.agg ((subL (G (k)) (0) ((n) * 3)) ++ (subL (G (k2)) (0) ((m) * 3))), .int .i64 (((n + m : Nat) : Int))] : Nat) : Int)), .agg (ppU [.agg ((subL (G (k)) (0) ((n) * 3)) ++ (subL (G (k2)) (0) ((m) * 3))), .int .i64 (((n + m : Nat) : Int))]), .int .i64 (((ppN [.agg ((subL (G (k)) (0) ((n) * 3)) ++ (subL (G (k2)) (0) ((m) * 3))), .int .i64 (((n + m : Nat) : Int))] : Nat) : Int))] = true →
                                R (.bool (true)) []) ∧
                              (stU [.agg (ppU [.agg ((subL (G (k)) (0) ((n) * 3)) ++ (subL (G (k2)) (0) ((m) * 3))), .int .i64 (((n + m : Nat) : Int))]), .int .i64 (((ppN [.agg ((subL (G (k)) (0) ((n) * 3)) ++ (subL (G (k2)) (0) ((m) * 3))), .int .i64 (((n + m : Nat) : Int))] : Nat) : Int)), .agg (ppU [.agg ((subL (G (k)) (0) ((n) * 3)) ++ (subL (G (k2)) (0) ((m) * 3))), .int .i64 (((n + m : Nat) : Int))]), .int .i64 (((ppN [.agg ((subL (G (k)) (0) ((n) * 3)) ++ (subL (G (k2)) (0) ((m) * 3))), .int .i64 (((n + m : Nat) : Int))] : Nat) : Int))] = false →
                                R (.bool (false)) []))) ∧
                          (matchU [.agg (G (k)), .int .i64 (((n : Nat) : Int)), .agg (G (k3)), .int .i64 (((r : Nat) : Int))] = false →
                            (!(stU [.agg (ppU [.agg ((subL (G (k)) (0) ((n) * 3)) ++ (subL (G (k2)) (0) ((m) * 3))), .int .i64 (((n + m : Nat) : Int))]), .int .i64 (((ppN [.agg ((subL (G (k)) (0) ((n) * 3)) ++ (subL (G (k2)) (0) ((m) * 3))), .int .i64 (((n + m : Nat) : Int))] : Nat) : Int)), .agg (ppU [.agg (G (k)), .int .i64 (((n : Nat) : Int))]), .int .i64 (((ppN [.agg (G (k)), .int .i64 (((n : Nat) : Int))] : Nat) : Int))])) = true ∧
                            somU [.agg ((subL (G (k)) (0) ((n) * 3)) ++ (subL (G (k2)) (0) ((m) * 3))), .int .i64 (((n + m : Nat) : Int))] = true ∧
                            okTU [.agg ((subL (G (k)) (0) ((n) * 3)) ++ (subL (G (k2)) (0) ((m) * 3))), .int .i64 (((n + m : Nat) : Int))] = true ∧
                            somU [.agg ((subL (G (k)) (0) ((n) * 3)) ++ (subL (G (k2)) (0) ((m) * 3))), .int .i64 (((n + m : Nat) : Int))] = true ∧
                            (!(decide ((((ppN [.agg ((subL (G (k)) (0) ((n) * 3)) ++ (subL (G (k2)) (0) ((m) * 3))), .int .i64 (((n + m : Nat) : Int))] : Nat) : Int) : Int) > 8))) = true ∧
                            okTU [.agg (ppU [.agg ((subL (G (k)) (0) ((n) * 3)) ++ (subL (G (k2)) (0) ((m) * 3))), .int .i64 (((n + m : Nat) : Int))]), .int .i64 (((ppN [.agg ((subL (G (k)) (0) ((n) * 3)) ++ (subL (G (k2)) (0) ((m) * 3))), .int .i64 (((n + m : Nat) : Int))] : Nat) : Int))] = true ∧
                            okTU [.agg (ppU [.agg ((subL (G (k)) (0) ((n) * 3)) ++ (subL (G (k2)) (0) ((m) * 3))), .int .i64 (((n + m : Nat) : Int))]), .int .i64 (((ppN [.agg ((subL (G (k)) (0) ((n) * 3)) ++ (subL (G (k2)) (0) ((m) * 3))), .int .i64 (((n + m : Nat) : Int))] : Nat) : Int))] = true ∧
                            (stU [.agg (ppU [.agg ((subL (G (k)) (0) ((n) * 3)) ++ (subL (G (k2)) (0) ((m) * 3))), .int .i64 (((n + m : Nat) : Int))]), .int .i64 (((ppN [.agg ((subL (G (k)) (0) ((n) * 3)) ++ (subL (G (k2)) (0) ((m) * 3))), .int .i64 (((n + m : Nat) : Int))] : Nat) : Int)), .agg (ppU [.agg ((subL (G (k)) (0) ((n) * 3)) ++ (subL (G (k2)) (0) ((m) * 3))), .int .i64 (((n + m : Nat) : Int))]), .int .i64 (((ppN [.agg ((subL (G (k)) (0) ((n) * 3)) ++ (subL (G (k2)) (0) ((m) * 3))), .int .i64 (((n + m : Nat) : Int))] : Nat) : Int))] = true →
                              R (.bool (true)) []) ∧
                            (stU [.agg (ppU [.agg ((subL (G (k)) (0) ((n) * 3)) ++ (subL (G (k2)) (0) ((m) * 3))), .int .i64 (((n + m : Nat) : Int))]), .int .i64 (((ppN [.agg ((subL (G (k)) (0) ((n) * 3)) ++ (subL (G (k2)) (0) ((m) * 3))), .int .i64 (((n + m : Nat) : Int))] : Nat) : Int)), .agg (ppU [.agg ((subL (G (k)) (0) ((n) * 3)) ++ (subL (G (k2)) (0) ((m) * 3))), .int .i64 (((n + m : Nat) : Int))]), .int .i64 (((ppN [.agg ((subL (G (k)) (0) ((n) * 3)) ++ (subL (G (k2)) (0) ((m) * 3))), .int .i64 (((n + m : Nat) : Int))] : Nat) : Int))] = false →
                              R (.bool (false)) []))) ∧
                        (stU [.agg (ppU [.agg ((subL (G (k)) (0) ((n) * 3)) ++ (subL (G (k2)) (0) ((m) * 3))), .int .i64 (((n + m : Nat) : Int))]), .int .i64 (((ppN [.agg ((subL (G (k)) (0) ((n) * 3)) ++ (subL (G (k2)) (0) ((m) * 3))), .int .i64 (((n + m : Nat) : Int))] : Nat) : Int)), .agg (ppU [.agg (G (k2)), .int .i64 (((m : Nat) : Int))]), .int .i64 (((ppN [.agg (G (k2)), .int .i64 (((m : Nat) : Int))] : Nat) : Int))] = false →
                          (!(stU [.agg (ppU [.agg ((subL (G (k)) (0) ((n) * 3)) ++ (subL (G (k2)) (0) ((m) * 3))), .int .i64 (((n + m : Nat) : Int))]), .int .i64 (((ppN [.agg ((subL (G (k)) (0) ((n) * 3)) ++ (subL (G (k2)) (0) ((m) * 3))), .int .i64 (((n + m : Nat) : Int))] : Nat) : Int)), .agg (ppU [.agg (G (k)), .int .i64 (((n : Nat) : Int))]), .int .i64 (((ppN [.agg (G (k)), .int .i64 (((n : Nat) : Int))] : Nat) : Int))])) = true ∧
                          somU [.agg (G (k)), .int .i64 (((n : Nat) : Int))] = true ∧
                          somU [.agg (G (k)), .int .i64 (((n : Nat) : Int))] = true ∧
                          rowsU [.agg (G (k)), .int .i64 (((n : Nat) : Int))] = true ∧
                          bytesU [.agg (G (k3)), .int .i64 (((r : Nat) : Int))] = true ∧
                          (matchU [.agg (G (k)), .int .i64 (((n : Nat) : Int)), .agg (G (k3)), .int .i64 (((r : Nat) : Int))] = true →
                            rowsU [.agg (G (k2)), .int .i64 (((m : Nat) : Int))] = true ∧
                            bytesU [.agg (G (k3)), .int .i64 (((r : Nat) : Int))] = true ∧
                            (matchU [.agg (G (k2)), .int .i64 (((m : Nat) : Int)), .agg (G (k3)), .int .i64 (((r : Nat) : Int))] = true →
                              somU [.agg ((subL (G (k)) (0) ((n) * 3)) ++ (subL (G (k2)) (0) ((m) * 3))), .int .i64 (((n + m : Nat) : Int))] = true ∧
                              (!(stU [.agg (ppU [.agg ((subL (G (k)) (0) ((n) * 3)) ++ (subL (G (k2)) (0) ((m) * 3))), .int .i64 (((n + m : Nat) : Int))]), .int .i64 (((ppN [.agg ((subL (G (k)) (0) ((n) * 3)) ++ (subL (G (k2)) (0) ((m) * 3))), .int .i64 (((n + m : Nat) : Int))] : Nat) : Int)), .agg (ppU [.agg (G (k)), .int .i64 (((n : Nat) : Int))]), .int .i64 (((ppN [.agg (G (k)), .int .i64 (((n : Nat) : Int))] : Nat) : Int))])) = true ∧
                              somU [.agg ((subL (G (k)) (0) ((n) * 3)) ++ (subL (G (k2)) (0) ((m) * 3))), .int .i64 (((n + m : Nat) : Int))] = true ∧
                              okTU [.agg ((subL (G (k)) (0) ((n) * 3)) ++ (subL (G (k2)) (0) ((m) * 3))), .int .i64 (((n + m : Nat) : Int))] = true ∧
                              somU [.agg ((subL (G (k)) (0) ((n) * 3)) ++ (subL (G (k2)) (0) ((m) * 3))), .int .i64 (((n + m : Nat) : Int))] = true ∧
                              (!(decide ((((ppN [.agg ((subL (G (k)) (0) ((n) * 3)) ++ (subL (G (k2)) (0) ((m) * 3))), .int .i64 (((n + m : Nat) : Int))] : Nat) : Int) : Int) > 8))) = true ∧
                              okTU [.agg (ppU [.agg ((subL (G (k)) (0) ((n) * 3)) ++ (subL (G (k2)) (0) ((m) * 3))), .int .i64 (((n + m : Nat) : Int))]), .int .i64 (((ppN [.agg ((subL (G (k)) (0) ((n) * 3)) ++ (subL (G (k2)) (0) ((m) * 3))), .int .i64 (((n + m : Nat) : Int))] : Nat) : Int))] = true ∧
                              okTU [.agg (ppU [.agg ((subL (G (k)) (0) ((n) * 3)) ++ (subL (G (k2)) (0) ((m) * 3))), .int .i64 (((n + m : Nat) : Int))]), .int .i64 (((ppN [.agg ((subL (G (k)) (0) ((n) * 3)) ++ (subL (G (k2)) (0) ((m) * 3))), .int .i64 (((n + m : Nat) : Int))] : Nat) : Int))] = true ∧
                              (stU [.agg (ppU [.agg ((subL (G (k)) (0) ((n) * 3)) ++ (subL (G (k2)) (0) ((m) * 3))), .int .i64 (((n + m : Nat) : Int))]), .int .i64 (((ppN [.agg ((subL (G (k)) (0) ((n) * 3)) ++ (subL (G (k2)) (0) ((m) * 3))), .int .i64 (((n + m : Nat) : Int))] : Nat) : Int)), .agg (ppU [.agg ((subL (G (k)) (0) ((n) * 3)) ++ (subL (G (k2)) (0) ((m) * 3))), .int .i64 (((n + m : Nat) : Int))]), .int .i64 (((ppN [.agg ((subL (G (k)) (0) ((n) * 3)) ++ (subL (G (k2)) (0) ((m) * 3))), .int .i64 (((n + m : Nat) : Int))] : Nat) : Int))] = true →
                                R (.bool (true)) []) ∧
                              (stU [.agg (ppU [.agg ((subL (G (k)) (0) ((n) * 3)) ++ (subL (G (k2)) (0) ((m) * 3))), .int .i64 (((n + m : Nat) : Int))]), .int .i64 (((ppN [.agg ((subL (G (k)) (0) ((n) * 3)) ++ (subL (G (k2)) (0) ((m) * 3))), .int .i64 (((n + m : Nat) : Int))] : Nat) : Int)), .agg (ppU [.agg ((subL (G (k)) (0) ((n) * 3)) ++ (subL (G (k2)) (0) ((m) * 3))), .int .i64 (((n + m : Nat) : Int))]), .int .i64 (((ppN [.agg ((subL (G (k)) (0) ((n) * 3)) ++ (subL (G (k2)) (0) ((m) * 3))), .int .i64 (((n + m : Nat) : Int))] : Nat) : Int))] = false →
                                R (.bool (false)) [])) ∧
                            (matchU [.agg (G (k2)), .int .i64 (((m : Nat) : Int)), .agg (G (k3)), .int .i64 (((r : Nat) : Int))] = false →
                              (!(stU [.agg (ppU [.agg ((subL (G (k)) (0) ((n) * 3)) ++ (subL (G (k2)) (0) ((m) * 3))), .int .i64 (((n + m : Nat) : Int))]), .int .i64 (((ppN [.agg ((subL (G (k)) (0) ((n) * 3)) ++ (subL (G (k2)) (0) ((m) * 3))), .int .i64 (((n + m : Nat) : Int))] : Nat) : Int)), .agg (ppU [.agg (G (k)), .int .i64 (((n : Nat) : Int))]), .int .i64 (((ppN [.agg (G (k)), .int .i64 (((n : Nat) : Int))] : Nat) : Int))])) = true ∧
                              somU [.agg ((subL (G (k)) (0) ((n) * 3)) ++ (subL (G (k2)) (0) ((m) * 3))), .int .i64 (((n + m : Nat) : Int))] = true ∧
                              okTU [.agg ((subL (G (k)) (0) ((n) * 3)) ++ (subL (G (k2)) (0) ((m) * 3))), .int .i64 (((n + m : Nat) : Int))] = true ∧
                              somU [.agg ((subL (G (k)) (0) ((n) * 3)) ++ (subL (G (k2)) (0) ((m) * 3))), .int .i64 (((n + m : Nat) : Int))] = true ∧
                              (!(decide ((((ppN [.agg ((subL (G (k)) (0) ((n) * 3)) ++ (subL (G (k2)) (0) ((m) * 3))), .int .i64 (((n + m : Nat) : Int))] : Nat) : Int) : Int) > 8))) = true ∧
                              okTU [.agg (ppU [.agg ((subL (G (k)) (0) ((n) * 3)) ++ (subL (G (k2)) (0) ((m) * 3))), .int .i64 (((n + m : Nat) : Int))]), .int .i64 (((ppN [.agg ((subL (G (k)) (0) ((n) * 3)) ++ (subL (G (k2)) (0) ((m) * 3))), .int .i64 (((n + m : Nat) : Int))] : Nat) : Int))] = true ∧
                              okTU [.agg (ppU [.agg ((subL (G (k)) (0) ((n) * 3)) ++ (subL (G (k2)) (0) ((m) * 3))), .int .i64 (((n + m : Nat) : Int))]), .int .i64 (((ppN [.agg ((subL (G (k)) (0) ((n) * 3)) ++ (subL (G (k2)) (0) ((m) * 3))), .int .i64 (((n + m : Nat) : Int))] : Nat) : Int))] = true ∧
                              (stU [.agg (ppU [.agg ((subL (G (k)) (0) ((n) * 3)) ++ (subL (G (k2)) (0) ((m) * 3))), .int .i64 (((n + m : Nat) : Int))]), .int .i64 (((ppN [.agg ((subL (G (k)) (0) ((n) * 3)) ++ (subL (G (k2)) (0) ((m) * 3))), .int .i64 (((n + m : Nat) : Int))] : Nat) : Int)), .agg (ppU [.agg ((subL (G (k)) (0) ((n) * 3)) ++ (subL (G (k2)) (0) ((m) * 3))), .int .i64 (((n + m : Nat) : Int))]), .int .i64 (((ppN [.agg ((subL (G (k)) (0) ((n) * 3)) ++ (subL (G (k2)) (0) ((m) * 3))), .int .i64 (((n + m : Nat) : Int))] : Nat) : Int))] = true →
                                R (.bool (true)) []) ∧
                              (stU [.agg (ppU [.agg ((subL (G (k)) (0) ((n) * 3)) ++ (subL (G (k2)) (0) ((m) * 3))), .int .i64 (((n + m : Nat) : Int))]), .int .i64 (((ppN [.agg ((subL (G (k)) (0) ((n) * 3)) ++ (subL (G (k2)) (0) ((m) * 3))), .int .i64 (((n + m : Nat) : Int))] : Nat) : Int)), .agg (ppU [.agg ((subL (G (k)) (0) ((n) * 3)) ++ (subL (G (k2)) (0) ((m) * 3))), .int .i64 (((n + m : Nat) : Int))]), .int .i64 (((ppN [.agg ((subL (G (k)) (0) ((n) * 3)) ++ (subL (G (k2)) (0) ((m) * 3))), .int .i64 (((n + m : Nat) : Int))] : Nat) : Int))] = false →
                                R (.bool (false)) []))) ∧
                          (matchU [.agg (G (k)), .int .i64 (((n : Nat) : Int)), .agg (G (k3)), .int .i64 (((r : Nat) : Int))] = false →
                            (!(stU [.agg (ppU [.agg ((subL (G (k)) (0) ((n) * 3)) ++ (subL (G (k2)) (0) ((m) * 3))), .int .i64 (((n + m : Nat) : Int))]), .int .i64 (((ppN [.agg ((subL (G (k)) (0) ((n) * 3)) ++ (subL (G (k2)) (0) ((m) * 3))), .int .i64 (((n + m : Nat) : Int))] : Nat) : Int)), .agg (ppU [.agg (G (k)), .int .i64 (((n : Nat) : Int))]), .int .i64 (((ppN [.agg (G (k)), .int .i64 (((n : Nat) : Int))] : Nat) : Int))])) = true ∧
                            somU [.agg ((subL (G (k)) (0) ((n) * 3)) ++ (subL (G (k2)) (0) ((m) * 3))), .int .i64 (((n + m : Nat) : Int))] = true ∧
                            okTU [.agg ((subL (G (k)) (0) ((n) * 3)) ++ (subL (G (k2)) (0) ((m) * 3))), .int .i64 (((n + m : Nat) : Int))] = true ∧
                            somU [.agg ((subL (G (k)) (0) ((n) * 3)) ++ (subL (G (k2)) (0) ((m) * 3))), .int .i64 (((n + m : Nat) : Int))] = true ∧
                            (!(decide ((((ppN [.agg ((subL (G (k)) (0) ((n) * 3)) ++ (subL (G (k2)) (0) ((m) * 3))), .int .i64 (((n + m : Nat) : Int))] : Nat) : Int) : Int) > 8))) = true ∧
                            okTU [.agg (ppU [.agg ((subL (G (k)) (0) ((n) * 3)) ++ (subL (G (k2)) (0) ((m) * 3))), .int .i64 (((n + m : Nat) : Int))]), .int .i64 (((ppN [.agg ((subL (G (k)) (0) ((n) * 3)) ++ (subL (G (k2)) (0) ((m) * 3))), .int .i64 (((n + m : Nat) : Int))] : Nat) : Int))] = true ∧
                            okTU [.agg (ppU [.agg ((subL (G (k)) (0) ((n) * 3)) ++ (subL (G (k2)) (0) ((m) * 3))), .int .i64 (((n + m : Nat) : Int))]), .int .i64 (((ppN [.agg ((subL (G (k)) (0) ((n) * 3)) ++ (subL (G (k2)) (0) ((m) * 3))), .int .i64 (((n + m : Nat) : Int))] : Nat) : Int))] = true ∧
                            (stU [.agg (ppU [.agg ((subL (G (k)) (0) ((n) * 3)) ++ (subL (G (k2)) (0) ((m) * 3))), .int .i64 (((n + m : Nat) : Int))]), .int .i64 (((ppN [.agg ((subL (G (k)) (0) ((n) * 3)) ++ (subL (G (k2)) (0) ((m) * 3))), .int .i64 (((n + m : Nat) : Int))] : Nat) : Int)), .agg (ppU [.agg ((subL (G (k)) (0) ((n) * 3)) ++ (subL (G (k2)) (0) ((m) * 3))), .int .i64 (((n + m : Nat) : Int))]), .int .i64 (((ppN [.agg ((subL (G (k)) (0) ((n) * 3)) ++ (subL (G (k2)) (0) ((m) * 3))), .int .i64 (((n + m : Nat) : Int))] : Nat) : Int))] = true →
                              R (.bool (true)) []) ∧
                            (stU [.agg (ppU [.agg ((subL (G (k)) (0) ((n) * 3)) ++ (subL (G (k2)) (0) ((m) * 3))), .int .i64 (((n + m : Nat) : Int))]), .int .i64 (((ppN [.agg ((subL (G (k)) (0) ((n) * 3)) ++ (subL (G (k2)) (0) ((m) * 3))), .int .i64 (((n + m : Nat) : Int))] : Nat) : Int)), .agg (ppU [.agg ((subL (G (k)) (0) ((n) * 3)) ++ (subL (G (k2)) (0) ((m) * 3))), .int .i64 (((n + m : Nat) : Int))]), .int .i64 (((ppN [.agg ((subL (G (k)) (0) ((n) * 3)) ++ (subL (G (k2)) (0) ((m) * 3))), .int .i64 (((n + m : Nat) : Int))] : Nat) : Int))] = false →
                              R (.bool (false)) [])))))) ∧
                  (somU [.agg (G (k2)), .int .i64 (((m : Nat) : Int))] = false →
                    False)) ∧
                (somU [.agg (G (k)), .int .i64 (((n : Nat) : Int))] = false →
                  False)) ∧
              (somU [.agg ((subL (G (k)) (0) ((n) * 3)) ++ (subL (G (k2)) (0) ((m) * 3))), .int .i64 (((n + m : Nat) : Int))] = false →
                rowsU [.agg (G (k)), .int .i64 (((n : Nat) : Int))] = true ∧
                rowsU [.agg (G (k2)), .int .i64 (((m : Nat) : Int))] = true ∧
                mayU [.agg (G (k)), .int .i64 (((n : Nat) : Int))] = true ∧
                mayU [.agg (G (k2)), .int .i64 (((m : Nat) : Int))] = true ∧
                rowsU [.agg (G (k)), .int .i64 (((n : Nat) : Int))] = true ∧
                rowsU [.agg (G (k2)), .int .i64 (((m : Nat) : Int))] = true ∧
                mayU [.agg (G (k)), .int .i64 (((n : Nat) : Int))] = true ∧
                mayU [.agg (G (k2)), .int .i64 (((m : Nat) : Int))] = true ∧
                (somU [.agg (G (k)), .int .i64 (((n : Nat) : Int))] = true →
                  (!(somU [.agg ((subL (G (k)) (0) ((n) * 3)) ++ (subL (G (k2)) (0) ((m) * 3))), .int .i64 (((n + m : Nat) : Int))])) = true ∧
                  rowsU [.agg (G (k)), .int .i64 (((n : Nat) : Int))] = true ∧
                  rowsU [.agg (G (k2)), .int .i64 (((m : Nat) : Int))] = true ∧
                  mayU [.agg (G (k)), .int .i64 (((n : Nat) : Int))] = true ∧
                  mayU [.agg (G (k2)), .int .i64 (((m : Nat) : Int))] = true ∧
                  somU [.agg (G (k)), .int .i64 (((n : Nat) : Int))] = true ∧
                  (!(somU [.agg ((subL (G (k)) (0) ((n) * 3)) ++ (subL (G (k2)) (0) ((m) * 3))), .int .i64 (((n + m : Nat) : Int))])) = true ∧
                  rowsU [.agg (G (k2)), .int .i64 (((m : Nat) : Int))] = true ∧
                  rowsU [.agg (G (k)), .int .i64 (((n : Nat) : Int))] = true ∧
                  mayU [.agg (G (k2)), .int .i64 (((m : Nat) : Int))] = true ∧
                  mayU [.agg (G (k)), .int .i64 (((n : Nat) : Int))] = true ∧
                  (somU [.agg (G (k2)), .int .i64 (((m : Nat) : Int))] = true →
                    (!(somU [.agg ((subL (G (k)) (0) ((n) * 3)) ++ (subL (G (k2)) (0) ((m) * 3))), .int .i64 (((n + m : Nat) : Int))])) = true ∧
                    rowsU [.agg (G (k)), .int .i64 (((n : Nat) : Int))] = true ∧
                    mayU [.agg (G (k)), .int .i64 (((n : Nat) : Int))] = true ∧
                    rowsU [.agg (G (k2)), .int .i64 (((m : Nat) : Int))] = true ∧
                    mayU [.agg (G (k2)), .int .i64 (((m : Nat) : Int))] = true ∧
                    leB ((n) * 3) (List.length (G (k))) = true ∧
                    cellsB (subL (G (k)) (0) ((n) * 3)) = true ∧
                    leB ((n) * 24) (140737488355328) = true ∧
                    leB ((m) * 3) (List.length (G (k2))) = true ∧
                    cellsB (subL (G (k2)) (0) ((m) * 3)) = true ∧
                    leB ((n + m) * 24) (140737488355328) = true ∧
                    Nat.beq (List.length (subL (G (k)) (0) ((n) * 3))) ((n) * 3) = true ∧
                    okTU [.agg ((subL (G (k)) (0) ((n) * 3)) ++ (subL (G (k2)) (0) ((m) * 3))), .int .i64 (((n + m : Nat) : Int))] = true ∧
                    okTU [.agg (G (k)), .int .i64 (((n : Nat) : Int))] = true ∧
                    okTU [.agg (G (k2)), .int .i64 (((m : Nat) : Int))] = true ∧
                    (!(somU [.agg ((subL (G (k)) (0) ((n) * 3)) ++ (subL (G (k2)) (0) ((m) * 3))), .int .i64 (((n + m : Nat) : Int))])) = true ∧
                    (!(somU [.agg ((subL (G (k)) (0) ((n) * 3)) ++ (subL (G (k2)) (0) ((m) * 3))), .int .i64 (((n + m : Nat) : Int))])) = true ∧
                    (!(somU [.agg ((subL (G (k)) (0) ((n) * 3)) ++ (subL (G (k2)) (0) ((m) * 3))), .int .i64 (((n + m : Nat) : Int))])) = true ∧
                    (!(somU [.agg ((subL (G (k)) (0) ((n) * 3)) ++ (subL (G (k2)) (0) ((m) * 3))), .int .i64 (((n + m : Nat) : Int))])) = true ∧
                    somU [.agg (G (k)), .int .i64 (((n : Nat) : Int))] = true ∧
                    somU [.agg (G (k)), .int .i64 (((n : Nat) : Int))] = true ∧
                    rowsU [.agg (G (k)), .int .i64 (((n : Nat) : Int))] = true ∧
                    bytesU [.agg (G (k3)), .int .i64 (((r : Nat) : Int))] = true ∧
                    (matchU [.agg (G (k)), .int .i64 (((n : Nat) : Int)), .agg (G (k3)), .int .i64 (((r : Nat) : Int))] = true →
                      rowsU [.agg (G (k2)), .int .i64 (((m : Nat) : Int))] = true ∧
                      bytesU [.agg (G (k3)), .int .i64 (((r : Nat) : Int))] = true ∧
                      (matchU [.agg (G (k2)), .int .i64 (((m : Nat) : Int)), .agg (G (k3)), .int .i64 (((r : Nat) : Int))] = true →
                        (!(somU [.agg ((subL (G (k)) (0) ((n) * 3)) ++ (subL (G (k2)) (0) ((m) * 3))), .int .i64 (((n + m : Nat) : Int))])) = true ∧
                        R (.bool (false)) []) ∧
                      (matchU [.agg (G (k2)), .int .i64 (((m : Nat) : Int)), .agg (G (k3)), .int .i64 (((r : Nat) : Int))] = false →
                        (!(somU [.agg ((subL (G (k)) (0) ((n) * 3)) ++ (subL (G (k2)) (0) ((m) * 3))), .int .i64 (((n + m : Nat) : Int))])) = true ∧
                        R (.bool (true)) [])) ∧
                    (matchU [.agg (G (k)), .int .i64 (((n : Nat) : Int)), .agg (G (k3)), .int .i64 (((r : Nat) : Int))] = false →
                      (!(somU [.agg ((subL (G (k)) (0) ((n) * 3)) ++ (subL (G (k2)) (0) ((m) * 3))), .int .i64 (((n + m : Nat) : Int))])) = true ∧
                      R (.bool (true)) [])) ∧
                  (somU [.agg (G (k2)), .int .i64 (((m : Nat) : Int))] = false →
                    rowsU [.agg (G (k)), .int .i64 (((n : Nat) : Int))] = true ∧
                    mayU [.agg (G (k)), .int .i64 (((n : Nat) : Int))] = true ∧
                    rowsU [.agg (G (k2)), .int .i64 (((m : Nat) : Int))] = true ∧
                    mayU [.agg (G (k2)), .int .i64 (((m : Nat) : Int))] = true ∧
                    leB ((n) * 3) (List.length (G (k))) = true ∧
                    cellsB (subL (G (k)) (0) ((n) * 3)) = true ∧
                    leB ((n) * 24) (140737488355328) = true ∧
                    leB ((m) * 3) (List.length (G (k2))) = true ∧
                    cellsB (subL (G (k2)) (0) ((m) * 3)) = true ∧
                    leB ((n + m) * 24) (140737488355328) = true ∧
                    Nat.beq (List.length (subL (G (k)) (0) ((n) * 3))) ((n) * 3) = true ∧
                    okTU [.agg ((subL (G (k)) (0) ((n) * 3)) ++ (subL (G (k2)) (0) ((m) * 3))), .int .i64 (((n + m : Nat) : Int))] = true ∧
                    okTU [.agg (G (k)), .int .i64 (((n : Nat) : Int))] = true ∧
                    okTU [.agg (G (k2)), .int .i64 (((m : Nat) : Int))] = true ∧
                    (!(somU [.agg ((subL (G (k)) (0) ((n) * 3)) ++ (subL (G (k2)) (0) ((m) * 3))), .int .i64 (((n + m : Nat) : Int))])) = true ∧
                    (!(somU [.agg ((subL (G (k)) (0) ((n) * 3)) ++ (subL (G (k2)) (0) ((m) * 3))), .int .i64 (((n + m : Nat) : Int))])) = true ∧
                    (!(somU [.agg ((subL (G (k)) (0) ((n) * 3)) ++ (subL (G (k2)) (0) ((m) * 3))), .int .i64 (((n + m : Nat) : Int))])) = true ∧
                    (!(somU [.agg ((subL (G (k)) (0) ((n) * 3)) ++ (subL (G (k2)) (0) ((m) * 3))), .int .i64 (((n + m : Nat) : Int))])) = true ∧
                    somU [.agg (G (k)), .int .i64 (((n : Nat) : Int))] = true ∧
                    somU [.agg (G (k)), .int .i64 (((n : Nat) : Int))] = true ∧
                    rowsU [.agg (G (k)), .int .i64 (((n : Nat) : Int))] = true ∧
                    bytesU [.agg (G (k3)), .int .i64 (((r : Nat) : Int))] = true ∧
                    (matchU [.agg (G (k)), .int .i64 (((n : Nat) : Int)), .agg (G (k3)), .int .i64 (((r : Nat) : Int))] = true →
                      rowsU [.agg (G (k2)), .int .i64 (((m : Nat) : Int))] = true ∧
                      bytesU [.agg (G (k3)), .int .i64 (((r : Nat) : Int))] = true ∧
                      (matchU [.agg (G (k2)), .int .i64 (((m : Nat) : Int)), .agg (G (k3)), .int .i64 (((r : Nat) : Int))] = true →
                        (!(somU [.agg ((subL (G (k)) (0) ((n) * 3)) ++ (subL (G (k2)) (0) ((m) * 3))), .int .i64 (((n + m : Nat) : Int))])) = true ∧
                        R (.bool (false)) []) ∧
                      (matchU [.agg (G (k2)), .int .i64 (((m : Nat) : Int)), .agg (G (k3)), .int .i64 (((r : Nat) : Int))] = false →
                        (!(somU [.agg ((subL (G (k)) (0) ((n) * 3)) ++ (subL (G (k2)) (0) ((m) * 3))), .int .i64 (((n + m : Nat) : Int))])) = true ∧
                        R (.bool (true)) [])) ∧
                    (matchU [.agg (G (k)), .int .i64 (((n : Nat) : Int)), .agg (G (k3)), .int .i64 (((r : Nat) : Int))] = false →
                      (!(somU [.agg ((subL (G (k)) (0) ((n) * 3)) ++ (subL (G (k2)) (0) ((m) * 3))), .int .i64 (((n + m : Nat) : Int))])) = true ∧
                      R (.bool (true)) []))) ∧
                (somU [.agg (G (k)), .int .i64 (((n : Nat) : Int))] = false →
                  rowsU [.agg (G (k)), .int .i64 (((n : Nat) : Int))] = true ∧
                  rowsU [.agg (G (k2)), .int .i64 (((m : Nat) : Int))] = true ∧
                  mayU [.agg (G (k)), .int .i64 (((n : Nat) : Int))] = true ∧
                  mayU [.agg (G (k2)), .int .i64 (((m : Nat) : Int))] = true ∧
                  (!(somU [.agg (G (k)), .int .i64 (((n : Nat) : Int))])) = true ∧
                  rowsU [.agg (G (k2)), .int .i64 (((m : Nat) : Int))] = true ∧
                  rowsU [.agg (G (k)), .int .i64 (((n : Nat) : Int))] = true ∧
                  mayU [.agg (G (k2)), .int .i64 (((m : Nat) : Int))] = true ∧
                  mayU [.agg (G (k)), .int .i64 (((n : Nat) : Int))] = true ∧
                  (somU [.agg (G (k2)), .int .i64 (((m : Nat) : Int))] = true →
                    (!(somU [.agg ((subL (G (k)) (0) ((n) * 3)) ++ (subL (G (k2)) (0) ((m) * 3))), .int .i64 (((n + m : Nat) : Int))])) = true ∧
                    rowsU [.agg (G (k)), .int .i64 (((n : Nat) : Int))] = true ∧
                    mayU [.agg (G (k)), .int .i64 (((n : Nat) : Int))] = true ∧
                    rowsU [.agg (G (k2)), .int .i64 (((m : Nat) : Int))] = true ∧
                    mayU [.agg (G (k2)), .int .i64 (((m : Nat) : Int))] = true ∧
                    leB ((n) * 3) (List.length (G (k))) = true ∧
                    cellsB (subL (G (k)) (0) ((n) * 3)) = true ∧
                    leB ((n) * 24) (140737488355328) = true ∧
                    leB ((m) * 3) (List.length (G (k2))) = true ∧
                    cellsB (subL (G (k2)) (0) ((m) * 3)) = true ∧
                    leB ((n + m) * 24) (140737488355328) = true ∧
                    Nat.beq (List.length (subL (G (k)) (0) ((n) * 3))) ((n) * 3) = true ∧
                    okTU [.agg ((subL (G (k)) (0) ((n) * 3)) ++ (subL (G (k2)) (0) ((m) * 3))), .int .i64 (((n + m : Nat) : Int))] = true ∧
                    okTU [.agg (G (k)), .int .i64 (((n : Nat) : Int))] = true ∧
                    okTU [.agg (G (k2)), .int .i64 (((m : Nat) : Int))] = true ∧
                    (!(somU [.agg ((subL (G (k)) (0) ((n) * 3)) ++ (subL (G (k2)) (0) ((m) * 3))), .int .i64 (((n + m : Nat) : Int))])) = true ∧
                    (!(somU [.agg ((subL (G (k)) (0) ((n) * 3)) ++ (subL (G (k2)) (0) ((m) * 3))), .int .i64 (((n + m : Nat) : Int))])) = true ∧
                    (!(somU [.agg ((subL (G (k)) (0) ((n) * 3)) ++ (subL (G (k2)) (0) ((m) * 3))), .int .i64 (((n + m : Nat) : Int))])) = true ∧
                    (!(somU [.agg ((subL (G (k)) (0) ((n) * 3)) ++ (subL (G (k2)) (0) ((m) * 3))), .int .i64 (((n + m : Nat) : Int))])) = true ∧
                    (!(somU [.agg (G (k)), .int .i64 (((n : Nat) : Int))])) = true ∧
                    (!(somU [.agg (G (k)), .int .i64 (((n : Nat) : Int))])) = true ∧
                    somU [.agg (G (k2)), .int .i64 (((m : Nat) : Int))] = true ∧
                    rowsU [.agg (G (k)), .int .i64 (((n : Nat) : Int))] = true ∧
                    bytesU [.agg (G (k3)), .int .i64 (((r : Nat) : Int))] = true ∧
                    (matchU [.agg (G (k)), .int .i64 (((n : Nat) : Int)), .agg (G (k3)), .int .i64 (((r : Nat) : Int))] = true →
                      rowsU [.agg (G (k2)), .int .i64 (((m : Nat) : Int))] = true ∧
                      bytesU [.agg (G (k3)), .int .i64 (((r : Nat) : Int))] = true ∧
                      (matchU [.agg (G (k2)), .int .i64 (((m : Nat) : Int)), .agg (G (k3)), .int .i64 (((r : Nat) : Int))] = true →
                        (!(somU [.agg ((subL (G (k)) (0) ((n) * 3)) ++ (subL (G (k2)) (0) ((m) * 3))), .int .i64 (((n + m : Nat) : Int))])) = true ∧
                        R (.bool (false)) []) ∧
                      (matchU [.agg (G (k2)), .int .i64 (((m : Nat) : Int)), .agg (G (k3)), .int .i64 (((r : Nat) : Int))] = false →
                        rowsU [.agg (G (k)), .int .i64 (((n : Nat) : Int))] = true ∧
                        bytesU [.agg (G (k3)), .int .i64 (((r : Nat) : Int))] = true ∧
                        matchU [.agg (G (k)), .int .i64 (((n : Nat) : Int)), .agg (G (k3)), .int .i64 (((r : Nat) : Int))] = true ∧
                        rowsU [.agg (G (k2)), .int .i64 (((m : Nat) : Int))] = true ∧
                        bytesU [.agg (G (k3)), .int .i64 (((r : Nat) : Int))] = true ∧
                        (!(matchU [.agg (G (k2)), .int .i64 (((m : Nat) : Int)), .agg (G (k3)), .int .i64 (((r : Nat) : Int))])) = true ∧
                        R (.bool (false)) [])) ∧
                    (matchU [.agg (G (k)), .int .i64 (((n : Nat) : Int)), .agg (G (k3)), .int .i64 (((r : Nat) : Int))] = false →
                      rowsU [.agg (G (k)), .int .i64 (((n : Nat) : Int))] = true ∧
                      bytesU [.agg (G (k3)), .int .i64 (((r : Nat) : Int))] = true ∧
                      (!(matchU [.agg (G (k)), .int .i64 (((n : Nat) : Int)), .agg (G (k3)), .int .i64 (((r : Nat) : Int))])) = true ∧
                      (!(somU [.agg ((subL (G (k)) (0) ((n) * 3)) ++ (subL (G (k2)) (0) ((m) * 3))), .int .i64 (((n + m : Nat) : Int))])) = true ∧
                      R (.bool (true)) [])) ∧
                  (somU [.agg (G (k2)), .int .i64 (((m : Nat) : Int))] = false →
                    rowsU [.agg (G (k)), .int .i64 (((n : Nat) : Int))] = true ∧
                    mayU [.agg (G (k)), .int .i64 (((n : Nat) : Int))] = true ∧
                    rowsU [.agg (G (k2)), .int .i64 (((m : Nat) : Int))] = true ∧
                    mayU [.agg (G (k2)), .int .i64 (((m : Nat) : Int))] = true ∧
                    leB ((n) * 3) (List.length (G (k))) = true ∧
                    cellsB (subL (G (k)) (0) ((n) * 3)) = true ∧
                    leB ((n) * 24) (140737488355328) = true ∧
                    leB ((m) * 3) (List.length (G (k2))) = true ∧
                    cellsB (subL (G (k2)) (0) ((m) * 3)) = true ∧
                    leB ((n + m) * 24) (140737488355328) = true ∧
                    Nat.beq (List.length (subL (G (k)) (0) ((n) * 3))) ((n) * 3) = true ∧
                    okTU [.agg ((subL (G (k)) (0) ((n) * 3)) ++ (subL (G (k2)) (0) ((m) * 3))), .int .i64 (((n + m : Nat) : Int))] = true ∧
                    okTU [.agg (G (k)), .int .i64 (((n : Nat) : Int))] = true ∧
                    okTU [.agg (G (k2)), .int .i64 (((m : Nat) : Int))] = true ∧
                    (!(somU [.agg ((subL (G (k)) (0) ((n) * 3)) ++ (subL (G (k2)) (0) ((m) * 3))), .int .i64 (((n + m : Nat) : Int))])) = true ∧
                    (!(somU [.agg ((subL (G (k)) (0) ((n) * 3)) ++ (subL (G (k2)) (0) ((m) * 3))), .int .i64 (((n + m : Nat) : Int))])) = true ∧
                    (!(somU [.agg ((subL (G (k)) (0) ((n) * 3)) ++ (subL (G (k2)) (0) ((m) * 3))), .int .i64 (((n + m : Nat) : Int))])) = true ∧
                    (!(somU [.agg ((subL (G (k)) (0) ((n) * 3)) ++ (subL (G (k2)) (0) ((m) * 3))), .int .i64 (((n + m : Nat) : Int))])) = true ∧
                    (!(somU [.agg (G (k)), .int .i64 (((n : Nat) : Int))])) = true ∧
                    (!(somU [.agg (G (k)), .int .i64 (((n : Nat) : Int))])) = true ∧
                    (!(somU [.agg (G (k2)), .int .i64 (((m : Nat) : Int))])) = true ∧
                    rowsU [.agg (G (k)), .int .i64 (((n : Nat) : Int))] = true ∧
                    bytesU [.agg (G (k3)), .int .i64 (((r : Nat) : Int))] = true ∧
                    (matchU [.agg (G (k)), .int .i64 (((n : Nat) : Int)), .agg (G (k3)), .int .i64 (((r : Nat) : Int))] = true →
                      rowsU [.agg (G (k2)), .int .i64 (((m : Nat) : Int))] = true ∧
                      bytesU [.agg (G (k3)), .int .i64 (((r : Nat) : Int))] = true ∧
                      (matchU [.agg (G (k2)), .int .i64 (((m : Nat) : Int)), .agg (G (k3)), .int .i64 (((r : Nat) : Int))] = true →
                        (!(somU [.agg ((subL (G (k)) (0) ((n) * 3)) ++ (subL (G (k2)) (0) ((m) * 3))), .int .i64 (((n + m : Nat) : Int))])) = true ∧
                        R (.bool (false)) []) ∧
                      (matchU [.agg (G (k2)), .int .i64 (((m : Nat) : Int)), .agg (G (k3)), .int .i64 (((r : Nat) : Int))] = false →
                        rowsU [.agg (G (k)), .int .i64 (((n : Nat) : Int))] = true ∧
                        bytesU [.agg (G (k3)), .int .i64 (((r : Nat) : Int))] = true ∧
                        matchU [.agg (G (k)), .int .i64 (((n : Nat) : Int)), .agg (G (k3)), .int .i64 (((r : Nat) : Int))] = true ∧
                        rowsU [.agg (G (k2)), .int .i64 (((m : Nat) : Int))] = true ∧
                        bytesU [.agg (G (k3)), .int .i64 (((r : Nat) : Int))] = true ∧
                        (!(matchU [.agg (G (k2)), .int .i64 (((m : Nat) : Int)), .agg (G (k3)), .int .i64 (((r : Nat) : Int))])) = true ∧
                        R (.bool (false)) [])) ∧
                    (matchU [.agg (G (k)), .int .i64 (((n : Nat) : Int)), .agg (G (k3)), .int .i64 (((r : Nat) : Int))] = false →
                      rowsU [.agg (G (k)), .int .i64 (((n : Nat) : Int))] = true ∧
                      bytesU [.agg (G (k3)), .int .i64 (((r : Nat) : Int))] = true ∧
                      (!(matchU [.agg (G (k)), .int .i64 (((n : Nat) : Int)), .agg (G (k3)), .int .i64 (((r : Nat) : Int))])) = true ∧
                      rowsU [.agg (G (k)), .int .i64 (((n : Nat) : Int))] = true ∧
                      bytesU [.agg (G (k3)), .int .i64 (((r : Nat) : Int))] = true ∧
                      rowsU [.agg (G (k2)), .int .i64 (((m : Nat) : Int))] = true ∧
                      bytesU [.agg (G (k3)), .int .i64 (((r : Nat) : Int))] = true ∧
                      (!(matchU [.agg (G (k)), .int .i64 (((n : Nat) : Int)), .agg (G (k3)), .int .i64 (((r : Nat) : Int))])) = true ∧
                      (matchU [.agg (G (k2)), .int .i64 (((m : Nat) : Int)), .agg (G (k3)), .int .i64 (((r : Nat) : Int))] = true →
                        R (.bool (false)) []) ∧
                      (matchU [.agg (G (k2)), .int .i64 (((m : Nat) : Int)), .agg (G (k3)), .int .i64 (((r : Nat) : Int))] = false →
                        (!(somU [.agg ((subL (G (k)) (0) ((n) * 3)) ++ (subL (G (k2)) (0) ((m) * 3))), .int .i64 (((n + m : Nat) : Int))])) = true ∧
                        R (.bool (true)) [])))))) ∧
            (mayU [.agg (G (k2)), .int .i64 (((m : Nat) : Int))] = false →
              rowsU [.agg (G (k)), .int .i64 (((n : Nat) : Int))] = true ∧
              rowsU [.agg (G (k2)), .int .i64 (((m : Nat) : Int))] = true ∧
              mayU [.agg (G (k)), .int .i64 (((n : Nat) : Int))] = true ∧
              (!(mayU [.agg (G (k2)), .int .i64 (((m : Nat) : Int))])) = true ∧
              rowsU [.agg (G (k)), .int .i64 (((n : Nat) : Int))] = true ∧
              rowsU [.agg (G (k2)), .int .i64 (((m : Nat) : Int))] = true ∧
              mayU [.agg (G (k)), .int .i64 (((n : Nat) : Int))] = true ∧
              (!(mayU [.agg (G (k2)), .int .i64 (((m : Nat) : Int))])) = true ∧
              rowsU [.agg (G (k)), .int .i64 (((n : Nat) : Int))] = true ∧
              rowsU [.agg (G (k2)), .int .i64 (((m : Nat) : Int))] = true ∧
              mayU [.agg (G (k)), .int .i64 (((n : Nat) : Int))] = true ∧
              (!(mayU [.agg (G (k2)), .int .i64 (((m : Nat) : Int))])) = true ∧
              rowsU [.agg (G (k)), .int .i64 (((n : Nat) : Int))] = true ∧
              mayU [.agg (G (k)), .int .i64 (((n : Nat) : Int))] = true ∧
              rowsU [.agg (G (k2)), .int .i64 (((m : Nat) : Int))] = true ∧
              (!(mayU [.agg (G (k2)), .int .i64 (((m : Nat) : Int))])) = true ∧
              R (.bool (true)) [])) ∧
          (mayU [.agg (G (k)), .int .i64 (((n : Nat) : Int))] = false →
            rowsU [.agg (G (k)), .int .i64 (((n : Nat) : Int))] = true ∧
            rowsU [.agg (G (k2)), .int .i64 (((m : Nat) : Int))] = true ∧
            (!(mayU [.agg (G (k)), .int .i64 (((n : Nat) : Int))])) = true ∧
            rowsU [.agg (G (k)), .int .i64 (((n : Nat) : Int))] = true ∧
            rowsU [.agg (G (k2)), .int .i64 (((m : Nat) : Int))] = true ∧
            (!(mayU [.agg (G (k)), .int .i64 (((n : Nat) : Int))])) = true ∧
            rowsU [.agg (G (k)), .int .i64 (((n : Nat) : Int))] = true ∧
            rowsU [.agg (G (k2)), .int .i64 (((m : Nat) : Int))] = true ∧
            (!(mayU [.agg (G (k)), .int .i64 (((n : Nat) : Int))])) = true ∧
            rowsU [.agg (G (k)), .int .i64 (((n : Nat) : Int))] = true ∧
            (!(mayU [.agg (G (k)), .int .i64 (((n : Nat) : Int))])) = true ∧
            R (.bool (true)) []))))) := by kernel_rfl
end Go.Am
