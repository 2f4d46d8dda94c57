/-
  Processes: the program's Kill: the trees of the iterator and of the call.
-/
import Derived.Test.YtkabjomhnddnoaaPrUa
namespace Go.Am
open Go.Proofs Crc
set_option maxRecDepth 100000
theorem m_it (G : Nat → List AV) (ry : List AV → Bool) (tb sl rc ar sn : List AV) (to sg me : Int) (st sm sv sw : Bool) (i : Nat) (Q : Ex → List AV → Hp → Prop) (R : AV → Hp → Prop) : vT G Q R (dloop (Dr Try.prog [] [] [] [] (yAt 2350 22 ry (.one (.bool (.lit true)) [.set 1 ⟨1, .row (.var 31 sn) (.lit 0)⟩, .set 2 ⟨1, .row (.var 31 sn) (.lit 1)⟩, .set 3 ⟨1, .row (.var 31 sn) (.lit 2)⟩, .set 4 ⟨1, .row (.var 31 sn) (.lit 3)⟩, .set 5 ⟨1, .row (.var 31 sn) (.lit 4)⟩, .set 6 ⟨1, .row (.var 31 sn) (.lit 5)⟩, .set 7 ⟨1, .row (.var 31 sn) (.lit 6)⟩, .set 8 ⟨1, .row (.var 31 sn) (.lit 7)⟩, .set 9 ⟨1, .row (.var 31 sn) (.lit 8)⟩, .set 10 ⟨1, .row (.var 31 sn) (.lit 9)⟩, .set 11 ⟨1, .row (.var 31 sn) (.lit 10)⟩, .set 12 ⟨1, .row (.var 31 sn) (.lit 11)⟩, .set 13 ⟨1, .row (.var 31 sn) (.lit 12)⟩, .set 18 ⟨1, .of [.bool (.var 32 sv)]⟩, .set 20 ⟨1, .of [.bool (.var 33 sw)]⟩])) 23) 300 60 23 (loopN Try.f76 0) 27 [0, 11, 12] [.yld 22, .agg (.var 25 ar), .int .i64 (.ofN (.var 35 i))] (HMd (.var 1 tb) (.var 2 sl) (.var 3 to) (.var 4 sg) (.var 5 me) (.var 6 st) (.var 7 sm) (.var 24 rc))) = (
    (decide ((((i : Nat) : Int) : Int) < 13) = true →
      decide ((0 : Int) ≤ ((i : Nat) : Int)) = true ∧
      decide ((((i : Nat) : Int) : Int) < 13) = true ∧
      leB ((i) * 7 + 7) (List.length ar) = true ∧
      cellsB (subL ar ((i) * 7) (7)) = true ∧
      Nat.beq (List.length (subL ar ((i) * 7) (7))) (7) = true ∧
      isI .i64 (subL ar ((i) * 7) (7)) (0) = true ∧
      (decide ((getI (subL ar ((i) * 7) (7)) (0) : Int) > 0) = true →
        leB (6) (List.length (subL ar ((i) * 7) (7))) = true ∧
        (ry) [.agg ([.agg (subL (subL ar ((i) * 7) (7)) (0) (6))] : List AV), .agg ([.tup [.int .i64 (1), .agg tb], .tup [.int .i64 (1), .agg (rowA sl (0))], .tup [.int .i64 (1), .agg (rowA sl (1))], .tup [.int .i64 (1), .agg (rowA sl (2))], .tup [.int .i64 (1), .agg (rowA sl (3))], .tup [.int .i64 (1), .agg (rowA sl (4))], .tup [.int .i64 (1), .agg (rowA sl (5))], .tup [.int .i64 (1), .agg (rowA sl (6))], .tup [.int .i64 (1), .agg (rowA sl (7))], .tup [.int .i64 (1), .agg (rowA sl (8))], .tup [.int .i64 (1), .agg (rowA sl (9))], .tup [.int .i64 (1), .agg (rowA sl (10))], .tup [.int .i64 (1), .agg (rowA sl (11))], .tup [.int .i64 (1), .agg (rowA sl (12))], .tup [.int .i64 (1), .agg ([.ptr (.rw 0) (0)] : List AV)], .tup [.int .i64 (1), .agg ([.int .i64 (to)] : List AV)], .tup [.int .i64 (1), .agg ([.int .i64 (sg)] : List AV)], .tup [.int .i64 (1), .agg ([.int .i64 (me)] : List AV)], .tup [.int .i64 (1), .agg ([.bool (st)] : List AV)], .tup [.int .i64 (1), .agg ([.func 53 [.ptr (.rw 17) (0), .ptr (.rw 14) (0), .ptr (.rw 18) (0), .ptr (.rw 16) (0)]] : List AV)], .tup [.int .i64 (1), .agg ([.bool (sm)] : List AV)], .tup [.int .i64 (1), .agg ([.ptr (.rw 0) (0)] : List AV)], .tup [.int .i64 (4294967291), .agg rc], .tup [.int .i64 (1), .agg (subL ar ((i) * 7) (7))]] : List AV)] = true ∧
        Q .normal [.yld 22, .agg ar, .int .i64 (IntKind.wrap .i64 (((i : Nat) : Int) + 1))] ([some ⟨1, tb⟩] ++ (rows13 sn ++ [some ⟨1, ([.ptr (.rw 0) (0)] : List AV)⟩, some ⟨1, ([.int .i64 (to)] : List AV)⟩, some ⟨1, ([.int .i64 (sg)] : List AV)⟩, some ⟨1, ([.int .i64 (me)] : List AV)⟩, some ⟨1, ([.bool (sv)] : List AV)⟩, some ⟨1, ([.func 53 [.ptr (.rw 17) (0), .ptr (.rw 14) (0), .ptr (.rw 18) (0), .ptr (.rw 16) (0)]] : List AV)⟩, some ⟨1, ([.bool (sw)] : List AV)⟩, some ⟨1, ([.ptr (.rw 0) (0)] : List AV)⟩, some ⟨4294967291, rc⟩, some ⟨1, (subL ar ((i) * 7) (7))⟩]))) ∧
      (decide ((getI (subL ar ((i) * 7) (7)) (0) : Int) > 0) = false →
        Q .normal [.yld 22, .agg ar, .int .i64 (IntKind.wrap .i64 (((i : Nat) : Int) + 1))] ([some ⟨1, tb⟩] ++ (rows13 sl ++ [some ⟨1, ([.ptr (.rw 0) (0)] : List AV)⟩, some ⟨1, ([.int .i64 (to)] : List AV)⟩, some ⟨1, ([.int .i64 (sg)] : List AV)⟩, some ⟨1, ([.int .i64 (me)] : List AV)⟩, some ⟨1, ([.bool (st)] : List AV)⟩, some ⟨1, ([.func 53 [.ptr (.rw 17) (0), .ptr (.rw 14) (0), .ptr (.rw 18) (0), .ptr (.rw 16) (0)]] : List AV)⟩, some ⟨1, ([.bool (sm)] : List AV)⟩, some ⟨1, ([.ptr (.rw 0) (0)] : List AV)⟩, some ⟨4294967291, rc⟩, some ⟨1, (subL ar ((i) * 7) (7))⟩])))) ∧
    (decide ((((i : Nat) : Int) : Int) < 13) = false →
      Q (.exit 0) [.yld 22, .agg ar, .int .i64 (((i : Nat) : Int))] ([some ⟨1, tb⟩] ++ (rows13 sl ++ [some ⟨1, ([.ptr (.rw 0) (0)] : List AV)⟩, some ⟨1, ([.int .i64 (to)] : List AV)⟩, some ⟨1, ([.int .i64 (sg)] : List AV)⟩, some ⟨1, ([.int .i64 (me)] : List AV)⟩, some ⟨1, ([.bool (st)] : List AV)⟩, some ⟨1, ([.func 53 [.ptr (.rw 17) (0), .ptr (.rw 14) (0), .ptr (.rw 18) (0), .ptr (.rw 16) (0)]] : List AV)⟩, some ⟨1, ([.bool (sm)] : List AV)⟩, some ⟨1, ([.ptr (.rw 0) (0)] : List AV)⟩, some ⟨4294967291, rc⟩])))) := by kernel_rfl
theorem m76 (G : Nat → List AV) (rl : List AV → Bool) (tb sl rc sn : List AV) (to sg me : Int) (st sm sv sw : Bool) (Q : Ex → List AV → Hp → Prop) (R : AV → Hp → Prop) : vT G Q R (dcall (Dr Try.prog [36] [] [DLat 2351 (rl) 0 27 [0, 11, 12] (.one (.exit 0) [.undef, .undef, .undef] (HMd (.var 1 tb) (.var 31 sn) (.var 3 to) (.var 4 sg) (.var 5 me) (.var 32 sv) (.var 33 sw) (.var 24 rc)))] [] noY 23) 300 60 Try.f76 [.yld 22, .ptr (.rw 21) (.lit 0)] (HMd (.var 1 tb) (.var 2 sl) (.var 3 to) (.var 4 sg) (.var 5 me) (.var 6 st) (.var 7 sm) (.var 24 rc)) 23) = (
    isB tb (0) = true ∧
    (getB tb (0) = true →
      leB (92) (List.length tb) = true ∧
      (rl) [.agg ([.yld 22, .agg (subL tb (1) (91)), .int .i64 (0)] : List AV), .agg ([.tup [.int .i64 (1), .agg tb], .tup [.int .i64 (1), .agg (rowA sl (0))], .tup [.int .i64 (1), .agg (rowA sl (1))], .tup [.int .i64 (1), .agg (rowA sl (2))], .tup [.int .i64 (1), .agg (rowA sl (3))], .tup [.int .i64 (1), .agg (rowA sl (4))], .tup [.int .i64 (1), .agg (rowA sl (5))], .tup [.int .i64 (1), .agg (rowA sl (6))], .tup [.int .i64 (1), .agg (rowA sl (7))], .tup [.int .i64 (1), .agg (rowA sl (8))], .tup [.int .i64 (1), .agg (rowA sl (9))], .tup [.int .i64 (1), .agg (rowA sl (10))], .tup [.int .i64 (1), .agg (rowA sl (11))], .tup [.int .i64 (1), .agg (rowA sl (12))], .tup [.int .i64 (1), .agg ([.ptr (.rw 0) (0)] : List AV)], .tup [.int .i64 (1), .agg ([.int .i64 (to)] : List AV)], .tup [.int .i64 (1), .agg ([.int .i64 (sg)] : List AV)], .tup [.int .i64 (1), .agg ([.int .i64 (me)] : List AV)], .tup [.int .i64 (1), .agg ([.bool (st)] : List AV)], .tup [.int .i64 (1), .agg ([.func 53 [.ptr (.rw 17) (0), .ptr (.rw 14) (0), .ptr (.rw 18) (0), .ptr (.rw 16) (0)]] : List AV)], .tup [.int .i64 (1), .agg ([.bool (sm)] : List AV)], .tup [.int .i64 (1), .agg ([.ptr (.rw 0) (0)] : List AV)], .tup [.int .i64 (4294967291), .agg rc]] : List AV)] = true ∧
      R (.tup []) ([some ⟨1, tb⟩] ++ (rows13 sn ++ [some ⟨1, ([.ptr (.rw 0) (0)] : List AV)⟩, some ⟨1, ([.int .i64 (to)] : List AV)⟩, some ⟨1, ([.int .i64 (sg)] : List AV)⟩, some ⟨1, ([.int .i64 (me)] : List AV)⟩, some ⟨1, ([.bool (sv)] : List AV)⟩, some ⟨1, ([.func 53 [.ptr (.rw 17) (0), .ptr (.rw 14) (0), .ptr (.rw 18) (0), .ptr (.rw 16) (0)]] : List AV)⟩, some ⟨1, ([.bool (sw)] : List AV)⟩, some ⟨1, ([.ptr (.rw 0) (0)] : List AV)⟩, some ⟨4294967291, rc⟩]))) ∧
    (getB tb (0) = false →
      R (.tup []) ([some ⟨1, tb⟩] ++ (rows13 sl ++ [some ⟨1, ([.ptr (.rw 0) (0)] : List AV)⟩, some ⟨1, ([.int .i64 (to)] : List AV)⟩, some ⟨1, ([.int .i64 (sg)] : List AV)⟩, some ⟨1, ([.int .i64 (me)] : List AV)⟩, some ⟨1, ([.bool (st)] : List AV)⟩, some ⟨1, ([.func 53 [.ptr (.rw 17) (0), .ptr (.rw 14) (0), .ptr (.rw 18) (0), .ptr (.rw 16) (0)]] : List AV)⟩, some ⟨1, ([.bool (sm)] : List AV)⟩, some ⟨1, ([.ptr (.rw 0) (0)] : List AV)⟩, some ⟨4294967291, rc⟩])))) := by kernel_rfl
def HMe (T S : EL) (to sg me : EI) (st sm : EB) : DHp := [some ⟨1, T⟩, some ⟨1, .row S (.lit 0)⟩, some ⟨1, .row S (.lit 1)⟩, some ⟨1, .row S (.lit 2)⟩, some ⟨1, .row S (.lit 3)⟩, some ⟨1, .row S (.lit 4)⟩, some ⟨1, .row S (.lit 5)⟩, some ⟨1, .row S (.lit 6)⟩, some ⟨1, .row S (.lit 7)⟩, some ⟨1, .row S (.lit 8)⟩, some ⟨1, .row S (.lit 9)⟩, some ⟨1, .row S (.lit 10)⟩, some ⟨1, .row S (.lit 11)⟩, some ⟨1, .row S (.lit 12)⟩, some ⟨1, .of [.ptr (.rw 0) (.lit 0)]⟩, some ⟨1, .of [.int .i64 to]⟩, some ⟨1, .of [.int .i64 sg]⟩, some ⟨1, .of [.int .i64 me]⟩, some ⟨1, .of [.bool st]⟩, some ⟨1, .of [.func 53 [.ptr (.rw 17) (.lit 0), .ptr (.rw 14) (.lit 0), .ptr (.rw 18) (.lit 0), .ptr (.rw 16) (.lit 0)]]⟩, some ⟨1, .of [.bool sm]⟩, some ⟨1, .of [.ptr (.rw 0) (.lit 0)]⟩]
theorem m21 (G : Nat → List AV) (rr : List AV → Bool) (tb sl sn : List AV) (n to sg me : Int) (sv sw : Bool) (Q : Ex → List AV → Hp → Prop) (R : AV → Hp → Prop) : vT G Q R (dcall (Dr Try.prog [36, 38, 39, 20, 54] [] [] [DLat 2352 (rr) 44 71 [6, 8, 11, 12, 13, 43] (.one .normal [.ptr (.rw 15) (.lit 0), .int .i64 (.lit 0), .ptr (.rw 18) (.lit 0), .ptr (.rw 19) (.lit 0), .ptr (.rw 20) (.lit 0), .func 76 [.ptr (.rw 21) (.lit 0)]] (HMe (.var 1 tb) (.var 31 sn) (.var 3 to) (.var 4 sg) (.var 5 me) (.var 32 sv) (.var 33 sw)))] noY 22) 300 60 Try.f21 [.ptr (.rw 0) (.lit 0), .int .i64 (.var 34 n), .int .i64 (.var 3 to), .int .i64 (.var 4 sg)] [some ⟨1, .var 1 tb⟩, some ⟨1, .row (.var 2 sl) (.lit 0)⟩, some ⟨1, .row (.var 2 sl) (.lit 1)⟩, some ⟨1, .row (.var 2 sl) (.lit 2)⟩, some ⟨1, .row (.var 2 sl) (.lit 3)⟩, some ⟨1, .row (.var 2 sl) (.lit 4)⟩, some ⟨1, .row (.var 2 sl) (.lit 5)⟩, some ⟨1, .row (.var 2 sl) (.lit 6)⟩, some ⟨1, .row (.var 2 sl) (.lit 7)⟩, some ⟨1, .row (.var 2 sl) (.lit 8)⟩, some ⟨1, .row (.var 2 sl) (.lit 9)⟩, some ⟨1, .row (.var 2 sl) (.lit 10)⟩, some ⟨1, .row (.var 2 sl) (.lit 11)⟩, some ⟨1, .row (.var 2 sl) (.lit 12)⟩] 14) = (
    isB tb (0) = true ∧
    (getB tb (0) = true →
      isB tb (0) = true ∧
      getB tb (0) = true ∧
      (decide ((n : Int) ≥ 1) = true →
        (decide ((n : Int) ≤ 12) = true →
          decide ((0 : Int) ≤ n) = true ∧
          decide ((n : Int) < 13) = true ∧
          isI .i64 tb ((Int.toNat (n)) * 7 + 1) = true ∧
          (((getI tb ((Int.toNat (n)) * 7 + 1) : Int) == n) = true →
            decide ((0 : Int) ≤ n) = true ∧
            decide ((n : Int) < 13) = true ∧
            isB tb ((Int.toNat (n)) * 7 + 5) = true ∧
            (getB tb ((Int.toNat (n)) * 7 + 5) = true →
        R (.int .i64 (6)) ([some ⟨1, tb⟩] ++ rows13 sl)) ∧
            (getB tb ((Int.toNat (n)) * 7 + 5) = false →
              (decide ((sg : Int) < 0) = true →
        R (.int .i64 (2)) ([some ⟨1, tb⟩] ++ rows13 sl)) ∧
              (decide ((sg : Int) < 0) = false →
                (decide ((sg : Int) > 15) = true →
        R (.int .i64 (2)) ([some ⟨1, tb⟩] ++ rows13 sl)) ∧
                (decide ((sg : Int) > 15) = false →
                  (((to : Int) == 0) = true →
        R (.int .i64 (2)) ([some ⟨1, tb⟩] ++ rows13 sl)) ∧
                  (((to : Int) == 0) = false →
                    decide ((0 : Int) ≤ n) = true ∧
                    decide ((n : Int) < 13) = true ∧
                    isI .i64 tb ((Int.toNat (n)) * 7 + 4) = true ∧
                    (rr) [.agg ([.ptr (.rw 15) (0), .int .i64 (0), .ptr (.rw 18) (0), .ptr (.rw 19) (0), .ptr (.rw 20) (0), .func 76 [.ptr (.rw 21) (0)]] : List AV), .agg ([.tup [.int .i64 (1), .agg tb], .tup [.int .i64 (1), .agg (rowA sl (0))], .tup [.int .i64 (1), .agg (rowA sl (1))], .tup [.int .i64 (1), .agg (rowA sl (2))], .tup [.int .i64 (1), .agg (rowA sl (3))], .tup [.int .i64 (1), .agg (rowA sl (4))], .tup [.int .i64 (1), .agg (rowA sl (5))], .tup [.int .i64 (1), .agg (rowA sl (6))], .tup [.int .i64 (1), .agg (rowA sl (7))], .tup [.int .i64 (1), .agg (rowA sl (8))], .tup [.int .i64 (1), .agg (rowA sl (9))], .tup [.int .i64 (1), .agg (rowA sl (10))], .tup [.int .i64 (1), .agg (rowA sl (11))], .tup [.int .i64 (1), .agg (rowA sl (12))], .tup [.int .i64 (1), .agg ([.ptr (.rw 0) (0)] : List AV)], .tup [.int .i64 (1), .agg ([.int .i64 (to)] : List AV)], .tup [.int .i64 (1), .agg ([.int .i64 (sg)] : List AV)], .tup [.int .i64 (1), .agg ([.int .i64 (getI tb ((Int.toNat (n)) * 7 + 4))] : List AV)], .tup [.int .i64 (1), .agg ([.bool (false)] : List AV)], .tup [.int .i64 (1), .agg ([.func 53 [.ptr (.rw 17) (0), .ptr (.rw 14) (0), .ptr (.rw 18) (0), .ptr (.rw 16) (0)]] : List AV)], .tup [.int .i64 (1), .agg ([.bool (false)] : List AV)], .tup [.int .i64 (1), .agg ([.ptr (.rw 0) (0)] : List AV)]] : List AV)] = true ∧
                    (sw = true →
                      (sv = true →
        R (.int .i64 (0)) ([some ⟨1, tb⟩] ++ rows13 sn)) ∧
                      (sv = false →
        R (.int .i64 (8)) ([some ⟨1, tb⟩] ++ rows13 sn))) ∧
                    (sw = false →
        R (.int .i64 (6)) ([some ⟨1, tb⟩] ++ rows13 sn))))))) ∧
          (((getI tb ((Int.toNat (n)) * 7 + 1) : Int) == n) = false →
        R (.int .i64 (6)) ([some ⟨1, tb⟩] ++ rows13 sl))) ∧
        (decide ((n : Int) ≤ 12) = false →
        R (.int .i64 (6)) ([some ⟨1, tb⟩] ++ rows13 sl))) ∧
      (decide ((n : Int) ≥ 1) = false →
        R (.int .i64 (6)) ([some ⟨1, tb⟩] ++ rows13 sl))) ∧
    (getB tb (0) = false →
      R (.int .i64 (1)) ([some ⟨1, tb⟩] ++ rows13 sl))) := by kernel_rfl
end Go.Am
