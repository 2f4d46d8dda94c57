/-
  Two sets are the same: the program's answer, and the document's.
-/
import Derived.Test.YtopenjkaifbnmaaSgFirst
import Derived.Test.YtopenjkaifbnmaaBase6
namespace Go.Am
open Go.Proofs Crc
set_option maxRecDepth 100000
/-- cells written out, one by one -/
def wC (ls : List Lf) (l : EL) : EL := .of (leafsD l (.lit 0) ls)
def lsP : List Lf := .bool :: List.replicate 18 (.int .u32)
def lsR : List Lf := List.replicate 32 .bool ++ List.replicate 16 (.int .u32)
theorem t22 (G : Nat → List AV) (cs ds : List AV) (Q : Ex → List AV → Hp → Prop) (R : AV → Hp → Prop) : vT G Q R (dcall (Dc Try.prog [26] [] [] 0) 200 10 Try.f22 [.ptr (.rw 0) (.lit 0), .ptr (.rw 1) (.lit 0)] [some ⟨1, wC lsP (.var 1 cs)⟩, some ⟨1, wC lsP (.var 2 ds)⟩] 2) = (
    (getB cs (0) = true →
      (getB ds (0) = true →
        R (.bool ((((getB cs (0) : Bool) == getB ds (0)) && (((getI cs (1) : Int) == getI ds (1)) && (((getI cs (2) : Int) == getI ds (2)) && (((getI cs (3) : Int) == getI ds (3)) && (((getI cs (4) : Int) == getI ds (4)) && (((getI cs (5) : Int) == getI ds (5)) && (((getI cs (6) : Int) == getI ds (6)) && (((getI cs (7) : Int) == getI ds (7)) && (((getI cs (8) : Int) == getI ds (8)) && (((getI cs (9) : Int) == getI ds (9)) && (((getI cs (10) : Int) == getI ds (10)) && (((getI cs (11) : Int) == getI ds (11)) && (((getI cs (12) : Int) == getI ds (12)) && (((getI cs (13) : Int) == getI ds (13)) && (((getI cs (14) : Int) == getI ds (14)) && (((getI cs (15) : Int) == getI ds (15)) && (((getI cs (16) : Int) == getI ds (16)) && (((getI cs (17) : Int) == getI ds (17)) && ((getI cs (18) : Int) == getI ds (18)))))))))))))))))))))) [some ⟨1, ([.bool (getB cs (0)), .int .u32 (getI cs (1)), .int .u32 (getI cs (2)), .int .u32 (getI cs (3)), .int .u32 (getI cs (4)), .int .u32 (getI cs (5)), .int .u32 (getI cs (6)), .int .u32 (getI cs (7)), .int .u32 (getI cs (8)), .int .u32 (getI cs (9)), .int .u32 (getI cs (10)), .int .u32 (getI cs (11)), .int .u32 (getI cs (12)), .int .u32 (getI cs (13)), .int .u32 (getI cs (14)), .int .u32 (getI cs (15)), .int .u32 (getI cs (16)), .int .u32 (getI cs (17)), .int .u32 (getI cs (18))] : List AV)⟩, some ⟨1, ([.bool (getB ds (0)), .int .u32 (getI ds (1)), .int .u32 (getI ds (2)), .int .u32 (getI ds (3)), .int .u32 (getI ds (4)), .int .u32 (getI ds (5)), .int .u32 (getI ds (6)), .int .u32 (getI ds (7)), .int .u32 (getI ds (8)), .int .u32 (getI ds (9)), .int .u32 (getI ds (10)), .int .u32 (getI ds (11)), .int .u32 (getI ds (12)), .int .u32 (getI ds (13)), .int .u32 (getI ds (14)), .int .u32 (getI ds (15)), .int .u32 (getI ds (16)), .int .u32 (getI ds (17)), .int .u32 (getI ds (18))] : List AV)⟩]) ∧
      (getB ds (0) = false →
        R (.bool (((getB cs (0) : Bool) == getB ds (0)))) [some ⟨1, ([.bool (getB cs (0)), .int .u32 (getI cs (1)), .int .u32 (getI cs (2)), .int .u32 (getI cs (3)), .int .u32 (getI cs (4)), .int .u32 (getI cs (5)), .int .u32 (getI cs (6)), .int .u32 (getI cs (7)), .int .u32 (getI cs (8)), .int .u32 (getI cs (9)), .int .u32 (getI cs (10)), .int .u32 (getI cs (11)), .int .u32 (getI cs (12)), .int .u32 (getI cs (13)), .int .u32 (getI cs (14)), .int .u32 (getI cs (15)), .int .u32 (getI cs (16)), .int .u32 (getI cs (17)), .int .u32 (getI cs (18))] : List AV)⟩, some ⟨1, ([.bool (getB ds (0)), .int .u32 (getI ds (1)), .int .u32 (getI ds (2)), .int .u32 (getI ds (3)), .int .u32 (getI ds (4)), .int .u32 (getI ds (5)), .int .u32 (getI ds (6)), .int .u32 (getI ds (7)), .int .u32 (getI ds (8)), .int .u32 (getI ds (9)), .int .u32 (getI ds (10)), .int .u32 (getI ds (11)), .int .u32 (getI ds (12)), .int .u32 (getI ds (13)), .int .u32 (getI ds (14)), .int .u32 (getI ds (15)), .int .u32 (getI ds (16)), .int .u32 (getI ds (17)), .int .u32 (getI ds (18))] : List AV)⟩])) ∧
    (getB cs (0) = false →
      R (.bool (((getB cs (0) : Bool) == getB ds (0)))) [some ⟨1, ([.bool (getB cs (0)), .int .u32 (getI cs (1)), .int .u32 (getI cs (2)), .int .u32 (getI cs (3)), .int .u32 (getI cs (4)), .int .u32 (getI cs (5)), .int .u32 (getI cs (6)), .int .u32 (getI cs (7)), .int .u32 (getI cs (8)), .int .u32 (getI cs (9)), .int .u32 (getI cs (10)), .int .u32 (getI cs (11)), .int .u32 (getI cs (12)), .int .u32 (getI cs (13)), .int .u32 (getI cs (14)), .int .u32 (getI cs (15)), .int .u32 (getI cs (16)), .int .u32 (getI cs (17)), .int .u32 (getI cs (18))] : List AV)⟩, some ⟨1, ([.bool (getB ds (0)), .int .u32 (getI ds (1)), .int .u32 (getI ds (2)), .int .u32 (getI ds (3)), .int .u32 (getI ds (4)), .int .u32 (getI ds (5)), .int .u32 (getI ds (6)), .int .u32 (getI ds (7)), .int .u32 (getI ds (8)), .int .u32 (getI ds (9)), .int .u32 (getI ds (10)), .int .u32 (getI ds (11)), .int .u32 (getI ds (12)), .int .u32 (getI ds (13)), .int .u32 (getI ds (14)), .int .u32 (getI ds (15)), .int .u32 (getI ds (16)), .int .u32 (getI ds (17)), .int .u32 (getI ds (18))] : List AV)⟩])) := by kernel_rfl
theorem t22s (G : Nat → List AV) (cs : List AV) (Q : Ex → List AV → Hp → Prop) (R : AV → Hp → Prop) : vT G Q R (dcall (Dc Try.prog [26] [] [] 0) 200 10 Try.f22 [.ptr (.rw 0) (.lit 0), .ptr (.rw 0) (.lit 0)] [some ⟨1, wC lsP (.var 1 cs)⟩] 1) = (
    (getB cs (0) = true →
      getB cs (0) = true ∧
      R (.bool ((((getB cs (0) : Bool) == getB cs (0)) && (((getI cs (1) : Int) == getI cs (1)) && (((getI cs (2) : Int) == getI cs (2)) && (((getI cs (3) : Int) == getI cs (3)) && (((getI cs (4) : Int) == getI cs (4)) && (((getI cs (5) : Int) == getI cs (5)) && (((getI cs (6) : Int) == getI cs (6)) && (((getI cs (7) : Int) == getI cs (7)) && (((getI cs (8) : Int) == getI cs (8)) && (((getI cs (9) : Int) == getI cs (9)) && (((getI cs (10) : Int) == getI cs (10)) && (((getI cs (11) : Int) == getI cs (11)) && (((getI cs (12) : Int) == getI cs (12)) && (((getI cs (13) : Int) == getI cs (13)) && (((getI cs (14) : Int) == getI cs (14)) && (((getI cs (15) : Int) == getI cs (15)) && (((getI cs (16) : Int) == getI cs (16)) && (((getI cs (17) : Int) == getI cs (17)) && ((getI cs (18) : Int) == getI cs (18)))))))))))))))))))))) [some ⟨1, ([.bool (getB cs (0)), .int .u32 (getI cs (1)), .int .u32 (getI cs (2)), .int .u32 (getI cs (3)), .int .u32 (getI cs (4)), .int .u32 (getI cs (5)), .int .u32 (getI cs (6)), .int .u32 (getI cs (7)), .int .u32 (getI cs (8)), .int .u32 (getI cs (9)), .int .u32 (getI cs (10)), .int .u32 (getI cs (11)), .int .u32 (getI cs (12)), .int .u32 (getI cs (13)), .int .u32 (getI cs (14)), .int .u32 (getI cs (15)), .int .u32 (getI cs (16)), .int .u32 (getI cs (17)), .int .u32 (getI cs (18))] : List AV)⟩]) ∧
    (getB cs (0) = false →
      R (.bool (((getB cs (0) : Bool) == getB cs (0)))) [some ⟨1, ([.bool (getB cs (0)), .int .u32 (getI cs (1)), .int .u32 (getI cs (2)), .int .u32 (getI cs (3)), .int .u32 (getI cs (4)), .int .u32 (getI cs (5)), .int .u32 (getI cs (6)), .int .u32 (getI cs (7)), .int .u32 (getI cs (8)), .int .u32 (getI cs (9)), .int .u32 (getI cs (10)), .int .u32 (getI cs (11)), .int .u32 (getI cs (12)), .int .u32 (getI cs (13)), .int .u32 (getI cs (14)), .int .u32 (getI cs (15)), .int .u32 (getI cs (16)), .int .u32 (getI cs (17)), .int .u32 (getI cs (18))] : List AV)⟩])) := by kernel_rfl
theorem t23 (G : Nat → List AV) (cs ds : List AV) (Q : Ex → List AV → Hp → Prop) (R : AV → Hp → Prop) : vT G Q R (dcall (Dc Try.prog [] [] [] 0) 200 10 Try.f23 [.ptr (.rw 0) (.lit 0), .ptr (.rw 1) (.lit 0)] [some ⟨1, wC lsR (.var 1 cs)⟩, some ⟨1, wC lsR (.var 2 ds)⟩] 2) = (
    R (.bool (((((getB cs (0) : Bool) == getB ds (0)) && (((getB cs (1) : Bool) == getB ds (1)) && (((getB cs (2) : Bool) == getB ds (2)) && (((getB cs (3) : Bool) == getB ds (3)) && (((getB cs (4) : Bool) == getB ds (4)) && (((getB cs (5) : Bool) == getB ds (5)) && (((getB cs (6) : Bool) == getB ds (6)) && (((getB cs (7) : Bool) == getB ds (7)) && (((getB cs (8) : Bool) == getB ds (8)) && (((getB cs (9) : Bool) == getB ds (9)) && (((getB cs (10) : Bool) == getB ds (10)) && (((getB cs (11) : Bool) == getB ds (11)) && (((getB cs (12) : Bool) == getB ds (12)) && (((getB cs (13) : Bool) == getB ds (13)) && (((getB cs (14) : Bool) == getB ds (14)) && ((getB cs (15) : Bool) == getB ds (15))))))))))))))))) && ((((getB cs (16) : Bool) == getB ds (16)) && (((getB cs (17) : Bool) == getB ds (17)) && (((getB cs (18) : Bool) == getB ds (18)) && (((getB cs (19) : Bool) == getB ds (19)) && (((getB cs (20) : Bool) == getB ds (20)) && (((getB cs (21) : Bool) == getB ds (21)) && (((getB cs (22) : Bool) == getB ds (22)) && (((getB cs (23) : Bool) == getB ds (23)) && (((getB cs (24) : Bool) == getB ds (24)) && (((getB cs (25) : Bool) == getB ds (25)) && (((getB cs (26) : Bool) == getB ds (26)) && (((getB cs (27) : Bool) == getB ds (27)) && (((getB cs (28) : Bool) == getB ds (28)) && (((getB cs (29) : Bool) == getB ds (29)) && (((getB cs (30) : Bool) == getB ds (30)) && ((getB cs (31) : Bool) == getB ds (31))))))))))))))))) && (((getI cs (32) : Int) == getI ds (32)) && (((getI cs (33) : Int) == getI ds (33)) && (((getI cs (34) : Int) == getI ds (34)) && (((getI cs (35) : Int) == getI ds (35)) && (((getI cs (36) : Int) == getI ds (36)) && (((getI cs (37) : Int) == getI ds (37)) && (((getI cs (38) : Int) == getI ds (38)) && (((getI cs (39) : Int) == getI ds (39)) && (((getI cs (40) : Int) == getI ds (40)) && (((getI cs (41) : Int) == getI ds (41)) && (((getI cs (42) : Int) == getI ds (42)) && (((getI cs (43) : Int) == getI ds (43)) && (((getI cs (44) : Int) == getI ds (44)) && (((getI cs (45) : Int) == getI ds (45)) && (((getI cs (46) : Int) == getI ds (46)) && ((getI cs (47) : Int) == getI ds (47))))))))))))))))))))) [some ⟨1, ([.bool (getB cs (0)), .bool (getB cs (1)), .bool (getB cs (2)), .bool (getB cs (3)), .bool (getB cs (4)), .bool (getB cs (5)), .bool (getB cs (6)), .bool (getB cs (7)), .bool (getB cs (8)), .bool (getB cs (9)), .bool (getB cs (10)), .bool (getB cs (11)), .bool (getB cs (12)), .bool (getB cs (13)), .bool (getB cs (14)), .bool (getB cs (15)), .bool (getB cs (16)), .bool (getB cs (17)), .bool (getB cs (18)), .bool (getB cs (19)), .bool (getB cs (20)), .bool (getB cs (21)), .bool (getB cs (22)), .bool (getB cs (23)), .bool (getB cs (24)), .bool (getB cs (25)), .bool (getB cs (26)), .bool (getB cs (27)), .bool (getB cs (28)), .bool (getB cs (29)), .bool (getB cs (30)), .bool (getB cs (31)), .int .u32 (getI cs (32)), .int .u32 (getI cs (33)), .int .u32 (getI cs (34)), .int .u32 (getI cs (35)), .int .u32 (getI cs (36)), .int .u32 (getI cs (37)), .int .u32 (getI cs (38)), .int .u32 (getI cs (39)), .int .u32 (getI cs (40)), .int .u32 (getI cs (41)), .int .u32 (getI cs (42)), .int .u32 (getI cs (43)), .int .u32 (getI cs (44)), .int .u32 (getI cs (45)), .int .u32 (getI cs (46)), .int .u32 (getI cs (47))] : List AV)⟩, some ⟨1, ([.bool (getB ds (0)), .bool (getB ds (1)), .bool (getB ds (2)), .bool (getB ds (3)), .bool (getB ds (4)), .bool (getB ds (5)), .bool (getB ds (6)), .bool (getB ds (7)), .bool (getB ds (8)), .bool (getB ds (9)), .bool (getB ds (10)), .bool (getB ds (11)), .bool (getB ds (12)), .bool (getB ds (13)), .bool (getB ds (14)), .bool (getB ds (15)), .bool (getB ds (16)), .bool (getB ds (17)), .bool (getB ds (18)), .bool (getB ds (19)), .bool (getB ds (20)), .bool (getB ds (21)), .bool (getB ds (22)), .bool (getB ds (23)), .bool (getB ds (24)), .bool (getB ds (25)), .bool (getB ds (26)), .bool (getB ds (27)), .bool (getB ds (28)), .bool (getB ds (29)), .bool (getB ds (30)), .bool (getB ds (31)), .int .u32 (getI ds (32)), .int .u32 (getI ds (33)), .int .u32 (getI ds (34)), .int .u32 (getI ds (35)), .int .u32 (getI ds (36)), .int .u32 (getI ds (37)), .int .u32 (getI ds (38)), .int .u32 (getI ds (39)), .int .u32 (getI ds (40)), .int .u32 (getI ds (41)), .int .u32 (getI ds (42)), .int .u32 (getI ds (43)), .int .u32 (getI ds (44)), .int .u32 (getI ds (45)), .int .u32 (getI ds (46)), .int .u32 (getI ds (47))] : List AV)⟩]) := by kernel_rfl
theorem range16 : List.range 16 = [0, 1, 2, 3, 4, 5, 6, 7, 8, 9, 10, 11, 12, 13, 14, 15] := rfl
theorem conjP (p q : Sg) : (((getB (encP p) (0) : Bool) == getB (encP q) (0)) && (((getI (encP p) (1) : Int) == getI (encP q) (1)) && (((getI (encP p) (2) : Int) == getI (encP q) (2)) && (((getI (encP p) (3) : Int) == getI (encP q) (3)) && (((getI (encP p) (4) : Int) == getI (encP q) (4)) && (((getI (encP p) (5) : Int) == getI (encP q) (5)) && (((getI (encP p) (6) : Int) == getI (encP q) (6)) && (((getI (encP p) (7) : Int) == getI (encP q) (7)) && (((getI (encP p) (8) : Int) == getI (encP q) (8)) && (((getI (encP p) (9) : Int) == getI (encP q) (9)) && (((getI (encP p) (10) : Int) == getI (encP q) (10)) && (((getI (encP p) (11) : Int) == getI (encP q) (11)) && (((getI (encP p) (12) : Int) == getI (encP q) (12)) && (((getI (encP p) (13) : Int) == getI (encP q) (13)) && (((getI (encP p) (14) : Int) == getI (encP q) (14)) && (((getI (encP p) (15) : Int) == getI (encP q) (15)) && (((getI (encP p) (16) : Int) == getI (encP q) (16)) && (((getI (encP p) (17) : Int) == getI (encP q) (17)) && ((getI (encP p) (18) : Int) == getI (encP q) (18)))))))))))))))))))) = sameB p q := by
  show (((true : Bool) == true) && (((u p.wt : Int) == u q.wt) && (((u p.hd : Int) == u q.hd) && (((u (p.at_ 0) : Int) == u (q.at_ 0)) && (((u (p.at_ 1) : Int) == u (q.at_ 1)) && (((u (p.at_ 2) : Int) == u (q.at_ 2)) && (((u (p.at_ 3) : Int) == u (q.at_ 3)) && (((u (p.at_ 4) : Int) == u (q.at_ 4)) && (((u (p.at_ 5) : Int) == u (q.at_ 5)) && (((u (p.at_ 6) : Int) == u (q.at_ 6)) && (((u (p.at_ 7) : Int) == u (q.at_ 7)) && (((u (p.at_ 8) : Int) == u (q.at_ 8)) && (((u (p.at_ 9) : Int) == u (q.at_ 9)) && (((u (p.at_ 10) : Int) == u (q.at_ 10)) && (((u (p.at_ 11) : Int) == u (q.at_ 11)) && (((u (p.at_ 12) : Int) == u (q.at_ 12)) && (((u (p.at_ 13) : Int) == u (q.at_ 13)) && (((u (p.at_ 14) : Int) == u (q.at_ 14)) && ((u (p.at_ 15) : Int) == u (q.at_ 15)))))))))))))))))))) = sameB p q
  simp only [u_beq, sameB, range16, List.all_cons, List.all_nil, Bool.and_true, beq_self_eq_true, Bool.true_and]
theorem hi16 : ∀ j, j < 32 → 16 ≤ j → (65534#32).getLsbD j = false ∧ (65532#32).getLsbD j = false := by decide
theorem bits_eq {x y m : W} (hm : ∀ j, j < 32 → 16 ≤ j → m.getLsbD j = false) (hx : x &&& m = x) (hy : y &&& m = y) : ((List.range 16).all fun i => x.getLsbD i == y.getLsbD i) = (x == y) := by
  rw [Bool.eq_iff_iff]
  simp only [List.all_eq_true, List.mem_range, beq_iff_eq]
  constructor
  · intro h
    apply BitVec.eq_of_getLsbD_eq
    intro j hj
    by_cases h16 : j < 16
    · exact h j h16
    · have a1 := hm j hj (by omega)
      rw [← hx, ← hy, BitVec.getLsbD_and, BitVec.getLsbD_and, a1, Bool.and_false, Bool.and_false]
  · rintro rfl _ _; rfl
theorem conjR (p q : Sg) : ((((getB (encR p) (0) : Bool) == getB (encR q) (0)) && (((getB (encR p) (1) : Bool) == getB (encR q) (1)) && (((getB (encR p) (2) : Bool) == getB (encR q) (2)) && (((getB (encR p) (3) : Bool) == getB (encR q) (3)) && (((getB (encR p) (4) : Bool) == getB (encR q) (4)) && (((getB (encR p) (5) : Bool) == getB (encR q) (5)) && (((getB (encR p) (6) : Bool) == getB (encR q) (6)) && (((getB (encR p) (7) : Bool) == getB (encR q) (7)) && (((getB (encR p) (8) : Bool) == getB (encR q) (8)) && (((getB (encR p) (9) : Bool) == getB (encR q) (9)) && (((getB (encR p) (10) : Bool) == getB (encR q) (10)) && (((getB (encR p) (11) : Bool) == getB (encR q) (11)) && (((getB (encR p) (12) : Bool) == getB (encR q) (12)) && (((getB (encR p) (13) : Bool) == getB (encR q) (13)) && (((getB (encR p) (14) : Bool) == getB (encR q) (14)) && ((getB (encR p) (15) : Bool) == getB (encR q) (15))))))))))))))))) && ((((getB (encR p) (16) : Bool) == getB (encR q) (16)) && (((getB (encR p) (17) : Bool) == getB (encR q) (17)) && (((getB (encR p) (18) : Bool) == getB (encR q) (18)) && (((getB (encR p) (19) : Bool) == getB (encR q) (19)) && (((getB (encR p) (20) : Bool) == getB (encR q) (20)) && (((getB (encR p) (21) : Bool) == getB (encR q) (21)) && (((getB (encR p) (22) : Bool) == getB (encR q) (22)) && (((getB (encR p) (23) : Bool) == getB (encR q) (23)) && (((getB (encR p) (24) : Bool) == getB (encR q) (24)) && (((getB (encR p) (25) : Bool) == getB (encR q) (25)) && (((getB (encR p) (26) : Bool) == getB (encR q) (26)) && (((getB (encR p) (27) : Bool) == getB (encR q) (27)) && (((getB (encR p) (28) : Bool) == getB (encR q) (28)) && (((getB (encR p) (29) : Bool) == getB (encR q) (29)) && (((getB (encR p) (30) : Bool) == getB (encR q) (30)) && ((getB (encR p) (31) : Bool) == getB (encR q) (31))))))))))))))))) && (((getI (encR p) (32) : Int) == getI (encR q) (32)) && (((getI (encR p) (33) : Int) == getI (encR q) (33)) && (((getI (encR p) (34) : Int) == getI (encR q) (34)) && (((getI (encR p) (35) : Int) == getI (encR q) (35)) && (((getI (encR p) (36) : Int) == getI (encR q) (36)) && (((getI (encR p) (37) : Int) == getI (encR q) (37)) && (((getI (encR p) (38) : Int) == getI (encR q) (38)) && (((getI (encR p) (39) : Int) == getI (encR q) (39)) && (((getI (encR p) (40) : Int) == getI (encR q) (40)) && (((getI (encR p) (41) : Int) == getI (encR q) (41)) && (((getI (encR p) (42) : Int) == getI (encR q) (42)) && (((getI (encR p) (43) : Int) == getI (encR q) (43)) && (((getI (encR p) (44) : Int) == getI (encR q) (44)) && (((getI (encR p) (45) : Int) == getI (encR q) (45)) && (((getI (encR p) (46) : Int) == getI (encR q) (46)) && ((getI (encR p) (47) : Int) == getI (encR q) (47))))))))))))))))))) = sameB p q := by
  have e1 := bits_eq (fun j h1 h2 => (hi16 j h1 h2).1) p.hw q.hw
  have e2 := bits_eq (fun j h1 h2 => (hi16 j h1 h2).2) p.hh q.hh
  show ((((p.wt.getLsbD 0 : Bool) == q.wt.getLsbD 0) && (((p.wt.getLsbD 1 : Bool) == q.wt.getLsbD 1) && (((p.wt.getLsbD 2 : Bool) == q.wt.getLsbD 2) && (((p.wt.getLsbD 3 : Bool) == q.wt.getLsbD 3) && (((p.wt.getLsbD 4 : Bool) == q.wt.getLsbD 4) && (((p.wt.getLsbD 5 : Bool) == q.wt.getLsbD 5) && (((p.wt.getLsbD 6 : Bool) == q.wt.getLsbD 6) && (((p.wt.getLsbD 7 : Bool) == q.wt.getLsbD 7) && (((p.wt.getLsbD 8 : Bool) == q.wt.getLsbD 8) && (((p.wt.getLsbD 9 : Bool) == q.wt.getLsbD 9) && (((p.wt.getLsbD 10 : Bool) == q.wt.getLsbD 10) && (((p.wt.getLsbD 11 : Bool) == q.wt.getLsbD 11) && (((p.wt.getLsbD 12 : Bool) == q.wt.getLsbD 12) && (((p.wt.getLsbD 13 : Bool) == q.wt.getLsbD 13) && (((p.wt.getLsbD 14 : Bool) == q.wt.getLsbD 14) && ((p.wt.getLsbD 15 : Bool) == q.wt.getLsbD 15)))))))))))))))) && ((((p.hd.getLsbD 0 : Bool) == q.hd.getLsbD 0) && (((p.hd.getLsbD 1 : Bool) == q.hd.getLsbD 1) && (((p.hd.getLsbD 2 : Bool) == q.hd.getLsbD 2) && (((p.hd.getLsbD 3 : Bool) == q.hd.getLsbD 3) && (((p.hd.getLsbD 4 : Bool) == q.hd.getLsbD 4) && (((p.hd.getLsbD 5 : Bool) == q.hd.getLsbD 5) && (((p.hd.getLsbD 6 : Bool) == q.hd.getLsbD 6) && (((p.hd.getLsbD 7 : Bool) == q.hd.getLsbD 7) && (((p.hd.getLsbD 8 : Bool) == q.hd.getLsbD 8) && (((p.hd.getLsbD 9 : Bool) == q.hd.getLsbD 9) && (((p.hd.getLsbD 10 : Bool) == q.hd.getLsbD 10) && (((p.hd.getLsbD 11 : Bool) == q.hd.getLsbD 11) && (((p.hd.getLsbD 12 : Bool) == q.hd.getLsbD 12) && (((p.hd.getLsbD 13 : Bool) == q.hd.getLsbD 13) && (((p.hd.getLsbD 14 : Bool) == q.hd.getLsbD 14) && ((p.hd.getLsbD 15 : Bool) == q.hd.getLsbD 15)))))))))))))))) && (((u (p.at_ 0) : Int) == u (q.at_ 0)) && (((u (p.at_ 1) : Int) == u (q.at_ 1)) && (((u (p.at_ 2) : Int) == u (q.at_ 2)) && (((u (p.at_ 3) : Int) == u (q.at_ 3)) && (((u (p.at_ 4) : Int) == u (q.at_ 4)) && (((u (p.at_ 5) : Int) == u (q.at_ 5)) && (((u (p.at_ 6) : Int) == u (q.at_ 6)) && (((u (p.at_ 7) : Int) == u (q.at_ 7)) && (((u (p.at_ 8) : Int) == u (q.at_ 8)) && (((u (p.at_ 9) : Int) == u (q.at_ 9)) && (((u (p.at_ 10) : Int) == u (q.at_ 10)) && (((u (p.at_ 11) : Int) == u (q.at_ 11)) && (((u (p.at_ 12) : Int) == u (q.at_ 12)) && (((u (p.at_ 13) : Int) == u (q.at_ 13)) && (((u (p.at_ 14) : Int) == u (q.at_ 14)) && ((u (p.at_ 15) : Int) == u (q.at_ 15))))))))))))))))))) = sameB p q
  unfold sameB
  rw [← e1, ← e2]
  simp only [u_beq, range16, List.all_cons, List.all_nil, Bool.and_true, Bool.and_assoc]
theorem sameB_refl (p : Sg) : sameB p p = true := by simp [sameB]
theorem conjS (p : Sg) : (((getB (encP p) (0) : Bool) == getB (encP p) (0)) && (((getI (encP p) (1) : Int) == getI (encP p) (1)) && (((getI (encP p) (2) : Int) == getI (encP p) (2)) && (((getI (encP p) (3) : Int) == getI (encP p) (3)) && (((getI (encP p) (4) : Int) == getI (encP p) (4)) && (((getI (encP p) (5) : Int) == getI (encP p) (5)) && (((getI (encP p) (6) : Int) == getI (encP p) (6)) && (((getI (encP p) (7) : Int) == getI (encP p) (7)) && (((getI (encP p) (8) : Int) == getI (encP p) (8)) && (((getI (encP p) (9) : Int) == getI (encP p) (9)) && (((getI (encP p) (10) : Int) == getI (encP p) (10)) && (((getI (encP p) (11) : Int) == getI (encP p) (11)) && (((getI (encP p) (12) : Int) == getI (encP p) (12)) && (((getI (encP p) (13) : Int) == getI (encP p) (13)) && (((getI (encP p) (14) : Int) == getI (encP p) (14)) && (((getI (encP p) (15) : Int) == getI (encP p) (15)) && (((getI (encP p) (16) : Int) == getI (encP p) (16)) && (((getI (encP p) (17) : Int) == getI (encP p) (17)) && ((getI (encP p) (18) : Int) == getI (encP p) (18)))))))))))))))))))) = true := by simp
theorem wC_P (G : Nat → List AV) (p : Sg) (j : Nat) : vL G (wC lsP (.var j (encP p))) = encP p := rfl
theorem wC_R (G : Nat → List AV) (p : Sg) (j : Nat) : vL G (wC lsR (.var j (encR p))) = encR p := rfl
theorem p_same (G : Nat → List AV) (B : Nat) (p q : Sg) : ACalls (⟨Try.prog, G, B⟩ : Ctx) 22 [.ptr (.rw 0) 0, .ptr (.rw 1) 0] [some ⟨1, encP p⟩, some ⟨1, encP q⟩] fun v H' => v = .bool (sameB p q) ∧ H'.take 2 = [some ⟨1, encP p⟩, some ⟨1, encP q⟩] := by
  have key := dcall_ok (C := (⟨Try.prog, G, B⟩ : Ctx)) (f := 22) (R := fun v' H' => v' = .bool (sameB p q) ∧ H' = [some ⟨1, encP p⟩, some ⟨1, encP q⟩]) (dgood (inl := [26]) (sums := []) (ls := []) (M := 0) (cs := []) (mix G B) (by kernel_rfl) .nil .nil) (by kernel_rfl) (by kernel_rfl) (by kernel_rfl) (fuel := 200) (n0 := 10) (keep := 2) (args := [.ptr (.rw 0) (.lit 0), .ptr (.rw 1) (.lit 0)]) (H := [some ⟨1, wC lsP (.var 1 (encP p))⟩, some ⟨1, wC lsP (.var 2 (encP q))⟩]) (by
    rw [t22, conjP]
    exact ⟨fun _ => ⟨fun _ => ⟨rfl, rfl⟩, fun h => (by cases h)⟩, fun h => (by cases h)⟩)
  simp only [vVs, vV, vR, vN, vHp, List.map_cons, List.map_nil, Option.map_some, vBlk, wC_P] at key
  exact key
theorem p_same1 (G : Nat → List AV) (B : Nat) (p : Sg) : ACalls (⟨Try.prog, G, B⟩ : Ctx) 22 [.ptr (.rw 0) 0, .ptr (.rw 0) 0] [some ⟨1, encP p⟩] fun v H' => v = .bool true ∧ H'.take 1 = [some ⟨1, encP p⟩] := by
  have key := dcall_ok (C := (⟨Try.prog, G, B⟩ : Ctx)) (f := 22) (R := fun v' H' => v' = .bool true ∧ H' = [some ⟨1, encP p⟩]) (dgood (inl := [26]) (sums := []) (ls := []) (M := 0) (cs := []) (mix G B) (by kernel_rfl) .nil .nil) (by kernel_rfl) (by kernel_rfl) (by kernel_rfl) (fuel := 200) (n0 := 10) (keep := 1) (args := [.ptr (.rw 0) (.lit 0), .ptr (.rw 0) (.lit 0)]) (H := [some ⟨1, wC lsP (.var 1 (encP p))⟩]) (by
    rw [t22s, conjS]
    exact ⟨fun _ => ⟨rfl, rfl, rfl⟩, fun h => (by cases h)⟩)
  simp only [vVs, vV, vR, vN, vHp, List.map_cons, List.map_nil, Option.map_some, vBlk, wC_P] at key
  exact key
theorem r_same (G : Nat → List AV) (B : Nat) (p q : Sg) : ACalls (⟨Try.prog, G, B⟩ : Ctx) 23 [.ptr (.rw 0) 0, .ptr (.rw 1) 0] [some ⟨1, encR p⟩, some ⟨1, encR q⟩] fun v H' => v = .bool (sameB p q) ∧ H'.take 2 = [some ⟨1, encR p⟩, some ⟨1, encR q⟩] := by
  have key := dcall_ok (C := (⟨Try.prog, G, B⟩ : Ctx)) (f := 23) (R := fun v' H' => v' = .bool (sameB p q) ∧ H' = [some ⟨1, encR p⟩, some ⟨1, encR q⟩]) (dgood (inl := []) (sums := []) (ls := []) (M := 0) (cs := []) (mix G B) (by kernel_rfl) .nil .nil) (by kernel_rfl) (by kernel_rfl) (by kernel_rfl) (fuel := 200) (n0 := 10) (keep := 2) (args := [.ptr (.rw 0) (.lit 0), .ptr (.rw 1) (.lit 0)]) (H := [some ⟨1, wC lsR (.var 1 (encR p))⟩, some ⟨1, wC lsR (.var 2 (encR q))⟩]) (by
    rw [t23, conjR]
    exact ⟨rfl, rfl⟩)
  simp only [vVs, vV, vR, vN, vHp, List.map_cons, List.map_nil, Option.map_some, vBlk, wC_R] at key
  exact key
/-- two sets: are they the same? -/
def sameS (s : Side) : DSum := fun xs H => match xs with
  | [.ptr (.rw i) (.lit 0), .ptr (.rw j) (.lit 0)] => match H[i]?, H[j]? with
    | some (some ⟨1, cs⟩), some (some ⟨1, ds⟩) => match s.get cs, s.get ds with
      | some (b, l), some (c, m) => match Nat.beq i j with
        | true => some (.chk b (.one (.bool (.lit true)) []))
        | false => some (.chk b (.chk c (.one (.bool (.uf 1060 sameU [.agg l, .agg m])) [])))
      | _, _ => none
    | _, _ => none
  | _ => none
theorem sameU_enc (p q : Sg) : sameU [.agg (encP p), .agg (encP q)] = sameB p q := by simp only [sameU, decP_enc]
theorem sameS_ok {C : Ctx} {s : Side} {enc : Sg → List AV} (hs : SideOk C.G s enc) {f : FuncId} (h2 : ∀ p q, ACalls C f [.ptr (.rw 0) 0, .ptr (.rw 1) 0] [some ⟨1, enc p⟩, some ⟨1, enc q⟩] fun v H' => v = .bool (sameB p q) ∧ H'.take 2 = [some ⟨1, enc p⟩, some ⟨1, enc q⟩])
    (h1 : ∀ p, ACalls C f [.ptr (.rw 0) 0, .ptr (.rw 0) 0] [some ⟨1, enc p⟩] fun v H' => v = .bool true ∧ H'.take 1 = [some ⟨1, enc p⟩]) : DSumOk C f (sameS s) := by
  intro xs H o ho
  simp only [sameS] at ho
  split at ho
  · rename_i i j
    split at ho
    · rename_i cs ds hi hj
      split at ho
      · rename_i b l c m hl hm
        split at ho
        · rename_i hij
          have hij := Nat.eq_of_beq_eq_true hij
          subst hij
          simp at ho; subst ho
          intro hb
          obtain ⟨p, e1, e2⟩ := hs.get _ _ _ hl hb
          refine DOut.get1g (args0 := [.ptr (.rw 0) 0, .ptr (.rw 0) 0]) hi ?_ (by rw [e2]; exact hs.flat _ _) (by simp [bnds, bnd]) (by simp [vVs, vV, vR, vN, rens, ren]) (by simp [vV, bnd]) (by simp [vV])
          simp only [vBlk, e2, vV, vB]
          exact h1 p
        · rename_i hij
          have hij : i ≠ j := fun h => by rw [h, Nat.beq_refl] at hij; simp at hij
          simp at ho; subst ho
          intro hb hc
          obtain ⟨p, e1, e2⟩ := hs.get _ _ _ hl hb
          obtain ⟨q, e3, e4⟩ := hs.get _ _ _ hm hc
          refine DOut.get2 (args0 := [.ptr (.rw 0) 0, .ptr (.rw 1) 0]) hij hi hj ?_ (by rw [e2]; exact hs.flat _ _) (by rw [e4]; exact hs.flat _ _) (by simp [bnds, bnd]) (by simp [vVs, vV, vR, vN, rens, ren]) (by simp [vV, bnd]) (by simp [vV])
          simp only [vBlk, e2, e4, vV, vB, vVs, e1, e3, sameU_enc]
          exact h2 p q
      · simp at ho
    · simp at ho
  · simp at ho

/-! two lists of whole numbers that are the same -/
theorem si_b (G : Nat → List AV) (cs ds : List AV) (n : Nat) (i : Int) (Q : Ex → List AV → Hp → Prop) (R : AV → Hp → Prop) : vT G Q R (dloop (Dc Try.prog [] [] [] 0) 200 10 2 (loopN Try.f25 0) 26 [0, 1, 4, 5] [.slice true (.rw 0) (.lit 0) (.var 5 n), .slice true (.rw 1) (.lit 0) (.var 5 n), .bool (.lit false), .int .i64 (.var 6 i)] [some ⟨1, .var 1 cs⟩, some ⟨1, .var 2 ds⟩]) = (
    (decide ((i : Int) < ((n : Nat) : Int)) = true →
      decide ((0 : Int) ≤ i) = true ∧
      decide ((i : Int) < ((n : Nat) : Int)) = true ∧
      isI .i64 cs (Int.toNat (i)) = true ∧
      decide ((0 : Int) ≤ i) = true ∧
      decide ((i : Int) < ((n : Nat) : Int)) = true ∧
      isI .i64 ds (Int.toNat (i)) = true ∧
      (((getI cs (Int.toNat (i)) : Int) == getI ds (Int.toNat (i))) = true →
        Q .normal [.slice true (.rw 0) (0) (n), .slice true (.rw 1) (0) (n), .bool (false), .int .i64 (IntKind.wrap .i64 (i + 1))] [some ⟨1, cs⟩, some ⟨1, ds⟩]) ∧
      (((getI cs (Int.toNat (i)) : Int) == getI ds (Int.toNat (i))) = false →
        Q .ret [.slice true (.rw 0) (0) (n), .slice true (.rw 1) (0) (n), .bool (false), .int .i64 (i)] [some ⟨1, cs⟩, some ⟨1, ds⟩])) ∧
    (decide ((i : Int) < ((n : Nat) : Int)) = false →
      Q (.exit 0) [.slice true (.rw 0) (0) (n), .slice true (.rw 1) (0) (n), .bool (false), .int .i64 (i)] [some ⟨1, cs⟩, some ⟨1, ds⟩])) := by kernel_rfl
def J25 (x : List AV) (n : Nat) (j : Nat) (vs : List AV) (H : Hp) : Prop := ∃ i : Nat, i ≤ n ∧ j = n - i ∧ vs = [.slice true (.rw 0) 0 n, .slice true (.rw 1) 0 n, .bool false, .int .i64 (i : Int)] ∧ H = [some ⟨1, x⟩, some ⟨1, x⟩]
theorem si_loop (G : Nat → List AV) (B : Nat) (x : List AV) (n : Nat) (hx : okI .i64 x 0 n = true) (hn : n ≤ 1000000) :
    AWp (⟨Try.prog, G, B⟩ : Ctx) 2 (.loop (loopN Try.f25 0)) (fl 26 [0, 1, 4, 5] [.slice true (.rw 0) 0 n, .slice true (.rw 1) 0 n, .bool false, .int .i64 0]) [some ⟨1, x⟩, some ⟨1, x⟩]
      (lv 26 [0, 1, 4, 5] fun e vs H => e = .exit 0 ∧ wk [.undef, .undef, .bool false, .undef] vs ∧ H = [some ⟨1, x⟩, some ⟨1, x⟩]) := by
  refine aloop_lv (J25 x n) n ⟨0, by omega, rfl, rfl, rfl⟩ ?_
  rintro j vs H ⟨i, hi, rfl, rfl, rfl⟩
  refine dloop_ok (C := (⟨Try.prog, G, B⟩ : Ctx)) (dg0 G B) (fuel := 200) (n0 := 10) (m := 2) (c := loopN Try.f25 0) (vs := [.slice true (.rw 0) (.lit 0) (.var 5 n), .slice true (.rw 1) (.lit 0) (.var 5 n), .bool (.lit false), .int .i64 (.var 6 (i : Int))]) (H := [some ⟨1, .var 1 x⟩, some ⟨1, .var 2 x⟩]) (by simp) ?_
  rw [si_b, Int.toNat_natCast]
  have hst : i < n → isI .i64 x i = true := fun h => by
    have := okI_get hx h
    rwa [Nat.zero_add] at this
  repeat' first | refine And.intro ?_ ?_ | intro _
  all_goals try simp only [decide_eq_true_eq, decide_eq_false_iff_not] at *
  all_goals first
    | omega
    | exact hst (by omega)
    | rfl
    | (simp [wk]; done)
    | (simp_all; done)
    | skip
  exact ⟨n - (i + 1), by omega, .inl ⟨i + 1, by omega, rfl, by rw [i64_in (by omega)]; rfl, rfl⟩⟩
/-- twice the same list -/
def twinU : List AV → Bool := fun xs => match xs with
  | [.agg x, .ptr _ n, .agg y, .ptr _ m] => Nat.beq n m && (okI .i64 x 0 n && (Nat.ble n 1000000 && eqCs x y))
  | _ => false
def siL : DL := ⟨0, 26, [0, 1, 4, 5], fun vs H => match vs, H with
  | [.slice true (.rw 0) (.lit 0) n, .slice true (.rw 1) (.lit 0) m, .bool (.lit false), .int .i64 (.lit 0)], [some ⟨1, x⟩, some ⟨1, y⟩] =>
    some (.chk (.uf 1051 twinU [.agg x, .ptr (.rw 0) n, .agg y, .ptr (.rw 0) m]) (.one (.exit 0) [.undef, .undef, .bool (.lit false), .undef] [some ⟨1, x⟩, some ⟨1, y⟩]))
  | _, _ => none⟩
theorem siL_ok (G : Nat → List AV) (B : Nat) : DLoopOk (⟨Try.prog, G, B⟩ : Ctx) 2 (loopN Try.f25 0) siL := by
  refine .of fun vs H o ho n Q hQ => ?_
  simp only [siL] at ho
  split at ho
  · rename_i n m x y
    simp only [Option.some.injEq] at ho
    subst ho
    obtain ⟨h1, h2⟩ := hQ
    simp only [vB, vVs, vV, vR, vN, twinU, Bool.and_eq_true] at h1
    obtain ⟨e1, e2, e3, e4⟩ := h1
    have e1 := Nat.eq_of_beq_eq_true e1
    have e4 := eqCs_eq e4
    refine lone ?_ h2
    simp only [siL, vVs, vV, vR, vN, vI, vB, vHp, List.map_cons, List.map_nil, Option.map_some, vBlk]
    rw [← e1, ← e4]
    exact si_loop G B _ _ e2 (Nat.le_of_ble_eq_true e3)
  · simp at ho
theorem dgSI (G : Nat → List AV) (B : Nat) : DGood (⟨Try.prog, G, B⟩ : Ctx) (Dc Try.prog [] [] [siL] 2) (loopsOf (bodyOf Try.f25)) := dgood (mix G B) (by kernel_rfl) .nil (.cast (.cons (i := 0) (by kernel_rfl) rfl (siL_ok G B) .nil) (by kernel_rfl))
theorem t25 (G : Nat → List AV) (cs ds : List AV) (n : Nat) (Q : Ex → List AV → Hp → Prop) (R : AV → Hp → Prop) : vT G Q R (dcall (Dc Try.prog [] [] [siL] 2) 200 10 Try.f25 [.slice true (.rw 0) (.lit 0) (.var 5 n), .slice true (.rw 1) (.lit 0) (.var 5 n)] [some ⟨1, .var 1 cs⟩, some ⟨1, .var 2 ds⟩] 2) = (
    ((((n : Nat) : Int) : Int) == ((n : Nat) : Int)) = true ∧
    twinU [.agg cs, .ptr (.rw 0) (n), .agg ds, .ptr (.rw 0) (n)] = true ∧
    R (.bool (true)) [some ⟨1, cs⟩, some ⟨1, ds⟩]) := by kernel_rfl
theorem eqCs_ints : ∀ {x : List AV}, x.all (fun v => eqC v v) = true → eqCs x x = true
  | [], _ => rfl
  | v :: x, h => by
    simp only [List.all_cons, Bool.and_eq_true] at h
    simp only [eqCs, h.1, eqCs_ints h.2, Bool.and_self]
theorem si_call (G : Nat → List AV) (B : Nat) (x : List AV) (n : Nat) (hx : okI .i64 x 0 n = true) (hn : n ≤ 1000000) (hc : eqCs x x = true) : ACalls (⟨Try.prog, G, B⟩ : Ctx) 25 [.slice true (.rw 0) 0 n, .slice true (.rw 1) 0 n] [some ⟨1, x⟩, some ⟨1, x⟩] fun v H' => v = .bool true ∧ H'.take 2 = [some ⟨1, x⟩, some ⟨1, x⟩] := by
  have key := dcall_ok (C := (⟨Try.prog, G, B⟩ : Ctx)) (f := 25) (R := fun v' H' => v' = .bool true ∧ H' = [some ⟨1, x⟩, some ⟨1, x⟩]) (dgSI G B) (by kernel_rfl) (by kernel_rfl) (by kernel_rfl) (fuel := 200) (n0 := 10) (keep := 2) (args := [.slice true (.rw 0) (.lit 0) (.var 5 n), .slice true (.rw 1) (.lit 0) (.var 5 n)]) (H := [some ⟨1, .var 1 x⟩, some ⟨1, .var 2 x⟩]) (by
    rw [t25]
    have : twinU [.agg x, .ptr (.rw 0) n, .agg x, .ptr (.rw 0) n] = true := by
      simp only [twinU, Nat.beq_refl, hx, hc, Bool.true_and, Bool.and_true]
      exact Nat.ble_eq_true_of_le hn
    repeat' first | refine And.intro ?_ ?_ | intro _
    all_goals first
      | exact this
      | rfl
      | (simp; done))
  simp only [vVs, vV, vR, vN, vHp, List.map_cons, List.map_nil, Option.map_some, vBlk, vL] at key
  exact key
def sameIntsS : DSum := fun xs H => match xs with
  | [.slice mb (.rw i) (.lit 0) n, .slice mb' (.rw j) (.lit 0) m] => match H[i]?, H[j]? with
    | some (some ⟨1, x⟩), some (some ⟨1, y⟩) => match Nat.beq i j with
      | true => none
      | false => some (.chk (.uf 1051 twinU [.agg x, .ptr (.rw 0) n, .agg y, .ptr (.rw 0) m]) (.one (.bool (.lit true)) []))
    | _, _ => none
  | _ => none
theorem eqCs_flat : ∀ {x y : List AV}, eqCs x y = true → bnds 0 x = true
  | [], _, _ => rfl
  | v :: x, [], h => by simp [eqCs] at h
  | v :: x, w :: y, h => by
    simp only [eqCs, Bool.and_eq_true] at h
    have := eqCs_flat h.2
    simp only [bnds, this, Bool.and_true]
    have h1 := h.1
    unfold eqC at h1
    split at h1 <;> first | rfl | (simp at h1; done)
theorem sameIntsS_ok (G : Nat → List AV) (B : Nat) : DSumOk (⟨Try.prog, G, B⟩ : Ctx) 25 sameIntsS := by
  intro xs H o ho
  simp only [sameIntsS] at ho
  split at ho
  · rename_i mb i n mb' j m
    split at ho
    · rename_i x y hi hj
      split at ho
      · simp at ho
      · rename_i hij
        have hij : i ≠ j := fun h => by rw [h, Nat.beq_refl] at hij; simp at hij
        simp at ho; subst ho
        intro h1
        simp only [vB, vVs, vV, vR, vN, twinU, Bool.and_eq_true] at h1
        obtain ⟨e1, e2, e3, e4⟩ := h1
        have e1 := Nat.eq_of_beq_eq_true e1
        have e5 := eqCs_eq e4
        have hx : eqCs (vL G x) (vL G x) = true := by rw [← e5] at e4; exact e4
        have hf := eqCs_flat e4
        have key := DOut.get2 (C := (⟨Try.prog, G, B⟩ : Ctx)) (f := 25) (args0 := [.slice true (.rw 0) 0 (vN G n), .slice true (.rw 1) 0 (vN G n)]) (args := [.slice true (.rw i) (.lit 0) n, .slice true (.rw j) (.lit 0) m]) (v := .bool (.lit true)) hij hi hj (by
          simp only [vBlk, vV, vB]
          rw [← e5]
          exact si_call G B _ _ e2 (Nat.le_of_ble_eq_true e3) hx) hf (by show bnds 0 (vL G y) = true; rw [← e5]; exact hf) (by simp [bnds, bnd]) (by simp only [vVs, vV, vR, vN, rens, ren]; rw [← e1]; rfl) (by simp [vV, bnd]) (by simp [vV])
        unfold oAll DOut at *
        refine ACalls.weaken key ?_
        intro ρ vs hv
        simp only [vVs, vV, vR, vN, VRs] at hv ⊢
        obtain ⟨v, vs', r1, r2, w, ws', r3, r4, r5⟩ := hv
        exact ⟨v, vs', r1, VR_may r2, w, ws', r3, VR_may r4, r5⟩
    · simp at ho
  · simp at ho
end Go.Am
