/-
  WireWrites: the run.
-/
import Derived.Test.YtcodkoholbmkkaaWrX
namespace Go.Am
open Go.Proofs
set_option maxRecDepth 100000
def wwL0 (G : Nat → List AV) : DL := ⟨0, 161, [1, 2, 4, 5, 6, 7, 8, 9, 10, 11], fun vs H => match vs, H with
  | [.slice true (.ro k) (.lit 0) n, .ptr (.rw 0) (.lit 0), .bool (.lit false), .slice true (.rw 3) (.lit 0) l3, .slice false (.rw 4) (.lit 0) l4, .slice false (.rw 5) (.lit 0) l5, .slice false (.rw 6) (.lit 0) l6, .slice false (.rw 7) (.lit 0) l7, .nils, .int .i64 (.lit 0)],
    [some ⟨1, .of [.int .u64 a, .int .i64 b, .bool c, .slice true (.ro k0) (.lit 0) n0]⟩, none, some ⟨1, c2⟩, some ⟨1, c3⟩, some ⟨1, c4⟩, some ⟨1, c5⟩, some ⟨1, c6⟩, some ⟨1, c7⟩] =>
    some (.chk (.uf 1111 (okJU G) [.ptr (.ro k) n]) <| .chk (.u8s c2) <| .chk (.u8s c3) <| .chk (.u8s c4) <| .chk (.u8s c5) <| .chk (.u8s c6) <| .chk (.u8s c7) <|
      .one (.exit 0) [.slice true (.ro k) (.lit 0) n, .ptr (.rw 0) (.lit 0), .bool (.lit false), .slice true (.rw 3) (.lit 0) l3, .slice false (.rw 4) (.lit 0) l4, .slice false (.rw 5) (.lit 0) l5, .slice false (.rw 6) (.lit 0) l6, .slice false (.rw 7) (.lit 0) l7, .slice true (.rw 8) (.lit 0) (.len (.uf 1112 (joinU G) [.ptr (.ro k) n])), .undef]
        [some ⟨1, .of [.int .u64 a, .int .i64 b, .bool c, .slice true (.ro k0) (.lit 0) n0]⟩, none, some ⟨1, c2⟩, some ⟨1, c3⟩, some ⟨1, c4⟩, some ⟨1, c5⟩, some ⟨1, c6⟩, some ⟨1, c7⟩, some ⟨1, .uf 1112 (joinU G) [.ptr (.ro k) n]⟩])
  | _, _ => none⟩
theorem wwL0_ok (G : Nat → List AV) (B : Nat) : DLoopOk (⟨Try.prog, G, B⟩ : Ctx) 0 (loopN Try.f3 0) (wwL0 G) := by
  refine .of fun vs H o ho n Q hQ => ?_
  simp only [wwL0] at ho
  split at ho
  · rename_i k n l3 l4 l5 l6 l7 a b c k0 n0 c2 c3 c4 c5 c6 c7
    simp only [Option.some.injEq] at ho
    subst ho
    obtain ⟨h1, h2, h3, h4, h5, h6, h7, h8⟩ := hQ
    simp only [vB, vVs, vV, vR, vN] at h1 h2 h3 h4 h5 h6 h7
    refine lone ?_ h8
    simp only [wwL0, vVs, vV, vR, vN, vI, vB, vL, vHp, List.map_cons, List.map_nil, Option.map_some, Option.map_none, vBlk, joinU]
    have key := ww_loop0 G B [.int .u64 (vI G a), .int .i64 (vI G b), .bool (vB G c), .slice true (.ro (vN G k0)) 0 (vN G n0)] (vL G c2) (vL G c3) (vL G c4) (vL G c5) (vL G c6) (vL G c7) (vN G k) (vN G n) (vN G l3) (vN G l4) (vN G l5) (vN G l6) (vN G l7) (okJ_iff.1 h1)
      (by simp [hpB, bnds, bnd, u8s_flat h2, u8s_flat h3, u8s_flat h4, u8s_flat h5, u8s_flat h6, u8s_flat h7])
    exact AWp.nil 1 (by simp) (nilrs_fl (vs := [.slice true (.ro (vN G k)) 0 (vN G n), .ptr (.rw 0) 0, .bool false, .slice true (.rw 3) 0 (vN G l3), .slice false (.rw 4) 0 (vN G l4), .slice false (.rw 5) 0 (vN G l5), .slice false (.rw 6) 0 (vN G l6), .slice false (.rw 7) 0 (vN G l7), .slice true (.rw 8) 0 0, .int .i64 0])
      (vs' := [.slice true (.ro (vN G k)) 0 (vN G n), .ptr (.rw 0) 0, .bool false, .slice true (.rw 3) 0 (vN G l3), .slice false (.rw 4) 0 (vN G l4), .slice false (.rw 5) 0 (vN G l5), .slice false (.rw 6) 0 (vN G l6), .slice false (.rw 7) 0 (vN G l7), .nils, .int .i64 0])
      ⟨.inl rfl, .inl rfl, .inl rfl, .inl rfl, .inl rfl, .inl rfl, .inl rfl, .inl rfl, .inr ⟨rfl, rfl⟩, .inl rfl, trivial⟩) (by simp [nilH, nilrs_refl]) key
  · simp at ho
def wwL2 (G : Nat → List AV) : DL := ⟨2, 161, [1, 2, 4, 5, 7, 9, 10, 13, 14], fun vs H => match vs, H with
  | [.slice true (.ro k) (.lit 0) n, .ptr (.rw 0) (.lit 0), .bool (.lit false), .slice true (.rw 3) (.lit 0) l3, .slice false (.rw 5) (.lit 0) l5, .slice false (.rw 7) (.lit 0) l7, .slice true (.rw 8) (.lit 0) l8, .int .i64 (.lit 0), .int .i64 (.lit 0)],
    some ⟨1, .of [.int .u64 a, .int .i64 b, .bool c, .slice true (.ro k0) (.lit 0) n0]⟩ :: none :: some ⟨1, c2⟩ :: some ⟨1, c3⟩ :: none :: some ⟨1, c5⟩ :: none :: some ⟨1, c7⟩ :: some ⟨1, c8⟩ :: rest =>
    some (.chk (.uf 1111 (okJU G) [.ptr (.ro k) n]) <| .chk (.uf 1113 (isJU G) [.agg c8, .ptr (.rw 0) l8, .ptr (.ro k) n]) <| .chk (.u8s c2) <| .chk (.u8s c3) <| .chk (.u8s c5) <| .chk (.u8s c7) <|
      .one (.exit 2) [.undef, .ptr (.rw 0) (.lit 0), .bool (.lit false), .slice true (.rw 3) (.lit 0) l3, .slice false (.rw 5) (.lit 0) l5, .slice false (.rw 7) (.lit 0) l7, .undef, .undef, .undef]
        [some ⟨1, .of [.int .u64 a, .int .i64 b, .bool c, .slice true (.ro k0) (.lit 0) n0]⟩, none, some ⟨1, c2⟩, some ⟨1, c3⟩, none, some ⟨1, c5⟩, none, some ⟨1, c7⟩, some ⟨1, c8⟩])
  | _, _ => none⟩
theorem wwL2_ok (G : Nat → List AV) (B : Nat) : DLoopOk (⟨Try.prog, G, B⟩ : Ctx) 0 (loopN Try.f3 1) (wwL2 G) := by
  refine .of fun vs H o ho n Q hQ => ?_
  simp only [wwL2] at ho
  split at ho
  · rename_i k n l3 l5 l7 l8 a b c k0 n0 c2 c3 c5 c7 c8 rest
    simp only [Option.some.injEq] at ho
    subst ho
    obtain ⟨h1, h0, h2, h3, h5, h7, h8⟩ := hQ
    simp only [vB, vVs, vV, vR, vN] at h1 h0 h2 h3 h5 h7
    obtain ⟨e1, e2⟩ := isJ_eq h0
    have hp := okJ_iff.1 h1
    refine lone ?_ h8
    simp only [wwL2, vVs, vV, vR, vN, vI, vB, vL, vHp, List.map_cons, List.map_nil, Option.map_some, Option.map_none, vBlk]
    rw [e1, e2]
    have key := ww_loop2 G B [.int .u64 (vI G a), .int .i64 (vI G b), .bool (vB G c), .slice true (.ro (vN G k0)) 0 (vN G n0)] (vL G c2) (vL G c3) (vL G c5) (vL G c7) (vN G k) (vN G n) (vN G l3) (vN G l5) (vN G l7) hp
    exact AWp.forget (G := vHp G rest) (by simp) (by simp [hpB, bnds, bnd, u8s_flat h2, u8s_flat h3, u8s_flat h5, u8s_flat h7, u8s_flat (hp.u8c _ (Nat.le_refl _))]) (by simp [bnds, bnd]) key
  · simp at ho
theorem dgW3 (G : Nat → List AV) (B : Nat) : DGood (⟨Try.prog, G, B⟩ : Ctx) (Dc Try.prog [] (progW G) [wwL0 G, wwL2 G] 0) (loopsOf (bodyOf Try.f3)) := dgood (mix G B) (by kernel_rfl) (progW_ok G B) (.cast (.cons (i := 0) (by kernel_rfl) rfl (wwL0_ok G B) (.cons (i := 2) (by kernel_rfl) rfl (wwL2_ok G B) .nil)) (by kernel_rfl))
theorem ww_run (G : Nat → List AV) (n : Int) (m : Int) (b : Bool) (k5 n5 k n7 : Nat) (Q : Ex → List AV → Hp → Prop) (R : AV → Hp → Prop) : vT G Q R (dlaw (Dc Try.prog [] (progW G) [wwL0 G, wwL2 G] 0) 400 30 Try.f3 [.agg (.of [.int .u64 (.var 1 n), .int .i64 (.var 2 m), .bool (.var 3 b), .slice true (.ro (.var 4 k5)) (.lit 0) (.var 5 n5)]), .slice true (.ro (.var 6 k)) (.lit 0) (.var 7 n7)] []) = (
    leB (n5) (List.length (G (k5))) = true ∧
    cellsB (subL (G (k5)) (0) (n5)) = true ∧
    leB (n5) (140737488355328) = true ∧
    leB (n5 + 1) (140737488355328) = true ∧
    Nat.beq (List.length (subL (G (k5)) (0) (n5))) (n5) = true ∧
    decide ((0 : Int) ≤ ((n5 : Nat) : Int)) = true ∧
    decide ((((n5 : Nat) : Int) : Int) ≤ ((n5 + 1 : Nat) : Int)) = true ∧
    leB (n5) (1099511627776) = true ∧
    leB (0 + n5) (List.length ((subL (G (k5)) (0) (n5)) ++ ([.int .u8 (119)] : List AV))) = true ∧
    u8s ((subL (G (k5)) (0) (n5)) ++ ([.int .u8 (119)] : List AV)) = true ∧
    u8s (subL ((subL (G (k5)) (0) (n5)) ++ ([.int .u8 (119)] : List AV)) (0) (n5)) = true ∧
    decide ((0 : Int) ≤ ((n5 : Nat) : Int)) = true ∧
    decide ((((n5 : Nat) : Int) : Int) ≤ ((n5 + 1 : Nat) : Int)) = true ∧
    leB (n5) (1099511627776) = true ∧
    leB (0 + n5) (List.length ((subL (G (k5)) (0) (n5)) ++ ([.int .u8 (119)] : List AV))) = true ∧
    u8s ((subL (G (k5)) (0) (n5)) ++ ([.int .u8 (119)] : List AV)) = true ∧
    u8s (subL ((subL (G (k5)) (0) (n5)) ++ ([.int .u8 (119)] : List AV)) (0) (n5)) = true ∧
    inU64 [.int .u64 (n)] = true ∧
    inU64 [.int .u64 (n)] = true ∧
    (okJU G) [.ptr (.ro (k)) (n7)] = true ∧
    u8s ([.int .u8 (119)] : List AV) = true ∧
    u8s ((subL (G (k5)) (0) (n5)) ++ ([.int .u8 (119)] : List AV)) = true ∧
    u8s ((bytesL (nformU [.int .u64 (((n5 : Nat) : Int))])) ++ (subL ((subL (G (k5)) (0) (n5)) ++ ([.int .u8 (119)] : List AV)) (0) (n5))) = true ∧
    u8s ((bytesL (nformU [.int .u64 (((n5 : Nat) : Int))])) ++ (subL ((subL (G (k5)) (0) (n5)) ++ ([.int .u8 (119)] : List AV)) (0) (n5))) = true ∧
    u8s (bytesL (nformU [.int .u64 (n)])) = true ∧
    u8s (bytesL (nformU [.int .u64 (n)])) = true ∧
    (okJU G) [.ptr (.ro (k)) (n7)] = true ∧
    leB (List.length (nformU [.int .u64 (((n5 : Nat) : Int))]) + n5) (List.length ((bytesL (nformU [.int .u64 (((n5 : Nat) : Int))])) ++ (subL ((subL (G (k5)) (0) (n5)) ++ ([.int .u8 (119)] : List AV)) (0) (n5)))) = true ∧
    u8s (subL ((bytesL (nformU [.int .u64 (((n5 : Nat) : Int))])) ++ (subL ((subL (G (k5)) (0) (n5)) ++ ([.int .u8 (119)] : List AV)) (0) (n5))) (0) (List.length (nformU [.int .u64 (((n5 : Nat) : Int))]) + n5)) = true ∧
    leB (n5) (1099511627776) = true ∧
    leB (0 + n5) (List.length (G (k5))) = true ∧
    u8s (G (k5)) = true ∧
    u8s (subL (G (k5)) (0) (n5)) = true ∧
    leB (List.length (nformU [.int .u64 (((n5 : Nat) : Int))]) + n5) (List.length ((bytesL (nformU [.int .u64 (((n5 : Nat) : Int))])) ++ (subL (G (k5)) (0) (n5)))) = true ∧
    u8s (subL ((bytesL (nformU [.int .u64 (((n5 : Nat) : Int))])) ++ (subL (G (k5)) (0) (n5))) (0) (List.length (nformU [.int .u64 (((n5 : Nat) : Int))]) + n5)) = true ∧
    ((((strL (subL ((bytesL (nformU [.int .u64 (((n5 : Nat) : Int))])) ++ (subL ((subL (G (k5)) (0) (n5)) ++ ([.int .u8 (119)] : List AV)) (0) (n5))) (0) (List.length (nformU [.int .u64 (((n5 : Nat) : Int))]) + n5))) : List UInt8) == (strL (subL ((bytesL (nformU [.int .u64 (((n5 : Nat) : Int))])) ++ (subL (G (k5)) (0) (n5))) (0) (List.length (nformU [.int .u64 (((n5 : Nat) : Int))]) + n5)))) = true →
      leB (List.length (nformU [.int .u64 (n)])) (List.length (nformU [.int .u64 (n)])) = true ∧
      u8s (subL (bytesL (nformU [.int .u64 (n)])) (0) (List.length (nformU [.int .u64 (n)]))) = true ∧
      inU64 [.int .u64 (n)] = true ∧
      leB (List.length (nformU [.int .u64 (n)])) (List.length (nformU [.int .u64 (n)])) = true ∧
      u8s (subL (bytesL (nformU [.int .u64 (n)])) (0) (List.length (nformU [.int .u64 (n)]))) = true ∧
      (((strL (subL (bytesL (nformU [.int .u64 (n)])) (0) (List.length (nformU [.int .u64 (n)])))) : List UInt8) == (strL (subL (bytesL (nformU [.int .u64 (n)])) (0) (List.length (nformU [.int .u64 (n)]))))) = true ∧
      inI64 [.int .i64 (m)] = true ∧
      leB (List.length (nformU [.int .u64 (foldU [.int .i64 (m)])])) (List.length (nformU [.int .u64 (foldU [.int .i64 (m)])])) = true ∧
      u8s (subL (bytesL (nformU [.int .u64 (foldU [.int .i64 (m)])])) (0) (List.length (nformU [.int .u64 (foldU [.int .i64 (m)])]))) = true ∧
      inI64 [.int .i64 (m)] = true ∧
      leB (List.length (nformU [.int .u64 (foldU [.int .i64 (m)])])) (List.length (nformU [.int .u64 (foldU [.int .i64 (m)])])) = true ∧
      u8s (subL (bytesL (nformU [.int .u64 (foldU [.int .i64 (m)])])) (0) (List.length (nformU [.int .u64 (foldU [.int .i64 (m)])]))) = true ∧
      (((strL (subL (bytesL (nformU [.int .u64 (foldU [.int .i64 (m)])])) (0) (List.length (nformU [.int .u64 (foldU [.int .i64 (m)])])))) : List UInt8) == (strL (subL (bytesL (nformU [.int .u64 (foldU [.int .i64 (m)])])) (0) (List.length (nformU [.int .u64 (foldU [.int .i64 (m)])]))))) = true ∧
      u8s ([.int .u8 (flagI [.bool (b)])] : List AV) = true ∧
      u8s ([.int .u8 (flagI [.bool (b)])] : List AV) = true ∧
      (((strL ([.int .u8 (flagI [.bool (b)])] : List AV)) : List UInt8) == (strL ([.int .u8 (flagI [.bool (b)])] : List AV))) = true ∧
      leB (List.length ((joinU G) [.ptr (.ro (k)) (n7)])) (List.length ((joinU G) [.ptr (.ro (k)) (n7)])) = true ∧
      u8s (subL ((joinU G) [.ptr (.ro (k)) (n7)]) (0) (List.length ((joinU G) [.ptr (.ro (k)) (n7)]))) = true ∧
      leB (List.length ((joinU G) [.ptr (.ro (k)) (n7)])) (List.length ((joinU G) [.ptr (.ro (k)) (n7)])) = true ∧
      u8s (subL ((joinU G) [.ptr (.ro (k)) (n7)]) (0) (List.length ((joinU G) [.ptr (.ro (k)) (n7)]))) = true ∧
      (((strL (subL ((joinU G) [.ptr (.ro (k)) (n7)]) (0) (List.length ((joinU G) [.ptr (.ro (k)) (n7)])))) : List UInt8) == (strL (subL ((joinU G) [.ptr (.ro (k)) (n7)]) (0) (List.length ((joinU G) [.ptr (.ro (k)) (n7)]))))) = true ∧
      u8s ((bytesL (nformU [.int .u64 (((n5 : Nat) : Int))])) ++ (subL ((subL (G (k5)) (0) (n5)) ++ ([.int .u8 (119)] : List AV)) (0) (n5))) = true ∧
      Nat.beq (List.length ((bytesL (nformU [.int .u64 (((n5 : Nat) : Int))])) ++ (subL ((subL (G (k5)) (0) (n5)) ++ ([.int .u8 (119)] : List AV)) (0) (n5)))) (List.length (nformU [.int .u64 (((n5 : Nat) : Int))]) + n5) = true ∧
      leB (List.length (nformU [.int .u64 (((n5 : Nat) : Int))]) + n5) (1099511627776) = true ∧
      u8s (bytesL (nformU [.int .u64 (n)])) = true ∧
      Nat.beq (List.length (bytesL (nformU [.int .u64 (n)]))) (List.length (nformU [.int .u64 (n)])) = true ∧
      leB (List.length (nformU [.int .u64 (n)])) (1099511627776) = true ∧
      u8s ((joinU G) [.ptr (.ro (k)) (n7)]) = true ∧
      Nat.beq (List.length ((joinU G) [.ptr (.ro (k)) (n7)])) (List.length ((joinU G) [.ptr (.ro (k)) (n7)])) = true ∧
      leB (List.length ((joinU G) [.ptr (.ro (k)) (n7)])) (1099511627776) = true ∧
      (okJU G) [.ptr (.ro (k)) (n7)] = true ∧
      (isJU G) [.agg ((joinU G) [.ptr (.ro (k)) (n7)]), .ptr (.rw 0) (List.length ((joinU G) [.ptr (.ro (k)) (n7)])), .ptr (.ro (k)) (n7)] = true ∧
      u8s ([.int .u8 (119)] : List AV) = true ∧
      u8s ((subL (G (k5)) (0) (n5)) ++ ([.int .u8 (119)] : List AV)) = true ∧
      u8s ((bytesL (nformU [.int .u64 (((n5 : Nat) : Int))])) ++ (subL ((subL (G (k5)) (0) (n5)) ++ ([.int .u8 (119)] : List AV)) (0) (n5))) = true ∧
      u8s (bytesL (nformU [.int .u64 (n)])) = true ∧
      leB (List.length (nformU [.int .u64 (((n5 : Nat) : Int))]) + n5) (List.length ((bytesL (nformU [.int .u64 (((n5 : Nat) : Int))])) ++ (subL ((subL (G (k5)) (0) (n5)) ++ ([.int .u8 (119)] : List AV)) (0) (n5)))) = true ∧
      u8s (subL ((bytesL (nformU [.int .u64 (((n5 : Nat) : Int))])) ++ (subL ((subL (G (k5)) (0) (n5)) ++ ([.int .u8 (119)] : List AV)) (0) (n5))) (0) (List.length (nformU [.int .u64 (((n5 : Nat) : Int))]) + n5)) = true ∧
      leB (n5) (1099511627776) = true ∧
      leB (0 + n5) (List.length (G (k5))) = true ∧
      u8s (G (k5)) = true ∧
      u8s (subL (G (k5)) (0) (n5)) = true ∧
      leB (List.length (nformU [.int .u64 (((n5 : Nat) : Int))]) + n5) (List.length ((bytesL (nformU [.int .u64 (((n5 : Nat) : Int))])) ++ (subL (G (k5)) (0) (n5)))) = true ∧
      u8s (subL ((bytesL (nformU [.int .u64 (((n5 : Nat) : Int))])) ++ (subL (G (k5)) (0) (n5))) (0) (List.length (nformU [.int .u64 (((n5 : Nat) : Int))]) + n5)) = true ∧
      (((strL (subL ((bytesL (nformU [.int .u64 (((n5 : Nat) : Int))])) ++ (subL ((subL (G (k5)) (0) (n5)) ++ ([.int .u8 (119)] : List AV)) (0) (n5))) (0) (List.length (nformU [.int .u64 (((n5 : Nat) : Int))]) + n5))) : List UInt8) == (strL (subL ((bytesL (nformU [.int .u64 (((n5 : Nat) : Int))])) ++ (subL (G (k5)) (0) (n5))) (0) (List.length (nformU [.int .u64 (((n5 : Nat) : Int))]) + n5)))) = true ∧
      leB (List.length (nformU [.int .u64 (n)])) (List.length (nformU [.int .u64 (n)])) = true ∧
      u8s (subL (bytesL (nformU [.int .u64 (n)])) (0) (List.length (nformU [.int .u64 (n)]))) = true ∧
      inU64 [.int .u64 (n)] = true ∧
      leB (List.length (nformU [.int .u64 (n)])) (List.length (nformU [.int .u64 (n)])) = true ∧
      u8s (subL (bytesL (nformU [.int .u64 (n)])) (0) (List.length (nformU [.int .u64 (n)]))) = true ∧
      (((strL (subL (bytesL (nformU [.int .u64 (n)])) (0) (List.length (nformU [.int .u64 (n)])))) : List UInt8) == (strL (subL (bytesL (nformU [.int .u64 (n)])) (0) (List.length (nformU [.int .u64 (n)]))))) = true ∧
      leB (n5 + 1) (List.length ((subL (G (k5)) (0) (n5)) ++ ([.int .u8 (119)] : List AV))) = true ∧
      u8s (subL ((subL (G (k5)) (0) (n5)) ++ ([.int .u8 (119)] : List AV)) (0) (n5 + 1)) = true ∧
      leB (n5) (List.length (G (k5))) = true ∧
      u8s (subL (G (k5)) (0) (n5)) = true ∧
      leB (List.length (strL (subL (G (k5)) (0) (n5))) + 1) (9223372036854775807) = true ∧
      ((((strL (subL ((subL (G (k5)) (0) (n5)) ++ ([.int .u8 (119)] : List AV)) (0) (n5 + 1))) : List UInt8) == ((strL (subL (G (k5)) (0) (n5))) ++ ([119] : List UInt8))) = true →
        R (.bool (true)) []) ∧
      ((((strL (subL ((subL (G (k5)) (0) (n5)) ++ ([.int .u8 (119)] : List AV)) (0) (n5 + 1))) : List UInt8) == ((strL (subL (G (k5)) (0) (n5))) ++ ([119] : List UInt8))) = false →
        R (.bool (false)) [])) ∧
    ((((strL (subL ((bytesL (nformU [.int .u64 (((n5 : Nat) : Int))])) ++ (subL ((subL (G (k5)) (0) (n5)) ++ ([.int .u8 (119)] : List AV)) (0) (n5))) (0) (List.length (nformU [.int .u64 (((n5 : Nat) : Int))]) + n5))) : List UInt8) == (strL (subL ((bytesL (nformU [.int .u64 (((n5 : Nat) : Int))])) ++ (subL (G (k5)) (0) (n5))) (0) (List.length (nformU [.int .u64 (((n5 : Nat) : Int))]) + n5)))) = false →
      R (.bool (false)) [])) := by kernel_rfl
theorem subL_all {l : List AV} {n : Nat} (h : l.length = n) : subL l 0 n = l := by simp [subL, ← h]
theorem subL_front {a b : List AV} {n : Nat} (h : a.length = n) : subL (a ++ b) 0 n = a := by simp [subL, ← h]
theorem u8s_bytes : ∀ (a : List UInt8), u8s (bytesL a) = true
  | [] => rfl
  | x :: a => by
    have := u8s_bytes a
    simp only [bytesL, List.map_cons, u8s, List.all_cons, Bool.and_eq_true] at this ⊢
    exact ⟨rfl, this⟩
theorem u8s_one : u8s ([.int .u8 119] : List AV) = true := rfl
theorem u8s_flag (b : Bool) : u8s ([.int .u8 (flagI [.bool b])] : List AV) = true := by cases b <;> rfl
theorem strL_app (a b : List AV) : strL (a ++ b) = strL a ++ strL b := by simp [strL]
theorem ww_call (G : Nat → List AV) (B : Nat) (n m : Int) (b : Bool) (k5 n5 k n7 : Nat) (hn : inU64 [.int .u64 n] = true) (hm : inI64 [.int .i64 m] = true) (hl : (G k5).length = n5) (hu : u8s (G k5) = true) (h5 : n5 ≤ 1048576) (hp : Pieces G k n7) :
    ACalls (⟨Try.prog, G, B⟩ : Ctx) 3 [.agg [.int .u64 n, .int .i64 m, .bool b, .slice true (.ro k5) 0 n5], .slice true (.ro k) 0 n7] [] fun v _ => v = .bool true := by
  have key := dlaw_ok (C := (⟨Try.prog, G, B⟩ : Ctx)) (f := 3) (R := fun v _ => v = .bool true) (dgW3 G B) (by kernel_rfl) (by kernel_rfl) (by kernel_rfl) (fuel := 400) (n0 := 30) (args := [.agg (.of [.int .u64 (.var 1 n), .int .i64 (.var 2 m), .bool (.var 3 b), .slice true (.ro (.var 4 k5)) (.lit 0) (.var 5 n5)]), .slice true (.ro (.var 6 k)) (.lit 0) (.var 7 n7)]) (H := []) (by
    rw [ww_run]
    have hj : joinU G [.ptr (.ro k) n7] = catL G k n7 := rfl
    have hju := hp.u8c n7 (Nat.le_refl _)
    have hjt := hp.tot
    have hok : okJU G [.ptr (.ro k) n7] = true := okJ_iff.2 hp
    have hf := nformU_len [.int .u64 (n5 : Int)]
    have hf2 := nformU_len [.int .u64 n]
    have e1 : subL (G k5) 0 n5 = G k5 := subL_all hl
    have e2 : subL (G k5 ++ ([.int .u8 119] : List AV)) 0 n5 = G k5 := subL_front hl
    have e3 : subL (bytesL (nformU [.int .u64 (n5 : Int)]) ++ G k5) 0 ((nformU [.int .u64 (n5 : Int)]).length + n5) = bytesL (nformU [.int .u64 (n5 : Int)]) ++ G k5 := subL_all (by simp [bytesL_length, hl])
    have e4 : subL (bytesL (nformU [.int .u64 n])) 0 (nformU [.int .u64 n]).length = bytesL (nformU [.int .u64 n]) := subL_all (bytesL_length _)
    have e5 : ∀ z, subL (bytesL (nformU [.int .u64 z])) 0 (nformU [.int .u64 z]).length = bytesL (nformU [.int .u64 z]) := fun z => subL_all (bytesL_length _)
    have e6 : subL (catL G k n7) 0 (catL G k n7).length = catL G k n7 := subL_all rfl
    have e7 : subL (G k5 ++ ([.int .u8 119] : List AV)) 0 (n5 + 1) = G k5 ++ ([.int .u8 119] : List AV) := subL_all (by simp [hl])
    have e8 : strL (G k5 ++ ([.int .u8 119] : List AV)) = strL (G k5) ++ ([119] : List UInt8) := strL_app _ _
    have ej : isJU G [.agg (catL G k n7), .ptr (.rw 0) (catL G k n7).length, .ptr (.ro k) n7] = true := isJ_of hp
    have ec : cellsB (G k5) = true := u8s_cells hu
    have elen : (bytesL (nformU [.int .u64 (n5 : Int)])).length = (nformU [.int .u64 (n5 : Int)]).length := bytesL_length _
    have elen2 : (bytesL (nformU [.int .u64 n])).length = (nformU [.int .u64 n]).length := bytesL_length _
    have es : (strL (G k5)).length = n5 := by simp [strL, hl]
    simp only [hj, e1, e2, e3, e5, e6, e7, e8, ej, ec, hok, hn, hm, hu, hju, beq_self_eq_true, u8s_append, u8s_bytes, u8s_one, u8s_flag, Bool.and_self, List.length_append, elen, elen2, hl, es, Nat.beq_refl, List.length_cons, List.length_nil, true_and, and_true, leB_iff, decide_eq_true_eq]
    repeat' first | refine And.intro ?_ ?_ | intro _
    all_goals first
      | omega
      | trivial
      | (simp_all; done))
  simp only [vVs, vV, vR, vN, vI, vL, vB, vHp, List.map_nil] at key
  exact key
end Go.Am
