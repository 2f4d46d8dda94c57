/-
  WireLists: Put and Take of pairs, told.
-/
import Derived.Test.YtcodkoholbmkkaaWrL
namespace Go.Am
open Go.Proofs
set_option maxRecDepth 100000
def cellN : AV → Nat
  | .int _ n => n.toNat
  | _ => 0
def u64c : AV → Bool
  | .int .u64 n => decide (0 ≤ n) && decide (n ≤ 18446744073709551615)
  | _ => false
theorem cells_u64 : ∀ {l : List AV}, l.all u64c = true → l = u64L (l.map cellN) ∧ allU (l.map cellN)
  | [], _ => ⟨rfl, fun p hp => by simp at hp⟩
  | x :: l, h => by
    simp only [List.all_cons, Bool.and_eq_true] at h
    obtain ⟨g1, g2⟩ := cells_u64 h.2
    have hx := h.1
    unfold u64c at hx
    split at hx
    · rename_i n
      simp only [Bool.and_eq_true, decide_eq_true_eq] at hx
      have e : u64L ((AV.int .u64 n :: l).map cellN) = .int .u64 ((n.toNat : Nat) : Int) :: u64L (l.map cellN) := rfl
      refine ⟨by rw [e, ← g1, show ((n.toNat : Nat) : Int) = n by omega], fun p hp => ?_⟩
      simp only [List.map_cons, List.mem_cons] at hp
      rcases hp with rfl | hp
      · simp only [cellN]; omega
      · exact g2 p hp
    · simp at hx
theorem u64L_cell (ps : List Nat) : (u64L ps).map cellN = ps := by
  simp only [u64L, List.map_map]
  conv => rhs; rw [← List.map_id ps]
  exact List.map_congr_left fun x _ => by simp [cellN]
theorem u64L_c {ps : List Nat} (h : allU ps) : (u64L ps).all u64c = true := by
  simp only [u64L, List.all_map, List.all_eq_true]
  intro p hp
  have := h p hp
  simp [u64c]; omega
def okPU (xs : List AV) : Bool := match xs with
  | [.agg l, .ptr _ m] => l.all u64c && leB (m * 2) l.length
  | _ => false
def fcatU (xs : List AV) : List UInt8 := match xs with
  | [.agg l, .ptr _ m] => fcat ((l.map cellN).take (m * 2))
  | _ => []
def pL27 : DL := ⟨0, 28, [1, 6, 15, 16, 17], fun vs H => match vs, H with
  | [.func 28 [], .slice false (.rw 1) (.lit 0) ls, .slice true (.rw 0) (.lit 0) m, .int .i64 (.ofN m'), .int .i64 (.lit 0)], [some ⟨2, l⟩, some ⟨1, .bytes s⟩] =>
    some (.chk (.uf 1145 okPU [.agg l, .ptr (.rw 0) m]) <| .chk (.leN m (.lit 1099511627776)) <| .chk (.eqN m m') <| .chk (.eqN ls (.slen s)) <| .chk (.leN (.slen s) (.lit 10)) <|
      .one (.exit 0) [.undef, .slice false (.rw 1) (.lit 0) (.slen (.app s (.uf 1144 fcatU [.agg l, .ptr (.rw 0) m]))), .undef, .undef, .undef] [some ⟨2, l⟩, some ⟨1, .bytes (.app s (.uf 1144 fcatU [.agg l, .ptr (.rw 0) m]))⟩])
  | _, _ => none⟩
theorem pL27_ok (G : Nat → List AV) (B : Nat) : DLoopOk (⟨Try.prog, G, B⟩ : Ctx) 1 (loopN Try.f27 0) pL27 := by
  refine .of fun vs H o ho nn Q hQ => ?_
  simp only [pL27] at ho
  split at ho
  · rename_i ls m m' l s
    simp only [Option.some.injEq] at ho
    subst ho
    obtain ⟨h1, h2, h3, h4, h5, hh⟩ := hQ
    simp only [vB, vVs, vV, vR, vN, vL, okPU, Bool.and_eq_true, leB_iff] at h1 h2 h3 h4 h5
    have e3 := Nat.eq_of_beq_eq_true h3
    have e4 := Nat.eq_of_beq_eq_true h4
    obtain ⟨g1, g2⟩ := cells_u64 h1.1
    have gl : ((vL G l).map cellN).length = (vL G l).length := by simp
    refine lone ?_ hh
    simp only [pL27, vVs, vV, vR, vN, vI, vL, vS, vHp, List.map_cons, List.map_nil, Option.map_some, vBlk, fcatU]
    rw [← e3, e4]
    have key := nl27 G B ((vL G l).map cellN) (vN G m) (vS G s) (by omega) g2 h2 h5
    rw [← g1] at key
    exact key
  · simp at ho
theorem dgP27 (G : Nat → List AV) (B : Nat) : DGood (⟨Try.prog, G, B⟩ : Ctx) (Dc Try.prog [28] progL [pL27] 1) (loopsOf (bodyOf Try.f27)) := dgood (mix G B) (by kernel_rfl) (progL_ok G B) (.cast (.cons (i := 0) (by kernel_rfl) rfl (pL27_ok G B) .nil) (by kernel_rfl))
theorem t27 (G : Nat → List AV) (l : List AV) (m : Nat) (Q : Ex → List AV → Hp → Prop) (R : AV → Hp → Prop) : vT G Q R (dcall (Dc Try.prog [28] progL [pL27] 1) 300 30 Try.f27 [.slice true (.rw 0) (.lit 0) (.var 1 m), .func 28 []] [some ⟨2, .var 5 l⟩] 2) = (
    inU64 [.int .u64 (IntKind.wrap .u64 (((m : Nat) : Int)))] = true ∧
    okPU [.agg l, .ptr (.rw 0) (m)] = true ∧
    leB (m) (1099511627776) = true ∧
    Nat.beq (m) (m) = true ∧
    Nat.beq (List.length (nformU [.int .u64 (IntKind.wrap .u64 (((m : Nat) : Int)))])) (List.length (nformU [.int .u64 (IntKind.wrap .u64 (((m : Nat) : Int)))])) = true ∧
    leB (List.length (nformU [.int .u64 (IntKind.wrap .u64 (((m : Nat) : Int)))])) (10) = true ∧
    R (.tup [.slice false (.rw 1) (0) (List.length ((nformU [.int .u64 (IntKind.wrap .u64 (((m : Nat) : Int)))]) ++ (fcatU [.agg l, .ptr (.rw 0) (m)]))), .int .i64 (0)]) [some ⟨2, l⟩, some ⟨1, (bytesL ((nformU [.int .u64 (IntKind.wrap .u64 (((m : Nat) : Int)))]) ++ (fcatU [.agg l, .ptr (.rw 0) (m)])))⟩]) := by kernel_rfl
def tL29 : DL := ⟨0, 59, [0, 2, 6, 7, 8, 9, 10, 11, 12], fun vs H => match vs, H with
  | [.ptr (.rw 0) (.lit 0), .func 30 [], .nils, .int .i64 (.lit 0), .int .i64 b, .int .i64 v, .int .i64 e, .slice false (.rw 2) (.lit 0) (.lit 0), .int .i64 (.lit 0)], [some ⟨1, .of [.slice false (.rw 1) (.lit 0) n, .int .i64 a]⟩, some ⟨1, l⟩, some ⟨2, .of []⟩] =>
    some (.tst (.cmp .eql e (.lit 0))
      (.chk (.uf 1120 okRdU [.agg l, .ptr (.rw 0) n, .int .i64 a]) <| .chk (.leN n (.lit 1099511627776)) <| .chk (.cmp .leq (.lit 0) v) <| .chk (.cmp .leq v (.lit 4611686018427387903)) <| .tst (.uf 1133 nrOkU [.agg l, .int .i64 a, .int .i64 (.bin .mul .i64 v (.lit 2))])
        (.one (.exit 0) [.ptr (.rw 0) (.lit 0), .undef, .nils, .int .i64 (.lit 0), .int .i64 b, .undef, .int .i64 (.lit 0), .slice false (.rw 2) (.lit 0) (.toN v), .undef] [some ⟨1, .of [.slice false (.rw 1) (.lit 0) n, .int .i64 (.uf 1135 nrAU [.agg l, .int .i64 a, .int .i64 (.bin .mul .i64 v (.lit 2))])]⟩, some ⟨1, l⟩, some ⟨2, .uf 1134 nrLU [.agg l, .int .i64 a, .int .i64 (.bin .mul .i64 v (.lit 2))]⟩])
        (.allL fun x => .allI fun a2 => .one (.exit 0) [.ptr (.rw 0) (.lit 0), .undef, .nils, .int .i64 (.lit 0), .int .i64 b, .undef, .int .i64 (.lit 4), .undef, .undef] [some ⟨1, .of [.slice false (.rw 1) (.lit 0) n, .int .i64 a2]⟩, some ⟨1, l⟩, some ⟨2, x⟩]))
      (.one (.exit 0) [.ptr (.rw 0) (.lit 0), .undef, .nils, .int .i64 (.lit 0), .int .i64 b, .undef, .int .i64 e, .undef, .undef] [some ⟨1, .of [.slice false (.rw 1) (.lit 0) n, .int .i64 a]⟩, some ⟨1, l⟩, some ⟨2, .of []⟩]))
  | _, _ => none⟩
theorem nl29x (G : Nat → List AV) (B : Nat) (s : List AV) (n : Nat) (a b v e : Int) (he : e ≠ 0) :
    AWp (⟨Try.prog, G, B⟩ : Ctx) 2 (.loop (loopN Try.f29 0)) (fl 59 [0, 2, 6, 7, 8, 9, 10, 11, 12] [.ptr (.rw 0) 0, .func 30 [], .nils, .int .i64 0, .int .i64 b, .int .i64 v, .int .i64 e, .slice false (.rw 2) 0 0, .int .i64 0]) [some ⟨1, [.slice false (.rw 1) 0 n, .int .i64 a]⟩, some ⟨1, s⟩, some ⟨2, []⟩]
      (lv 59 [0, 2, 6, 7, 8, 9, 10, 11, 12] fun ex vs H => ex = .exit 0 ∧ wk [.ptr (.rw 0) 0, .undef, .nils, .int .i64 0, .int .i64 b, .undef, .int .i64 e, .undef, .undef] vs ∧ H = [some ⟨1, [.slice false (.rw 1) 0 n, .int .i64 a]⟩, some ⟨1, s⟩, some ⟨2, []⟩]) := by
  refine aloop_lv (fun j vs H => vs = [.ptr (.rw 0) 0, .func 30 [], .nils, .int .i64 0, .int .i64 b, .int .i64 v, .int .i64 e, .slice false (.rw 2) 0 0, .int .i64 0] ∧ H = [some ⟨1, [.slice false (.rw 1) 0 n, .int .i64 a]⟩, some ⟨1, s⟩, some ⟨2, []⟩]) 0 ⟨rfl, rfl⟩ ?_
  rintro j vs H ⟨rfl, rfl⟩
  refine dloop_ok (C := (⟨Try.prog, G, B⟩ : Ctx)) (dgL2 G B) (fuel := 300) (n0 := 20) (m := 2) (c := loopN Try.f29 0) (vs := [.ptr (.rw 0) (.lit 0), .func 30 [], .nils, .int .i64 (.lit 0), .int .i64 (.var 1 b), .int .i64 (.var 2 v), .int .i64 (.var 3 e), .slice false (.rw 2) (.lit 0) (.var 7 0), .int .i64 (.var 8 0)])
    (H := [some ⟨1, .of [.slice false (.rw 1) (.lit 0) (.var 4 n), .int .i64 (.var 5 a)]⟩, some ⟨1, .var 6 s⟩, some ⟨2, .var 9 []⟩]) (by simp) ?_
  rw [rb29]
  exact ⟨fun h => absurd (eq_of_beq h) he, fun _ => ⟨rfl, by simp [wk], rfl⟩⟩
theorem tL29_ok (G : Nat → List AV) (B : Nat) : DLoopOk (⟨Try.prog, G, B⟩ : Ctx) 2 (loopN Try.f29 0) tL29 := by
  refine .of fun vs H o ho nn Q hQ => ?_
  simp only [tL29] at ho
  split at ho
  · rename_i b v e n a l
    simp only [Option.some.injEq] at ho
    subst ho
    obtain ⟨h0, h9⟩ := hQ
    simp only [vB, vVs, vV, vR, vN, vI, cmpI] at h0 h9
    simp only [tL29, vVs, vV, vR, vN, vI, vL, vHp, List.map_cons, List.map_nil, Option.map_some, vBlk]
    by_cases he : vI G e = 0
    · obtain ⟨h1, h2, h3, h4, h5, h6⟩ := h0 (by rw [he]; rfl)
      simp only [vB, vVs, vV, vR, vN, vI, cmpI, decide_eq_true_eq, binI] at h1 h2 h3 h4 h5 h6
      have ok := okRd_iff.1 h1
      have h2 := leB_iff.1 h2
      have h3 := of_decide_eq_true h3
      have h4 := of_decide_eq_true h4
      have w2 : IntKind.wrap .i64 (vI G v * 2) = vI G v * 2 := i64_in (by omega)
      rw [w2] at h5 h6
      have t2 : (vI G v * 2).toNat = (vI G v).toNat * 2 := by omega
      have key := nl29 G B (vL G l) (vN G n) (vI G a).toNat (vI G v).toNat (vI G b) ok.b ok.len h2 ok.le (by omega)
      simp only [rdBlk] at key
      rw [← ok.pos, show (((vI G v).toNat : Nat) : Int) = vI G v by omega] at key
      rw [he]
      refine key.lmono ?_
      rintro ex vs'' H'' ⟨rfl, ⟨xs, a', g1, g2, rfl⟩ | ⟨g1, xs, a', g2, rfl⟩⟩
      · have := h5 (by simp [nrOkU, t2, g1])
        refine .inl ⟨_, g2, ?_⟩
        simp only [lHolds, vVs, vV, vR, vN, vI, vB, vL, vHp, List.map_cons, List.map_nil, Option.map_some, vBlk, nrLU, nrAU, binI, w2, t2, g1] at this
        exact this
      · have := h6 (by simp [nrOkU, t2, g1]) (u64L xs) (a' : Int)
        refine .inl ⟨_, g2, ?_⟩
        simp only [lHolds, vVs, vV, vR, vN, vI, vB, vL, vHp, List.map_cons, List.map_nil, Option.map_some, vBlk] at this
        exact this
    · have h9 := h9 (by simp [he])
      refine (nl29x G B (vL G l) (vN G n) (vI G a) (vI G b) (vI G v) (vI G e) he).lmono ?_
      rintro ex vs'' H'' ⟨rfl, g2, rfl⟩
      refine .inl ⟨_, g2, ?_⟩
      simp only [lHolds, vVs, vV, vR, vN, vI, vB, vL, vHp, List.map_cons, List.map_nil, Option.map_some, vBlk] at h9
      exact h9
  · simp at ho
theorem dgF29 (G : Nat → List AV) (B : Nat) : DGood (⟨Try.prog, G, B⟩ : Ctx) (Dc Try.prog [38, 39, 30] progL [tL29] 2) (loopsOf (bodyOf Try.f29)) := dgood (mix G B) (by kernel_rfl) (progL_ok G B) (.cast (.cons (i := 0) (by kernel_rfl) rfl (tL29_ok G B) .nil) (by kernel_rfl))
theorem t29 (G : Nat → List AV) (s : List AV) (n : Nat) (a m : Int) (Q : Ex → List AV → Hp → Prop) (R : AV → Hp → Prop) : vT G Q R (dcall (Dc Try.prog [38, 39, 30] progL [tL29] 2) 300 20 Try.f29 [.ptr (.rw 0) (.lit 0), .int .i64 (.var 7 m), .func 30 []] [some ⟨1, .of [.slice false (.rw 1) (.lit 0) (.var 4 n), .int .i64 (.var 5 a)]⟩, some ⟨1, .var 6 s⟩] 3) = (
    (decide ((m : Int) < 0) = true →
      (!(((2 : Int) == 0))) = true ∧
      R (.tup [.nils, .int .i64 (2)]) [some ⟨1, ([.slice false (.rw 1) (0) (n), .int .i64 (a)] : List AV)⟩, some ⟨1, s⟩, some ⟨2, ([] : List AV)⟩]) ∧
    (decide ((m : Int) < 0) = false →
      okRdU [.agg s, .ptr (.rw 0) (n), .int .i64 (a)] = true ∧
      (((rdEU [.agg s, .int .i64 (a)] : Int) == 0) = true →
        (decide ((rdVU [.agg s, .int .i64 (a)] : Int) > IntKind.wrap .u64 (m)) = true →
          (!(((3 : Int) == 0))) = true ∧
          R (.tup [.nils, .int .i64 (3)]) [some ⟨1, ([.slice false (.rw 1) (0) (n), .int .i64 (a)] : List AV)⟩, some ⟨1, s⟩, some ⟨2, ([] : List AV)⟩]) ∧
        (decide ((rdVU [.agg s, .int .i64 (a)] : Int) > IntKind.wrap .u64 (m)) = false →
          ((rdEU [.agg s, .int .i64 (a)] : Int) == 0) = true ∧
          ((0 : Int) == 0) = true ∧
          okRdU [.agg s, .ptr (.rw 0) (n), .int .i64 (rdAU [.agg s, .int .i64 (a)])] = true ∧
          leB (n) (1099511627776) = true ∧
          decide ((0 : Int) ≤ IntKind.wrap .i64 (rdVU [.agg s, .int .i64 (a)])) = true ∧
          decide ((IntKind.wrap .i64 (rdVU [.agg s, .int .i64 (a)]) : Int) ≤ 4611686018427387903) = true ∧
          (nrOkU [.agg s, .int .i64 (rdAU [.agg s, .int .i64 (a)]), .int .i64 (IntKind.wrap .i64 (IntKind.wrap .i64 (rdVU [.agg s, .int .i64 (a)]) * 2))] = true →
            R (.tup [.slice false (.rw 2) (0) (Int.toNat (IntKind.wrap .i64 (rdVU [.agg s, .int .i64 (a)]))), .int .i64 (0)]) [some ⟨1, ([.slice false (.rw 1) (0) (n), .int .i64 (nrAU [.agg s, .int .i64 (rdAU [.agg s, .int .i64 (a)]), .int .i64 (IntKind.wrap .i64 (IntKind.wrap .i64 (rdVU [.agg s, .int .i64 (a)]) * 2))])] : List AV)⟩, some ⟨1, s⟩, some ⟨2, (nrLU [.agg s, .int .i64 (rdAU [.agg s, .int .i64 (a)]), .int .i64 (IntKind.wrap .i64 (IntKind.wrap .i64 (rdVU [.agg s, .int .i64 (a)]) * 2))])⟩]) ∧
          (nrOkU [.agg s, .int .i64 (rdAU [.agg s, .int .i64 (a)]), .int .i64 (IntKind.wrap .i64 (IntKind.wrap .i64 (rdVU [.agg s, .int .i64 (a)]) * 2))] = false →
            (∀ l20 : List AV,
            (∀ i21 : Int,
            R (.tup [.nils, .int .i64 (4)]) [some ⟨1, ([.slice false (.rw 1) (0) (n), .int .i64 (a)] : List AV)⟩, some ⟨1, s⟩, some ⟨2, l20⟩]))))) ∧
      (((rdEU [.agg s, .int .i64 (a)] : Int) == 0) = false →
        (!(((rdEU [.agg s, .int .i64 (a)] : Int) == 0))) = true ∧
        (!(((rdEU [.agg s, .int .i64 (a)] : Int) == 0))) = true ∧
        (!(((rdEU [.agg s, .int .i64 (a)] : Int) == 0))) = true ∧
        R (.tup [.nils, .int .i64 (rdEU [.agg s, .int .i64 (a)])]) [some ⟨1, ([.slice false (.rw 1) (0) (n), .int .i64 (a)] : List AV)⟩, some ⟨1, s⟩, some ⟨2, ([] : List AV)⟩]))) := by kernel_rfl
end Go.Am
