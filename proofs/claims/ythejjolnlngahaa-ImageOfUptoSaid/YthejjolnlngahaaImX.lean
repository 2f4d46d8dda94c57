/-
  Images: the document's Same of two images of one section in the heap.
-/
import Derived.Test.YthejjolnlngahaaImW
namespace Go.Am
open Go.Proofs
set_option maxRecDepth 100000
theorem rdX {C : Ctx} {H : DHp} {x : EV} {L : EL} {n : EN} (d : Nat) (h : rdT H x = some (L, n)) : ∃ (X : AV) (r : Ref), datY d (vN C.G n) X ∧ norw X = true ∧ (∀ σ : Sig, σ d = (r, 0) → sb σ 0 X = vV C.G x) ∧ (vL C.G L = [] ∨ cellsAt C (vHp C.G H) r = some (vL C.G L)) := by
  have h0 := h
  unfold rdT at h
  split at h
  · simp only [Option.some.injEq, Prod.mk.injEq] at h; obtain ⟨rfl, rfl⟩ := h
    exact ⟨.nils, .ro 0, .inr ⟨rfl, rfl⟩, rfl, fun σ hσ => by simp only [sb, vV], .inl (by simp only [vL, vVs])⟩
  · simp only [Option.some.injEq, Prod.mk.injEq] at h; obtain ⟨rfl, rfl⟩ := h
    rename_i mb k n'
    exact ⟨.slice mb (.ro d) 0 (vN C.G n'), .ro (vN C.G k), .inl ⟨mb, rfl⟩, rfl, fun σ hσ => by simp only [sb, hσ, vV, vR, vN, Nat.add_zero], .inr (by simp only [cellsAt, vL])⟩
  · rename_i mb i n'
    split at h
    · rename_i b hb
      split at h
      · simp at h
      · rename_i hr
        simp only [Option.some.injEq, Prod.mk.injEq] at h; obtain ⟨rfl, rfl⟩ := h
        refine ⟨.slice mb (.ro d) 0 (vN C.G n'), .rw i, .inl ⟨mb, rfl⟩, rfl, fun σ hσ => by simp only [sb, hσ, vV, vR, vN, Nat.add_zero], .inr ?_⟩
        have hr : isRec (vBlk C.G b) = false := hr
        simp only [cellsAt, vHp_some hb]
        rw [hr]; rfl
    · simp at h
  · simp at h
/-- the two images, as they are looked at -/
def g6 (c0 p0 d0 c1 p1 d1 : List AV) : Nat → List AV := fun k => match k with
  | 0 => c0
  | 1 => p0
  | 2 => d0
  | 3 => c1
  | 4 => p1
  | 5 => d1
  | _ => []
def s6 (a b c d e f : Ref) : Sig := fun k => match k with
  | 0 => (a, 0)
  | 1 => (b, 0)
  | 2 => (c, 0)
  | 3 => (d, 0)
  | 4 => (e, 0)
  | _ => (f, 0)
theorem see_flat {C : Ctx} {H : Hp} {r : Ref} {l : List AV} (σ : Sig) (hl : l = [] ∨ cellsAt C H r = some l) (hf : bnds 0 l = true ∧ noros l = true) : l = [] ∨ ∃ cs, cellsAt C H r = some cs ∧ ∀ (j : Nat) v, l[j]? = some v → norw v = true ∧ cs[0 + j]? = some (sb σ 0 v) := by
  rcases hl with h | h
  · exact .inl h
  · refine .inr ⟨_, h, fun j v hj => ?_⟩
    obtain ⟨g1, g2⟩ := flatN hf j v hj σ
    exact ⟨g1, by rw [g2]; simpa using hj⟩
theorem see_sec {C : Ctx} {H : DHp} {i : Nat} {a r z : EI} {sl : EV} {X : AV} (σ : Sig) (hi : H[i]? = some (some ⟨4, .of [.int .i64 a, .int .i64 r, sl, .int .i64 z]⟩)) (hX : norw X = true) (hs : sb σ 0 X = vV C.G sl) :
    ∃ cs, cellsAt C (vHp C.G H) (.rw i) = some cs ∧ ∀ (j : Nat) v, ([.int .i64 (vI C.G a), .int .i64 (vI C.G r), X, .int .i64 (vI C.G z)] : List AV)[j]? = some v → norw v = true ∧ cs[0 + j]? = some (sb σ 0 v) := by
  have gi := vHp_some (G := C.G) hi
  refine ⟨[.int .i64 (vI C.G a), .int .i64 (vI C.G r), vV C.G sl, .int .i64 (vI C.G z)], ?_, fun j v hj => ?_⟩
  · simp only [cellsAt, gi]
    have : isRec (vBlk C.G ⟨4, .of [.int .i64 a, .int .i64 r, sl, .int .i64 z]⟩) = false := rfl
    rw [this]
    simp only [vBlk, vL, vVs, vV]
  · match j, hj with
    | 0, hj => simp at hj; subst hj; exact ⟨rfl, by simp [sb]⟩
    | 1, hj => simp at hj; subst hj; exact ⟨rfl, by simp [sb]⟩
    | 2, hj => simp at hj; subst hj; exact ⟨hX, by simp only [Nat.zero_add, List.getElem?_cons_succ, List.getElem?_cons_zero]; rw [hs]⟩
    | 3, hj => simp at hj; subst hj; exact ⟨rfl, by simp [sb]⟩
    | j + 4, hj => simp at hj
def same1I (s a r : Int) (D : List AV) (n : Nat) (z : Int) (L : List AV) (m : Nat) (sv a2 r2 : Int) (D2 : List AV) (n2 : Nat) (z2 : Int) (L2 : List AV) (m2 : Nat) : Bool :=
  (s == sv) && (plsF L m L2 m2 && ((a == a2) && ((r == r2) && ((strL (subL D 0 n) == strL (subL D2 0 n2)) && (z == z2)))))
def datB (D : List AV) (n : Nat) : Bool := (leB n D.length && u8s (subL D 0 n)) && (bnds 0 D && noros D)
def plsB (L : List AV) (m : Nat) : Bool := plsOkB L m && (bnds 0 L && noros L)
theorem dat6 {G : Nat → List AV} {a r z : Int} {n d : Nat} {X : AV} (h : datY d n X) : datL G [.int .i64 a, .int .i64 r, X, .int .i64 z] 0 = subL (G d) 0 n := by
  rcases h with ⟨mb, rfl⟩ | ⟨rfl, rfl⟩
  · rfl
  · show subL (G 0) 0 0 = subL (G d) 0 0
    unfold subL; rw [List.take_zero, List.take_zero]
theorem sec6 {G : Nat → List AV} {a r z : Int} {n d : Nat} {X : AV} (h : datY d n X) (hd : datB (G d) n = true) : secOkB G [.int .i64 a, .int .i64 r, X, .int .i64 z] 1 = true := by
  unfold datB at hd
  simp only [Bool.and_eq_true] at hd
  have e : datOk G [.int .i64 a, .int .i64 r, X, .int .i64 z] 0 = true := by
    unfold datOk
    rw [dat6 h, Bool.and_eq_true]
    refine ⟨?_, hd.1.2⟩
    rcases h with ⟨mb, rfl⟩ | ⟨rfl, rfl⟩
    · show leB (0 + n) (G d).length = true
      rw [Nat.zero_add]; exact hd.1.1
    · exact leB_iff.2 (Nat.zero_le _)
  unfold secOkB datsOk
  rw [Bool.and_eq_true, Bool.and_eq_true]
  refine ⟨?_, allTo_iff.2 fun k hk => ?_, rfl⟩
  · rcases h with ⟨mb, rfl⟩ | ⟨rfl, rfl⟩ <;> rfl
  · obtain rfl : k = 0 := by omega
    exact e
theorem all1 {f : Nat → Bool} : allTo f 1 = f 0 := by
  show (true && f 0) = f 0
  rw [Bool.true_and]
theorem same6 {G : Nat → List AV} {s a r z sv a2 r2 z2 : Int} {n n2 m m2 : Nat} {X Y : AV} {L L2 : List AV} (hX : datY 2 n X) (hY : datY 5 n2 Y) : sameI G s [.int .i64 a, .int .i64 r, X, .int .i64 z] 1 L m sv [.int .i64 a2, .int .i64 r2, Y, .int .i64 z2] 1 L2 m2 = same1I s a r (G 2) n z L m sv a2 r2 (G 5) n2 z2 L2 m2 := by
  unfold sameI same1I secF secEq
  rw [all1, dat6 hX, dat6 hY]
  rfl
def same1U : List AV → Bool := fun xs => match xs with
  | [.int _ s, .int _ a, .int _ r, .agg D, .int _ n, .int _ z, .agg L, .int _ m, .int _ sv, .int _ a2, .int _ r2, .agg D2, .int _ n2, .int _ z2, .agg L2, .int _ m2] => same1I s a r D n.toNat z L m.toNat sv a2 r2 D2 n2.toNat z2 L2 m2.toNat
  | _ => false
def same1Ok : List AV → Bool := fun xs => match xs with
  | [.agg D, .int _ n, .agg L, .int _ m, .agg D2, .int _ n2, .agg L2, .int _ m2] => (datB D n.toNat && plsB L m.toNat) && (datB D2 n2.toNat && plsB L2 m2.toNat)
  | _ => false
theorem same1U_eq {s a r z sv a2 r2 z2 : Int} {D L D2 L2 : List AV} {n m n2 m2 : Nat} : same1U [.int .i64 s, .int .i64 a, .int .i64 r, .agg D, .int .i64 (n : Int), .int .i64 z, .agg L, .int .i64 (m : Int), .int .i64 sv, .int .i64 a2, .int .i64 r2, .agg D2, .int .i64 (n2 : Int), .int .i64 z2, .agg L2, .int .i64 (m2 : Int)] = same1I s a r D n z L m sv a2 r2 D2 n2 z2 L2 m2 := by simp only [same1U, int_nat]
theorem same1Ok_iff {D L D2 L2 : List AV} {n m n2 m2 : Nat} : same1Ok [.agg D, .int .i64 (n : Int), .agg L, .int .i64 (m : Int), .agg D2, .int .i64 (n2 : Int), .agg L2, .int .i64 (m2 : Int)] = true ↔ (datB D n = true ∧ plsB L m = true) ∧ (datB D2 n2 = true ∧ plsB L2 m2 = true) := by simp only [same1Ok, int_nat, Bool.and_eq_true]
def same1S : DSum := fun args H => match args with
  | [.agg (.of [.int .i64 s, .slice _ (.rw i) (.lit 0) (.lit 1), pl]), .agg (.of [.int .i64 sv, .slice _ (.rw j) (.lit 0) (.lit 1), pl2])] => match H[i]? with
    | some (some ⟨4, .of [.int .i64 a, .int .i64 r, sl, .int .i64 z]⟩) => match H[j]? with
      | some (some ⟨4, .of [.int .i64 a2, .int .i64 r2, sl2, .int .i64 z2]⟩) => match rdT H pl with
        | some (L, m) => match rdT H pl2 with
          | some (L2, m2) => match rdT H sl with
            | some (D, n) => match rdT H sl2 with
              | some (D2, n2) => some (.chk (.uf 1762 same1Ok [.agg D, .int .i64 (.ofN n), .agg L, .int .i64 (.ofN m), .agg D2, .int .i64 (.ofN n2), .agg L2, .int .i64 (.ofN m2)]) (.one (.bool (.uf 1763 same1U [.int .i64 s, .int .i64 a, .int .i64 r, .agg D, .int .i64 (.ofN n), .int .i64 z, .agg L, .int .i64 (.ofN m), .int .i64 sv, .int .i64 a2, .int .i64 r2, .agg D2, .int .i64 (.ofN n2), .int .i64 z2, .agg L2, .int .i64 (.ofN m2)])) []))
              | none => none
            | none => none
          | none => none
        | none => none
      | _ => none
    | _ => none
  | _ => none
theorem same1S_ok (G : Nat → List AV) (B : Nat) : DSumOk (⟨Try.prog, G, B⟩ : Ctx) 15 same1S := by
  intro args H o ho
  unfold same1S at ho
  split at ho
  · rename_i s mb i pl sv mb2 j pl2
    split at ho
    · rename_i a r sl z hi
      split at ho
      · rename_i a2 r2 sl2 z2 hj
        split at ho
        · rename_i L m hL
          split at ho
          · rename_i L2 m2 hL2
            split at ho
            · rename_i D n hD
              split at ho
              · rename_i D2 n2 hD2
                simp only [Option.some.injEq] at ho
                subst ho
                intro hc
                obtain ⟨⟨c1, c2⟩, c3, c4⟩ := same1Ok_iff.1 hc
                have c1' := c1
                have c3' := c3
                unfold datB at c1 c3
                unfold plsB at c2 c4
                simp only [Bool.and_eq_true] at c1 c2 c3 c4
                obtain ⟨X, rd, x1, x2, x3, x4⟩ := rdX (C := (⟨Try.prog, G, B⟩ : Ctx)) 2 hD
                obtain ⟨Y, re, y1, y2, y3, y4⟩ := rdX (C := (⟨Try.prog, G, B⟩ : Ctx)) 5 hD2
                obtain ⟨rp, p1, p2⟩ := rdT_ok (C := (⟨Try.prog, G, B⟩ : Ctx)) hL
                obtain ⟨rq, q1, q2⟩ := rdT_ok (C := (⟨Try.prog, G, B⟩ : Ctx)) hL2
                refine DOut.rdN (C := (⟨Try.prog, G, B⟩ : Ctx)) (σ := s6 (.rw i) rp rd (.rw j) rq re) (G' := g6 [.int .i64 (vI G a), .int .i64 (vI G r), X, .int .i64 (vI G z)] (vL G L) (vL G D) [.int .i64 (vI G a2), .int .i64 (vI G r2), Y, .int .i64 (vI G z2)] (vL G L2) (vL G D2)) (args0 := [.agg [.int .i64 (vI G s), .slice true (.ro 0) 0 1, .slice true (.ro 1) 0 (vN G m)], .agg [.int .i64 (vI G sv), .slice true (.ro 3) 0 1, .slice true (.ro 4) 0 (vN G m2)]]) (fun k => ?_) rfl (fun ρ vs hvs => ?_) (fun B' => ?_) ⟨rfl, rfl⟩
                · match k with
                  | 0 => exact .inr (see_sec _ hi x2 (x3 _ rfl))
                  | 1 => exact see_flat _ p2 c2.2
                  | 2 => exact see_flat _ x4 c1.2
                  | 3 => exact .inr (see_sec _ hj y2 (y3 _ rfl))
                  | 4 => exact see_flat _ q2 c4.2
                  | 5 => exact see_flat _ y4 c3.2
                  | _ + 6 => exact .inl rfl
                · simp only [vVs, vV, vL, sbs, sb, VRs, VR, vR, vN, s6, Nat.add_zero] at hvs ⊢
                  obtain ⟨v, vs', e, ⟨ws, e2, w1, t1, e3, k1, w2, t2, e4, k2, w3, t3, e5, k3, k4⟩, v', vs2, e6, ⟨us, e7, u1, z1, e8, l1, u2, zz2, e9, l2, u3, z3, e10, l3, l4⟩, k6⟩ := hvs
                  have may : ∀ {b : Bool} {r : Ref} {n : Nat} {w : Value}, SliceR ρ b r 0 n w → SliceR ρ true r 0 n w := fun {b r n w} h => by
                    have := VR_may (show VR ρ (.slice b r 0 n) w by simpa only [VR] using h)
                    simpa only [VR] using this
                  exact ⟨v, vs', e, ⟨ws, e2, w1, t1, e3, k1, w2, t2, e4, may k2, w3, t3, e5, by simpa only [VR] using p1 ρ w3 k3, k4⟩, v', vs2, e6, ⟨us, e7, u1, z1, e8, l1, u2, zz2, e9, may l2, u3, z3, e10, by simpa only [VR] using q1 ρ u3 l3, l4⟩, k6⟩
                · refine (rsame_call _ B' (vI G s) (vI G sv) 0 3 1 1 1 4 (vN G m) (vN G m2) (sec6 (d := 2) x1 c1') (sec6 (d := 5) y1 c3') c2.1 c4.1).monoK fun v _ e => ?_
                  rw [e]
                  show AV.bool (sameI (g6 _ _ _ _ _ _) (vI G s) [.int .i64 (vI G a), .int .i64 (vI G r), X, .int .i64 (vI G z)] 1 (vL G L) (vN G m) (vI G sv) [.int .i64 (vI G a2), .int .i64 (vI G r2), Y, .int .i64 (vI G z2)] 1 (vL G L2) (vN G m2)) = _
                  rw [same6 x1 y1]
                  show _ = AV.bool (same1U [.int .i64 (vI G s), .int .i64 (vI G a), .int .i64 (vI G r), .agg (vL G D), .int .i64 (vN G n : Int), .int .i64 (vI G z), .agg (vL G L), .int .i64 (vN G m : Int), .int .i64 (vI G sv), .int .i64 (vI G a2), .int .i64 (vI G r2), .agg (vL G D2), .int .i64 (vN G n2 : Int), .int .i64 (vI G z2), .agg (vL G L2), .int .i64 (vN G m2 : Int)])
                  rw [same1U_eq]; rfl
              · simp at ho
            · simp at ho
          · simp at ho
        · simp at ho
      · simp at ho
    · simp at ho
  · simp at ho
end Go.Am
