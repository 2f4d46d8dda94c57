/-
  Images: Check and May of an image of one section in the heap.
-/
import Derived.Test.YthejjolnlngahaaImQ
namespace Go.Am
open Go.Proofs
set_option maxRecDepth 100000
def slR : EV → Option EN
  | .slice _ (.rw _) (.lit 0) n => some n
  | .nils => some (.lit 0)
  | _ => none
/-- a section's data, as they are looked at -/
def datX (n : Nat) (X : AV) : Prop := (∃ mb, X = .slice mb (.ro 2) 0 n) ∨ (X = .nils ∧ n = 0)
theorem slR_ok {C : Ctx} {H : DHp} {sl : EV} {n : EN} (h : slR sl = some n) : ∃ (X : AV) (rd : Ref), datX (vN C.G n) X ∧ norw X = true ∧ ∀ σ : Sig, σ 2 = (rd, 0) → sb σ 0 X = vV C.G sl := by
  unfold slR at h
  split at h
  · simp only [Option.some.injEq] at h; subst h
    rename_i mb d n'
    exact ⟨.slice mb (.ro 2) 0 (vN C.G n'), .rw d, .inl ⟨mb, rfl⟩, rfl, fun σ hσ => by simp only [sb, hσ, vV, vR, vN, Nat.add_zero]⟩
  · simp only [Option.some.injEq] at h; subst h
    exact ⟨.nils, .ro 0, .inr ⟨rfl, rfl⟩, rfl, fun σ hσ => by simp only [sb, vV]⟩
  · simp at h
theorem DOut.im1 {C : Ctx} {f : FuncId} {s a r z : EI} {mbs : Bool} {i : Nat} {sl pl : EV} {n m : EN} {L : EL} {H : DHp} {v : EV}
    (hi : H[i]? = some (some ⟨4, .of [.int .i64 a, .int .i64 r, sl, .int .i64 z]⟩)) (hs : slR sl = some n) (hp : rdT H pl = some (L, m)) (hf : bnds 0 (vL C.G L) = true ∧ noros (vL C.G L) = true)
    (h : ∀ (G : Nat → List AV) (B : Nat) (X : AV), datX (vN C.G n) X → G 0 = [.int .i64 (vI C.G a), .int .i64 (vI C.G r), X, .int .i64 (vI C.G z)] → G 1 = vL C.G L → ACalls ⟨C.P, G, B⟩ f [.agg [.int .i64 (vI C.G s), .slice true (.ro 0) 0 1, .slice true (.ro 1) 0 (vN C.G m)]] [] fun v' _ => v' = vV C.G v)
    (hv : bnd 0 (vV C.G v) = true ∧ noro (vV C.G v) = true) : DOut C f [.agg (.of [.int .i64 s, .slice mbs (.rw i) (.lit 0) (.lit 1), pl])] H v [] := by
  obtain ⟨X, rd, x1, x2, x3⟩ := slR_ok (C := C) (H := H) hs
  obtain ⟨rp, p1, p2⟩ := rdT_ok (C := C) hp
  have gi := vHp_some (G := C.G) hi
  refine DOut.rdN (σ := fun k => match k with | 0 => (.rw i, 0) | 1 => (rp, 0) | _ => (rd, 0)) (G' := fun k => match k with | 0 => [.int .i64 (vI C.G a), .int .i64 (vI C.G r), X, .int .i64 (vI C.G z)] | 1 => vL C.G L | _ => []) (args0 := [.agg [.int .i64 (vI C.G s), .slice true (.ro 0) 0 1, .slice true (.ro 1) 0 (vN C.G m)]]) (fun k => ?_) rfl (fun ρ vs hvs => ?_) (fun B => h _ B X x1 rfl rfl) hv
  · match k with
    | 0 =>
      refine .inr ⟨[.int .i64 (vI C.G a), .int .i64 (vI C.G r), vV C.G sl, .int .i64 (vI C.G z)], ?_, fun j v hj => ?_⟩
      · simp only [cellsAt, gi]
        have : isRec (vBlk C.G ⟨4, .of [.int .i64 a, .int .i64 r, sl, .int .i64 z]⟩) = false := rfl
        rw [this]
        simp only [vBlk, vL, vVs, vV]
      · match j, hj with
        | 0, hj => simp at hj; subst hj; exact ⟨rfl, by simp [sb]⟩
        | 1, hj => simp at hj; subst hj; exact ⟨rfl, by simp [sb]⟩
        | 2, hj => simp at hj; subst hj; exact ⟨x2, by simp only [List.getElem?_cons_succ, List.getElem?_cons_zero]; rw [x3 _ rfl]⟩
        | 3, hj => simp at hj; subst hj; exact ⟨rfl, by simp [sb]⟩
        | j + 4, hj => simp at hj
    | 1 =>
      rcases p2 with p2 | p2
      · exact .inl p2
      · refine .inr ⟨_, p2, fun j v hj => ?_⟩
        have hf' : bnds 0 ((vL C.G L)) = true ∧ noros ((vL C.G L)) = true := hf
        obtain ⟨g1, g2⟩ := flatN hf' j v hj (fun k => match k with | 0 => (.rw i, 0) | 1 => (rp, 0) | _ => (rd, 0))
        exact ⟨g1, by rw [g2]; simpa using hj⟩
    | _ + 2 => exact .inl rfl
  · simp only [vVs, vV, vL, sbs, sb, VRs, VR, vR, vN] at hvs ⊢
    obtain ⟨v, vs', e, ⟨ws, e2, w1, t1, e3, q1, w2, t2, e4, q2, w3, t3, e5, q3, q4⟩, q6⟩ := hvs
    refine ⟨v, vs', e, ⟨ws, e2, w1, t1, e3, q1, w2, t2, e4, ?_, w3, t3, e5, ?_, q4⟩, q6⟩
    · have := VR_may (show VR ρ (.slice mbs (.rw i) 0 1) w2 by simpa only [VR] using q2)
      simpa only [VR, Nat.add_zero] using this
    · have := p1 ρ w3 q3
      simpa only [VR, Nat.add_zero] using this
def cs1 (a r : Int) (n : Nat) (z : Int) : List AV := [.int .i64 a, .int .i64 r, .slice false (.ro 2) 0 n, .int .i64 z]
theorem cs1_chk {a r z : Int} {n : Nat} {X : AV} (h : datX n X) (s : Int) (ps : List AV) (m : Nat) : mayI s [.int .i64 a, .int .i64 r, X, .int .i64 z] 1 ps m = mayI s (cs1 a r n z) 1 ps m := by
  rcases h with ⟨mb, rfl⟩ | ⟨rfl, rfl⟩ <;> rfl
theorem cs1_ok {a r z : Int} {n : Nat} {X : AV} (h : datX n X) : secsU [.agg [.int .i64 a, .int .i64 r, X, .int .i64 z], .int .i64 ((1 : Nat) : Int)] = true := by
  rcases h with ⟨mb, rfl⟩ | ⟨rfl, rfl⟩ <;> rfl
def may1U : List AV → Bool := fun xs => match xs with
  | [.int _ s, .int _ a, .int _ r, .int _ n, .int _ z, .agg ps, .int _ m] => mayI s (cs1 a r n.toNat z) 1 ps m.toNat
  | _ => false
def chk1U : List AV → Int := fun xs => if may1U xs then 0 else 2
def pl1U : List AV → Bool := fun xs => match xs with
  | [.agg ps, .int _ m] => plsU [.agg ps, .int .i64 m] && (bnds 0 ps && noros ps)
  | _ => false
theorem may1U_eq {s a r z : Int} {n m : Nat} {ps : List AV} : may1U [.int .i64 s, .int .i64 a, .int .i64 r, .int .i64 (n : Int), .int .i64 z, .agg ps, .int .i64 (m : Int)] = mayI s (cs1 a r n z) 1 ps m := by simp only [may1U, int_nat]
def may1S : DSum := fun args H => match args with
  | [.agg (.of [.int .i64 s, .slice _ (.rw i) (.lit 0) (.lit 1), pl])] => match H[i]? with
    | some (some ⟨4, .of [.int .i64 a, .int .i64 r, sl, .int .i64 z]⟩) => match slR sl with
      | some n => match rdT H pl with
        | some (L, m) => some (.chk (.uf 1746 pl1U [.agg L, .int .i64 (.ofN m)]) (.one (.bool (.uf 1747 may1U [.int .i64 s, .int .i64 a, .int .i64 r, .int .i64 (.ofN n), .int .i64 z, .agg L, .int .i64 (.ofN m)])) []))
        | none => none
      | none => none
    | _ => none
  | _ => none
def chk1S : DSum := fun args H => match args with
  | [.agg (.of [.int .i64 s, .slice _ (.rw i) (.lit 0) (.lit 1), pl])] => match H[i]? with
    | some (some ⟨4, .of [.int .i64 a, .int .i64 r, sl, .int .i64 z]⟩) => match slR sl with
      | some n => match rdT H pl with
        | some (L, m) => some (.chk (.uf 1746 pl1U [.agg L, .int .i64 (.ofN m)]) (.one (.int .i64 (.uf 1748 chk1U [.int .i64 s, .int .i64 a, .int .i64 r, .int .i64 (.ofN n), .int .i64 z, .agg L, .int .i64 (.ofN m)])) []))
        | none => none
      | none => none
    | _ => none
  | _ => none
theorem pl1U_iff {ps : List AV} {m : Nat} : pl1U [.agg ps, .int .i64 (m : Int)] = true ↔ plsU [.agg ps, .int .i64 (m : Int)] = true ∧ bnds 0 ps = true ∧ noros ps = true := by simp only [pl1U, Bool.and_eq_true]
theorem may1S_ok (G : Nat → List AV) (B : Nat) : DSumOk (⟨Try.prog, G, B⟩ : Ctx) 21 may1S := by
  intro args H o ho
  unfold may1S at ho
  split at ho
  · rename_i s mbs i pl
    split at ho
    · rename_i a r sl z hi
      split at ho
      · rename_i n hs
        split at ho
        · rename_i L m hp
          simp only [Option.some.injEq] at ho
          subst ho
          intro hc
          obtain ⟨c1, c2⟩ := pl1U_iff.1 hc
          refine DOut.im1 (C := (⟨Try.prog, G, B⟩ : Ctx)) hi hs hp c2 (fun G' B' X hX g0 g1 => ?_) ⟨rfl, rfl⟩
          refine (may_call G' B' 0 1 1 (vN G m) (vI G s) (by rw [g0]; exact cs1_ok hX) (by rw [g1]; exact c1)).monoK fun v _ e => ?_
          rw [e, g0, g1, cs1_chk hX, ← may1U_eq]; rfl
        · simp at ho
      · simp at ho
    · simp at ho
  · simp at ho
theorem chk1S_ok (G : Nat → List AV) (B : Nat) : DSumOk (⟨Try.prog, G, B⟩ : Ctx) 20 chk1S := by
  intro args H o ho
  unfold chk1S at ho
  split at ho
  · rename_i s mbs i pl
    split at ho
    · rename_i a r sl z hi
      split at ho
      · rename_i n hs
        split at ho
        · rename_i L m hp
          simp only [Option.some.injEq] at ho
          subst ho
          intro hc
          obtain ⟨c1, c2⟩ := pl1U_iff.1 hc
          refine DOut.im1 (C := (⟨Try.prog, G, B⟩ : Ctx)) hi hs hp c2 (fun G' B' X hX g0 g1 => ?_) ⟨rfl, rfl⟩
          refine (check_call G' B' 0 1 1 (vN G m) (vI G s) (by rw [g0]; exact cs1_ok hX) (by rw [g1]; exact c1)).monoK fun v _ e => ?_
          rw [e, g0, g1]
          unfold chkI
          rw [cs1_chk hX, ← may1U_eq]; rfl
        · simp at ho
      · simp at ho
    · simp at ho
  · simp at ho
end Go.Am
