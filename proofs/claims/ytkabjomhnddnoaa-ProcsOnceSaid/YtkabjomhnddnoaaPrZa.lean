/-
  Processes: two sets of a family are the same.
-/
import Derived.Test.YtkabjomhnddnoaaPrY
import Derived.Test.YtkabjomhnddnoaaPsSame
namespace Go.Am
open Go.Proofs Crc
set_option maxRecDepth 100000
theorem s24a (G : Nat → List AV) (tb : List AV) (Q : Ex → List AV → Hp → Prop) (R : AV → Hp → Prop) : vT G Q R (dcall (Dc Try.prog [55] [] [] 0) 100 10 Try.f24 [.nilp, .nilp] [] 0) = (
    R (.bool (true)) []) := by kernel_rfl
theorem s24b (G : Nat → List AV) (tb : List AV) (Q : Ex → List AV → Hp → Prop) (R : AV → Hp → Prop) : vT G Q R (dcall (Dc Try.prog [55] [] [] 0) 100 10 Try.f24 [.nilp, .ptr (.rw 0) (.lit 0)] [some ⟨1, .var 1 tb⟩] 1) = (
    isB tb (0) = true ∧
    R (.bool ((!(getB tb (0))))) [some ⟨1, tb⟩]) := by kernel_rfl
theorem s24c (G : Nat → List AV) (tb : List AV) (Q : Ex → List AV → Hp → Prop) (R : AV → Hp → Prop) : vT G Q R (dcall (Dc Try.prog [55] [] [] 0) 100 10 Try.f24 [.ptr (.rw 0) (.lit 0), .nilp] [some ⟨1, .var 1 tb⟩] 1) = (
    isB tb (0) = true ∧
    (getB tb (0) = true →
      isB tb (0) = true ∧
      R (.bool ((!(getB tb (0))))) [some ⟨1, tb⟩]) ∧
    (getB tb (0) = false →
      isB tb (0) = true ∧
      R (.bool ((!(getB tb (0))))) [some ⟨1, tb⟩])) := by kernel_rfl
theorem n_same0 (G : Nat → List AV) (B : Nat) : ACalls (⟨Try.prog, G, B⟩ : Ctx) 24 [.nilp, .nilp] [] fun v H' => v = .bool true ∧ H'.take 0 = [] := by
  have := dcall_ok (C := (⟨Try.prog, G, B⟩ : Ctx)) (f := 24) (args := [.nilp, .nilp]) (H := []) (keep := 0) (R := fun v H' => v = .bool true ∧ H' = []) (dgood (inl := [55]) (sums := []) (ls := []) (M := 0) (cs := []) (mix G B) (by kernel_rfl) .nil .nil) (by kernel_rfl) (by kernel_rfl) (by kernel_rfl) (fuel := 100) (n0 := 10) (by rw [s24a G []]; exact ⟨rfl, rfl⟩)
  exact this
theorem n_same1 (G : Nat → List AV) (B : Nat) (p : Sg) : ACalls (⟨Try.prog, G, B⟩ : Ctx) 24 [.nilp, .ptr (.rw 0) 0] [some ⟨1, encP p⟩] fun v H' => v = .bool false ∧ H'.take 1 = [some ⟨1, encP p⟩] := by
  have := dcall_ok (C := (⟨Try.prog, G, B⟩ : Ctx)) (f := 24) (args := [.nilp, .ptr (.rw 0) (.lit 0)]) (H := [some ⟨1, .var 1 (encP p)⟩]) (keep := 1) (R := fun v H' => v = .bool false ∧ H' = [some ⟨1, encP p⟩]) (dgood (inl := [55]) (sums := []) (ls := []) (M := 0) (cs := []) (mix G B) (by kernel_rfl) .nil .nil) (by kernel_rfl) (by kernel_rfl) (by kernel_rfl) (fuel := 100) (n0 := 10) (by rw [s24b]; exact ⟨rfl, rfl, rfl⟩)
  exact this
theorem n_same2 (G : Nat → List AV) (B : Nat) (p : Sg) : ACalls (⟨Try.prog, G, B⟩ : Ctx) 24 [.ptr (.rw 0) 0, .nilp] [some ⟨1, encP p⟩] fun v H' => v = .bool false ∧ H'.take 1 = [some ⟨1, encP p⟩] := by
  have := dcall_ok (C := (⟨Try.prog, G, B⟩ : Ctx)) (f := 24) (args := [.ptr (.rw 0) (.lit 0), .nilp]) (H := [some ⟨1, .var 1 (encP p)⟩]) (keep := 1) (R := fun v H' => v = .bool false ∧ H' = [some ⟨1, encP p⟩]) (dgood (inl := [55]) (sums := []) (ls := []) (M := 0) (cs := []) (mix G B) (by kernel_rfl) .nil .nil) (by kernel_rfl) (by kernel_rfl) (by kernel_rfl) (fuel := 100) (n0 := 10) (by rw [s24c]; exact ⟨rfl, fun _ => ⟨rfl, rfl, rfl⟩, fun h => by cases h⟩)
  exact this
theorem DOut.rdA {C : Ctx} {f : FuncId} {args0 : List AV} {args : List EV} {H : DHp} {θ : List Nat} {H0 : Hp} {v : EV} {k : Nat} (hnd : θ.Nodup) (hl : θ.length = H0.length)
    (hlive : ∀ (i : Nat) b, H0[i]? = some b → ∃ b0, b = some b0 ∧ bnds 0 b0.cells = true ∧ (vHp C.G H)[θ.getD i 0]? = some (some b0))
    (ha : bnds θ.length args0 = true) (he : vVs C.G args = rens θ args0) (h : ACalls C f args0 H0 fun v' H' => v' = vV C.G v ∧ H'.take k = H0) (hv : bnd 0 (vV C.G v) = true) (hu : vV C.G v ≠ .undef) : DOut C f args H v [] := by
  have hb : hpB H0.length H0 = true := by
    have key : ∀ (n : Nat) (A : Hp), (∀ (i : Nat) x, A[i]? = some (some x) → bnds n x.cells = true) → hpB n A = true := by
      intro n A
      induction A with
      | nil => intro _; rfl
      | cons a A ih =>
        intro g
        have := ih fun i x hx => g (i + 1) x (by simpa using hx)
        cases a with
        | none => simpa [hpB] using this
        | some x => simp only [hpB, Bool.and_eq_true]; exact ⟨g 0 x rfl, this⟩
    refine key _ _ fun i x hx => ?_
    obtain ⟨b0, e, g, _⟩ := hlive i _ hx
    simp only [Option.some.injEq] at e
    subst e
    exact bnds_mono (Nat.zero_le _) _ g
  have h := h.keep (Nat.le_refl _) hb (bnd_mono (Nat.zero_le _) _ hv) hu
  have lv : ∀ (θ' : List Nat) (i : Nat) b, H0[i]? = some b → ∃ b0, b = some b0 ∧ bnds θ.length b0.cells = true ∧ (vHp C.G H)[θ.getD i 0]? = some (some (renB θ' b0)) := fun θ' i b hi => by
    obtain ⟨b0, e, g1, g2⟩ := hlive i b hi
    refine ⟨b0, e, bnds_mono (Nat.zero_le _) _ g1, ?_⟩
    have : renB θ' b0 = b0 := by unfold renB; rw [rens_flat _ _ g1]
    rw [this]; exact g2
  refine DOut.fr hnd hl (lv θ) ha he h (Nat.le_refl _) (bnd_mono (Nat.zero_le _) _ hv) hb (ren_flat _ _ hv).symm ?_
  unfold merge
  rw [hl, Nat.sub_self, List.drop_of_length_le (Nat.le_refl _)]
  show vHp C.G H = lay _ _ _ _ ++ []
  rw [List.append_nil, lay_same]
  · intro i b _ hi
    obtain ⟨b0, rfl, _, g⟩ := lv (wide θ (vHp C.G H).length 0) i b hi
    exact g
def fmArg (s : Side) (H : DHp) : EV → Option (EL × List EB)
  | .ptr (.fm b c i) o => match famAt H b c with
    | some (z, l, ls) => match Nat.beq z 1, s.get (.row l i) with
      | true, some (bc, d) => some (d, [.eqN o (.lit 0), mkLe (mkAdd i (.lit 1)) (.lit c), .rows l ls, mkLe (mkAdd i (.lit 1)) (.len l), bc])
      | _, _ => none
    | none => none
  | _ => none
def chks : List EB → Outs → Outs
  | [], o => o
  | b :: bs, o => .chk b (chks bs o)
theorem chks_of {G : Nat → List AV} {Q : EV → List DHop → Prop} {o : Outs} : ∀ {bs : List EB}, ((∀ b ∈ bs, vB G b = true) → oAll G Q o) → oAll G Q (chks bs o)
  | [], h => h fun _ hb => by cases hb
  | b :: bs, h => fun hb => chks_of (bs := bs) fun hbs => h fun b' hb' => by
    rcases List.mem_cons.1 hb' with rfl | hb'
    · exact hb
    · exact hbs b' hb'
theorem fmArg_ok {G : Nat → List AV} {s : Side} {enc : Sg → List AV} (hs : SideOk G s enc) {H : DHp} {a : EV} {d : EL} {bs : List EB} (h : fmArg s H a = some (d, bs)) (hb : ∀ b ∈ bs, vB G b = true) :
    ∃ j p, vV G a = .ptr (.rw j) 0 ∧ (vHp G H)[j]? = some (some ⟨1, enc p⟩) ∧ vL G d = encP p := by
  unfold fmArg at h
  split at h
  · rename_i b c i o
    split at h
    · rename_i z l ls hf
      split at h
      · rename_i bc d' hz hg
        have hz := Nat.eq_of_beq_eq_true hz
        subst hz
        simp only [Option.some.injEq, Prod.mk.injEq] at h
        obtain ⟨rfl, rfl⟩ := h
        have h1 : vN G o = 0 := Nat.eq_of_beq_eq_true (hb (.eqN o (.lit 0)) (by simp))
        have h2 := le_mkLe (hb (mkLe (mkAdd i (.lit 1)) (.lit c)) (by simp))
        have h3 : rowsA (vL G l) (vVs G ls) = true := hb (.rows l ls) (by simp)
        have h4 := le_mkLe (hb (mkLe (mkAdd i (.lit 1)) (.len l)) (by simp))
        have h5 := hb bc (by simp)
        rw [vN_mkAdd] at h2 h4
        have h2 : vN G i + 1 ≤ c := h2
        obtain ⟨p, e1, e2⟩ := hs.get _ _ _ hg h5
        have e2 : rowA (vL G l) (vN G i) = enc p := e2
        have hat := fam_at hf h3 (i := vN G i) (by omega)
        rw [e2] at hat
        exact ⟨b + vN G i, p, by simp only [vV, vR, h1], hat, e1⟩
      · cases h
    · cases h
  · cases h
def sameF (s : Side) : DSum := fun xs H => match xs with
  | [a, b] => match a, b with
    | .nilp, .nilp => some (.one (.bool (.lit true)) [])
    | .nilp, b => match fmArg s H b with
      | some (_, bs) => some (chks bs (.one (.bool (.lit false)) []))
      | none => none
    | a, .nilp => match fmArg s H a with
      | some (_, bs) => some (chks bs (.one (.bool (.lit false)) []))
      | none => none
    | a, b => match fmArg s H a, fmArg s H b with
      | some (d, bs), some (d', bs') => some (chks bs (chks bs' (.one (.bool (.uf 1060 sameU [.agg d, .agg d'])) [])))
      | _, _ => none
  | _ => none
theorem sameB_refl' (p : Sg) : sameB p p = true := by simp [sameB]
theorem sameF_ok {C : Ctx} {s : Side} {enc : Sg → List AV} (hs : SideOk C.G s enc) (hinj : ∀ p q, enc p = enc q → p = q) {f : FuncId} (h2 : ∀ p q, ACalls C f [.ptr (.rw 0) 0, .ptr (.rw 1) 0] [some ⟨1, enc p⟩, some ⟨1, enc q⟩] fun v H' => v = .bool (sameB p q) ∧ H'.take 2 = [some ⟨1, enc p⟩, some ⟨1, enc q⟩])
    (h1 : ∀ p, ACalls C f [.ptr (.rw 0) 0, .ptr (.rw 0) 0] [some ⟨1, enc p⟩] fun v H' => v = .bool true ∧ H'.take 1 = [some ⟨1, enc p⟩])
    (h0 : ACalls C f [.nilp, .nilp] [] fun v H' => v = .bool true ∧ H'.take 0 = [])
    (hl : ∀ p, ACalls C f [.nilp, .ptr (.rw 0) 0] [some ⟨1, enc p⟩] fun v H' => v = .bool false ∧ H'.take 1 = [some ⟨1, enc p⟩])
    (hr : ∀ p, ACalls C f [.ptr (.rw 0) 0, .nilp] [some ⟨1, enc p⟩] fun v H' => v = .bool false ∧ H'.take 1 = [some ⟨1, enc p⟩]) : DSumOk C f (sameF s) := by
  have one : ∀ {H : DHp} {j : Nat} {p : Sg}, (vHp C.G H)[j]? = some (some ⟨1, enc p⟩) → ∀ (i : Nat) b, ([some ⟨1, enc p⟩] : Hp)[i]? = some b → ∃ b0, b = some b0 ∧ bnds 0 b0.cells = true ∧ (vHp C.G H)[([j] : List Nat).getD i 0]? = some (some b0) := fun {H j p} hj i b hi => by
    match i with
    | 0 => simp at hi; subst hi; exact ⟨_, rfl, hs.flat _ _, hj⟩
    | i + 1 => simp at hi
  intro xs H o ho
  unfold sameF at ho
  split at ho
  · rename_i a b
    split at ho
    · simp only [Option.some.injEq] at ho; subst ho
      exact DOut.rdA (θ := []) (k := 0) (by simp) rfl (fun i b hi => by simp at hi) rfl rfl h0 rfl (by simp [vV])
    · split at ho
      · rename_i d bs hf
        simp only [Option.some.injEq] at ho; subst ho
        refine chks_of fun hb => ?_
        obtain ⟨j, p, e1, e2, e3⟩ := fmArg_ok hs hf hb
        exact DOut.rdA (θ := [j]) (k := 1) (by simp) rfl (one e2) rfl (by simp only [vVs, e1]; rfl) (hl p) rfl (by simp [vV])
      · cases ho
    · split at ho
      · rename_i d bs hf
        simp only [Option.some.injEq] at ho; subst ho
        refine chks_of fun hb => ?_
        obtain ⟨j, p, e1, e2, e3⟩ := fmArg_ok hs hf hb
        exact DOut.rdA (θ := [j]) (k := 1) (by simp) rfl (one e2) rfl (by simp only [vVs, e1]; rfl) (hr p) rfl (by simp [vV])
      · cases ho
    · split at ho
      · rename_i d bs d' bs' hf hf'
        simp only [Option.some.injEq] at ho; subst ho
        refine chks_of fun hb => chks_of fun hb' => ?_
        obtain ⟨j, p, e1, e2, e3⟩ := fmArg_ok hs hf hb
        obtain ⟨j', q, e1', e2', e3'⟩ := fmArg_ok hs hf' hb'
        have ev : vV C.G (.bool (.uf 1060 sameU [.agg d, .agg d'])) = .bool (sameB p q) := by simp only [vV, vB, vVs, e3, e3', sameU_enc]
        by_cases hj : j = j'
        · subst hj
          have : p = q := hinj _ _ (by rw [e2] at e2'; simpa using e2')
          subst this
          refine DOut.rdA (θ := [j]) (k := 1) (by simp) rfl (one e2) (args0 := [.ptr (.rw 0) 0, .ptr (.rw 0) 0]) rfl (by simp only [vVs, e1, e1']; rfl) ?_ (by rw [ev]; rfl) (by rw [ev]; simp)
          rw [ev, sameB_refl']; exact h1 p
        · refine DOut.rdA (θ := [j, j']) (H0 := [some ⟨1, enc p⟩, some ⟨1, enc q⟩]) (k := 2) (by simp [hj]) rfl (fun i b hi => ?_) (args0 := [.ptr (.rw 0) 0, .ptr (.rw 1) 0]) rfl (by simp only [vVs, e1, e1']; rfl) ?_ (by rw [ev]; rfl) (by rw [ev]; simp)
          · match i with
            | 0 => simp at hi; subst hi; exact ⟨_, rfl, hs.flat _ _, e2⟩
            | 1 => simp at hi; subst hi; exact ⟨_, rfl, hs.flat _ _, e2'⟩
            | i + 2 => simp at hi
          · rw [ev]; exact h2 p q
      · cases ho
  · cases ho
theorem sameFP_ok (G : Nat → List AV) (B : Nat) : DSumOk (⟨Try.prog, G, B⟩ : Ctx) 24 (sameF sideP) := sameF_ok (sideP_ok G) (fun p q h => encP_inj h) (p_same G B) (p_same1 G B) (n_same0 G B) (n_same1 G B) (n_same2 G B)
end Go.Am
