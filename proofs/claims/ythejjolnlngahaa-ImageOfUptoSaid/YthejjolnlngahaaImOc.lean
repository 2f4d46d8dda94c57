/-
  ImageOf: the law behind its drawn region: plainly.
-/
import Derived.Test.YthejjolnlngahaaImOb
import Derived.Test.YthejjolnlngahaaImKnown
namespace Go.Am
open Go.Proofs
set_option maxRecDepth 100000
def plA : AV → Bool
  | .int _ _ => true
  | .bool _ => true
  | _ => false
theorem plain_cases {v : AV} (h : plA v = true) : (∃ k i, v = .int k i) ∨ ∃ b, v = .bool b := by
  cases v <;> simp [plA] at h ⊢
theorem plain_bnds {l : List AV} (h : l.all plA = true) : bnds 0 l = true := by
  rw [List.all_eq_true] at h
  rw [bnds_eq, List.all_eq_true]
  intro v hv
  rcases plain_cases (h v hv) with ⟨k, i, rfl⟩ | ⟨b, rfl⟩ <;> rfl
theorem plain_rcds {l : List AV} (h : l.all plA = true) : noRcds l = true := by
  rw [List.all_eq_true] at h
  refine noRcds_of fun v hv => ?_
  rcases plain_cases (h v hv) with ⟨k, i, rfl⟩ | ⟨b, rfl⟩ <;> rfl
theorem plain_noros {l : List AV} (h : l.all plA = true) : noros l = true := by
  induction l with
  | nil => rfl
  | cons v l ih =>
    simp only [List.all_cons, Bool.and_eq_true] at h
    simp only [noros, Bool.and_eq_true]
    refine ⟨?_, ih h.2⟩
    rcases plain_cases h.1 with ⟨k, i, rfl⟩ | ⟨b, rfl⟩ <;> rfl
theorem plain_cells {l : List AV} (h : l.all plA = true) : cellsB l = true := by
  rw [List.all_eq_true] at h
  unfold cellsB
  rw [List.all_eq_true]
  intro v hv
  rcases plain_cases (h v hv) with ⟨k, i, rfl⟩ | ⟨b, rfl⟩ <;> rfl
theorem u8_plain {l : List AV} (h : u8s l = true) : l.all plA = true := by
  unfold u8s at h
  rw [List.all_eq_true] at h ⊢
  intro v hv
  have := h v hv
  cases v <;> simp [isU8, plA] at this ⊢
theorem subL_all {l : List AV} {n : Nat} (h : l.length = n) : subL l 0 n = l := by
  unfold subL; rw [List.drop_zero, List.take_of_length_le (by omega)]
theorem subL_app {l k : List AV} {n : Nat} (h : l.length = n) : subL (l ++ k) 0 n = l := by
  unfold subL; rw [List.drop_zero, List.take_append_of_le_length (by omega), List.take_of_length_le (by omega)]
theorem u8s_app {l k : List AV} (h : u8s l = true) (h' : u8s k = true) : u8s (l ++ k) = true := by
  unfold u8s at h h' ⊢; rw [List.all_append, h, h']; rfl
theorem strL_app {l k : List AV} : strL (l ++ k) = strL l ++ strL k := by unfold strL; rw [List.map_append]
theorem plsF_refl {L : List AV} {m : Nat} : plsF L m L m = true := by
  unfold plsF
  rw [Nat.beq_refl, Bool.true_and, allTo_iff]
  intro i _
  unfold plEq
  rw [beq_self_eq_true, beq_self_eq_true]; rfl
theorem secF_refl {G : Nat → List AV} {L : List AV} {m : Nat} : secF G L m L m = true := by
  unfold secF
  rw [Nat.beq_refl, Bool.true_and, allTo_iff]
  intro i _
  unfold secEq
  simp only [beq_self_eq_true, Bool.and_self]
theorem sameI_refl {G : Nat → List AV} {s : Int} {cs ps : List AV} {n m : Nat} : sameI G s cs n ps m s cs n ps m = true := by
  unfold sameI; rw [beq_self_eq_true, plsF_refl, secF_refl]; rfl
theorem same1I_refl {s a r z : Int} {D L : List AV} {n m : Nat} : same1I s a r D n z L m s a r D n z L m = true := by
  unfold same1I; simp only [beq_self_eq_true, plsF_refl, Bool.and_self]
/-- what is handed in: an image as it may stand there -/
def imOk (G : Nat → List AV) (k c kp d : Nat) : Prop := secsOk (G k) c = true ∧ datsOk G (G k) c = true ∧ plsOk (G kp) d = true
theorem much_no {cs : List AV} {n m : Nat} (h : muchB cs n m = false) : n ≤ 20 ∧ m ≤ 1000 := by
  unfold muchB at h
  simp only [Bool.or_eq_false_iff, decide_eq_false_iff_not] at h
  omega
theorem im_sec {G : Nat → List AV} {k c kp d : Nat} (h : imOk G k c kp d) (hc : c ≤ 20) (hd : d ≤ 1000) : secOkB G (G k) c = true ∧ plsOkB (G kp) d = true := by
  obtain ⟨h1, h2, h3⟩ := h
  unfold secOkB plsOkB
  rw [h1, h2, h3, Nat.ble_eq_true_of_le (by omega), Nat.ble_eq_true_of_le (by omega)]
  exact ⟨rfl, rfl⟩
theorem trueS_ok (G : Nat → List AV) (B : Nat) : DSumOk (⟨Try.prog, G, B⟩ : Ctx) 11 trueS := by
  intro args H o ho
  unfold trueS at ho
  split at ho
  · simp only [Option.some.injEq] at ho
    subst ho
    exact DOut.of (true_sum_ok fun G B => Go.Proofs.Ythejjolnlngahaa.known_call G B) (by simp only [true_sum, vVs, vV, vB, List.map_nil])
  · simp at ho
theorem dgY (G : Nat → List AV) (B : Nat) {ls : List DL} {c : Code} (hl : DLoopsOk (⟨Try.prog, G, B⟩ : Ctx) 0 (loopsOf c) (dloops ls)) (hp : plainFs Try.prog [16, 18] = true) : DGood (⟨Try.prog, G, B⟩ : Ctx) (Dc Try.prog [16, 18] [(21, may1S), (15, same15 G), (19, sameS G), (11, trueS)] ls 0) (loopsOf c) :=
  dgood (mixI G B) hp (.cons (may1S_ok G B) (.cons (same15_ok G B) (.cons (psameS_ok G B) (.cons (trueS_ok G B) .nil)))) hl
end Go.Am
