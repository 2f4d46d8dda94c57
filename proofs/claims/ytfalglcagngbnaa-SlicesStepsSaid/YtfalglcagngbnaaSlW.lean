/-
  Slices: the open slots as a list; the document's All.
-/
import Derived.Test.YtfalglcagngbnaaSlS
import Derived.Test.YtfalglcagngbnaaBase6
namespace Go.Am
open Go.Proofs
set_option maxRecDepth 100000
def sub7 (cs : List AV) (n : Nat) : List AV := subL cs (n * 7 + 33) 7
/-- the open slots among the first n -/
def opens' (cs : List AV) : Nat → List Nat
  | 0 => []
  | n + 1 => if sO cs n then opens' cs n ++ [n] else opens' cs n
def allC (cs : List AV) (os : List Nat) : List AV := (os.map (sub7 cs)).flatten
theorem opens_lt (cs : List AV) : ∀ n, ∀ j ∈ opens' cs n, j < n ∧ sO cs j = true
  | 0, j, h => by simp [opens'] at h
  | n + 1, j, h => by
    simp only [opens'] at h
    split at h
    · rename_i ho
      rcases List.mem_append.1 h with h | h
      · have := opens_lt cs n j h; exact ⟨by omega, this.2⟩
      · simp at h; subst h; exact ⟨by omega, ho⟩
    · have := opens_lt cs n j h; exact ⟨by omega, this.2⟩
theorem opens_len (cs : List AV) : ∀ n, (opens' cs n).length ≤ n
  | 0 => by simp [opens']
  | n + 1 => by
    have := opens_len cs n
    simp only [opens']
    split
    · simp; omega
    · omega
theorem sub7_len {cs : List AV} (hs : okS cs = true) {n : Nat} (hn : n < 32) : (sub7 cs n).length = 7 := subL_len (by have := okS_len hs; omega)
theorem sub7_get {cs : List AV} {n j : Nat} (hj : j < 7) : getI (sub7 cs n) j = getI cs (n * 7 + (33 + j)) := sub_get' hj
theorem allC_len {cs : List AV} (hs : okS cs = true) : ∀ {os : List Nat}, (∀ j ∈ os, j < 32) → (allC cs os).length = os.length * 7
  | [], _ => rfl
  | o :: os, h => by
    have ih := allC_len hs (os := os) fun j hj => h j (by simp [hj])
    have h7 := sub7_len hs (h o (by simp))
    unfold allC at ih ⊢
    simp only [List.map_cons, List.flatten_cons, List.length_append, ih, h7, List.length_cons]
    omega
theorem allC_app (cs : List AV) (os : List Nat) (n : Nat) : allC cs (os ++ [n]) = allC cs os ++ sub7 cs n := by simp [allC]
theorem allC_sub {cs : List AV} (hs : okS cs = true) : ∀ {os : List Nat}, (∀ j ∈ os, j < 32) → ∀ (i : Nat) (o : Nat), os[i]? = some o → subL (allC cs os) (i * 7) 7 = sub7 cs o
  | [], _, i, o, h => by simp at h
  | x :: os, hl, i, o, h => by
    have h7 := sub7_len hs (hl x (by simp))
    have e : allC cs (x :: os) = sub7 cs x ++ allC cs os := by simp [allC]
    rw [e]
    cases i with
    | zero =>
      simp only [List.getElem?_cons_zero, Option.some.injEq] at h
      subst h
      unfold subL
      simp [List.take_append_of_le_length (by omega : 7 ≤ (sub7 cs x).length), List.take_of_length_le (by omega : (sub7 cs x).length ≤ 7)]
    | succ i =>
      have ih := allC_sub hs (os := os) (fun j hj => hl j (by simp [hj])) i o (by simpa using h)
      unfold subL at ih ⊢
      rw [List.drop_append, List.drop_eq_nil_of_le (by omega), List.nil_append, h7, show (i + 1) * 7 - 7 = i * 7 by omega]
      exact ih
/-! ### the laws behind Waits and Fair -/
/-- a table whose numbers stay small -/
def okD (cs : List AV) (t : Int) : Prop := okC cs ∧ (0 ≤ tk cs ∧ tk cs ≤ t) ∧ ∀ i, i < 32 → sO cs i = true → 0 ≤ sL cs i ∧ sL cs i ≤ tk cs
theorem okD.mono {cs : List AV} {t t' : Int} (h : okD cs t) (ht : t ≤ t') : okD cs t' := ⟨h.1, ⟨h.2.1.1, by have := h.2.1.2; omega⟩, h.2.2⟩
theorem okD_open {cs : List AV} {t : Int} (h : okD cs t) (a : Int) : okD (openR cs a) t := by
  obtain ⟨h1, h2, h3⟩ := h
  have hs := (okT_iff.1 h1.1).1
  refine ⟨okC_open h1 a, by rw [openR_tk hs]; exact h2, fun i hi ho => ?_⟩
  rw [openR_O hs a i hi] at ho
  have e : sL (openR cs a) i = if opens cs a = true ∧ i = oN cs then getI (slotA (oN cs) a (tk cs)) 5 else sL cs i := openR_f hs a (j := 5) (by omega) hi
  rw [e, openR_tk hs]
  split at ho
  · rename_i hc
    rw [if_pos hc]
    show 0 ≤ tk cs ∧ tk cs ≤ tk cs
    omega
  · rename_i hc
    rw [if_neg hc]; exact h3 i hi ho
theorem okD_give {cs : List AV} {t : Int} (h : okD cs t) (a b : Int) : okD (giveR cs a b) t := by
  obtain ⟨h1, h2, h3⟩ := h
  have hs := (okT_iff.1 h1.1).1
  have gI : ∀ o, (∀ n, n < 32 → o ≠ n * 7 + 35) → getI (giveR cs a b) o = getI cs o := fun o ho => by
    rw [giveR_I hs]
    split
    · rename_i hc
      have h' := hc.1
      simp only [gives, Bool.and_eq_true] at h'
      have ha := isO_spec h'.1
      exact absurd hc.2 (ho _ (by omega))
    · rfl
  have eT : tk (giveR cs a b) = tk cs := gI _ fun n _ => by omega
  refine ⟨okC_give h1 a b, by rw [eT]; exact h2, fun i hi ho => ?_⟩
  rw [giveR_O hs a b i hi] at ho
  have eL : sL (giveR cs a b) i = sL cs i := gI _ fun n _ => by omega
  rw [eT, eL]; exact h3 i hi ho
theorem okD_pick {cs : List AV} {t : Int} (h : okD cs t) (ht : t ≤ 1000000) (a : Int) : okD (pickR cs a) (t + 1) := by
  cases ha : isO cs a with
  | false => rw [pickR_not ha]; exact h.mono (by omega)
  | true =>
    obtain ⟨h1, h2, h3⟩ := h
    have eT : tk (pickR cs a) = tk cs + 1 := by rw [pickR_tk h1.1 ha]; exact i64_in (by omega)
    refine ⟨okC_pick h1 a, by rw [eT]; omega, fun i hi ho => ?_⟩
    rw [pickR_O h1.1 ha i hi] at ho
    have := h3 i hi ho
    have ew : w64 (tk cs + 1) = tk cs + 1 := i64_in (by omega)
    rw [eT, pickR_L h1.1 ha i hi, ew]
    split <;> omega
theorem clF_keep {cs : List AV} (hs : okS cs = true) (hN : okN cs) (a : Int) : ∀ n, n ≤ 32 → tk (clF cs a n) = tk cs ∧ (∀ i, i < 32 → sO (clF cs a n) i = sO cs i ∧ sL (clF cs a n) i = sL cs i)
  | 0, _ => ⟨rfl, fun i _ => ⟨rfl, rfl⟩⟩
  | n + 1, hn => by
    obtain ⟨h1, h2⟩ := clF_keep hs hN a n (by omega)
    have hl := okS_len (clF_ok hs hN a n (by omega)).1
    simp only [clF]
    split
    · refine ⟨?_, fun i hi => ⟨?_, ?_⟩⟩
      · rw [← h1]; unfold tk; rw [getI_s (by omega), if_neg (by omega)]
      · rw [← (h2 i hi).1]; exact getB_s (by omega) (by omega)
      · rw [← (h2 i hi).2]; unfold sL; rw [getI_s (by omega), if_neg (by omega)]
    · exact ⟨h1, h2⟩
theorem okD_close {cs : List AV} {t : Int} (h : okD cs t) (a : Int) : okD (closeR cs a) t := by
  have hc := okC_close h.1 a
  obtain ⟨h1, h2, h3⟩ := h
  refine ⟨hc, ?_⟩
  unfold closeR
  split
  · rename_i ho
    obtain ⟨a0, a1, _⟩ := isO_spec ho
    have hs := (okT_iff.1 h1.1).1
    have hn : a.toNat < 32 := by omega
    obtain ⟨e1, e2⟩ := clF_keep (cls_ok hs hn) (cls_N hs h1.2 hn) a 32 (Nat.le_refl _)
    have e3 : tk (cls cs a.toNat) = tk cs := by unfold tk; rw [cls_I hs hn (by omega), if_neg (by omega)]
    refine ⟨by rw [e1, e3]; exact h2, fun i hi hio => ?_⟩
    rw [(e2 i hi).1, cls_O hs hn hi] at hio
    rw [(e2 i hi).2, e1, e3]
    split at hio
    · cases hio
    · rename_i hne
      have : sL (cls cs a.toNat) i = sL cs i := by unfold sL; rw [cls_I hs hn (by omega), if_neg (by omega)]
      rw [this]; exact h3 i hi hio
  · exact ⟨h2, h3⟩
theorem wF_fold (cs : List AV) : ∀ n, wF cs n = (opens' cs n).foldl (fun p j => wStep cs (sub7 cs j) p) (0, 0, false)
  | 0 => rfl
  | n + 1 => by
    simp only [wF, opens']
    split
    · rw [List.foldl_append, wF_fold cs n]; rfl
    · exact wF_fold cs n
theorem fairF_all (cs : List AV) (w : Int) : ∀ n, fairF cs w n = (opens' cs n).all fun j => fB cs (sub7 cs j) w
  | 0 => rfl
  | n + 1 => by
    simp only [fairF, opens']
    split
    · rename_i ho
      rw [List.all_append, fairF_all cs w n, ho]
      simp [sub7]
    · rename_i ho
      rw [fairF_all cs w n, show sO cs n = false by simpa using ho]
      simp
theorem ra_b (G : Nat → List AV) (ds xs : List AV) (c : Nat) (i : Int) (Q : Ex → List AV → Hp → Prop) (R : AV → Hp → Prop) : vT G Q R (dloop (Dc Try.prog [] [] [] 0) 200 10 1 (loopN Try.f44 0) 29 [0, 3, 4] [.ptr (.rw 0) (.lit 0), .slice true (.rw 1) (.lit 0) (.var 4 c), .int .i64 (.var 6 i)] [some ⟨1, .var 8 ds⟩, some ⟨7, .var 9 xs⟩]) = (
    (decide ((i : Int) < 32) = true →
      decide ((0 : Int) ≤ i) = true ∧
      decide ((i : Int) < 32) = true ∧
      isB ds (Int.toNat (i)) = true ∧
      (getB ds (Int.toNat (i)) = true →
        decide ((0 : Int) ≤ i) = true ∧
        decide ((i : Int) < 32) = true ∧
        leB ((Int.toNat (i)) * 7 + 39) (List.length ds) = true ∧
        Nat.beq (List.length (subL ds ((Int.toNat (i)) * 7 + 32) (7))) (7) = true ∧
        leB (7) (List.length (setPart ([.int .i64 (0), .int .i64 (0), .int .i64 (0), .int .i64 (0), .int .i64 (0), .int .i64 (0), .int .i64 (0)] : List AV) (0) (.agg (subL ds ((Int.toNat (i)) * 7 + 32) (7))))) = true ∧
        cellsB (subL (setPart ([.int .i64 (0), .int .i64 (0), .int .i64 (0), .int .i64 (0), .int .i64 (0), .int .i64 (0), .int .i64 (0)] : List AV) (0) (.agg (subL ds ((Int.toNat (i)) * 7 + 32) (7)))) (0) (7)) = true ∧
        leB ((c + 1) * 56) (140737488355328) = true ∧
        Nat.beq (List.length xs) ((c) * 7) = true ∧
        Q .normal [.ptr (.rw 0) (0), .slice true (.rw 3) (0) (c + 1), .int .i64 (IntKind.wrap .i64 (i + 1))] [some ⟨1, ds⟩, none, some ⟨7, (setPart ([.int .i64 (0), .int .i64 (0), .int .i64 (0), .int .i64 (0), .int .i64 (0), .int .i64 (0), .int .i64 (0)] : List AV) (0) (.agg (subL ds ((Int.toNat (i)) * 7 + 32) (7))))⟩, some ⟨7, (xs ++ (subL (setPart ([.int .i64 (0), .int .i64 (0), .int .i64 (0), .int .i64 (0), .int .i64 (0), .int .i64 (0), .int .i64 (0)] : List AV) (0) (.agg (subL ds ((Int.toNat (i)) * 7 + 32) (7)))) (0) (7)))⟩]) ∧
      (getB ds (Int.toNat (i)) = false →
        Q .normal [.ptr (.rw 0) (0), .slice true (.rw 1) (0) (c), .int .i64 (IntKind.wrap .i64 (i + 1))] [some ⟨1, ds⟩, some ⟨7, xs⟩])) ∧
    (decide ((i : Int) < 32) = false →
      Q (.exit 0) [.ptr (.rw 0) (0), .slice true (.rw 1) (0) (c), .int .i64 (i)] [some ⟨1, ds⟩, some ⟨7, xs⟩])) := by kernel_rfl
end Go.Am
