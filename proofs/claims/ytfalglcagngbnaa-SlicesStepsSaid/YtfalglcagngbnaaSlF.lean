/-
  Slices: the summaries of the program's calls that loop over no function; known.
-/
import Derived.Test.YtfalglcagngbnaaSlE
import Derived.Test.YtfalglcagngbnaaBase4
namespace Go.Am
open Go.Proofs
set_option maxRecDepth 100000
theorem known_run (G : Nat → List AV) (B : Nat) : vc (Kc (⟨Try.prog, G, B⟩ : Ctx)) 3000 0 (.code (bodyOf Try.f15)) (frame0 Try.f15 []) [] (retK (⟨Try.prog, G, B⟩ : Ctx) Try.f15 fun v _ => chk (isT v) True) = True := by kernel_rfl
theorem known_call (G : Nat → List AV) (B : Nat) : ACalls (⟨Try.prog, G, B⟩ : Ctx) 15 [] [] fun v _ => v = .bool true :=
  closed_run (C := (⟨Try.prog, G, B⟩ : Ctx)) (by kernel_rfl) (fn := Try.f15) (by kernel_rfl) (by kernel_rfl) (by kernel_rfl) 3000 (known_run G B)
def trueD : DSum := fun args _ => match args with
  | [] => some (.one (.bool (.lit true)) [])
  | _ => none
theorem trueD_ok {C : Ctx} {f : FuncId} (h : ∀ G B, ACalls ⟨C.P, G, B⟩ f [] [] fun v _ => v = .bool true) : DSumOk C f trueD := by
  intro args H o ho
  unfold trueD at ho
  split at ho
  · simp at ho; subst ho
    exact DOut.of (true_sum_ok h) (by simp only [true_sum, vVs, vV, vB, List.map_nil])
  · simp at ho
def tellLU : List AV → List AV := fun xs => match xs with
  | [.agg cs, .int _ a] => tellL cs a
  | _ => []
def tellE (l : EL) (a : EI) (j : Nat) : EV := .int .i64 (.get (.uf 1312 tellLU [.agg l, .int .i64 a]) (.lit j))
def tellV (l : EL) (a : EI) : EV := .agg (.of [tellE l a 0, tellE l a 1, tellE l a 2, tellE l a 3, tellE l a 4, tellE l a 5, tellE l a 6])
theorem tellL_get {cs : List AV} (hs : okS cs = true) (a : Int) {i : Nat} (hi : i < 7) : (tellL cs a)[i]? = some (.int .i64 (getI (tellL cs a) i)) := by
  refine isI_cell ?_
  unfold tellL
  split
  · rename_i ho
    have hn := isO_spec ho
    have e : (subL cs (a.toNat * 7 + 33) 7)[i]? = cs[a.toNat * 7 + 33 + i]? := by
      unfold subL
      rw [List.getElem?_take, if_pos hi, List.getElem?_drop]
    have := okS_isF hs (o := a.toNat * 7 + 33 + i) (by omega) (by omega)
    unfold isI at *
    rw [e]; exact this
  · match i, hi with
    | 0, _ | 1, _ | 2, _ | 3, _ | 4, _ | 5, _ | 6, _ => rfl
theorem tellL_len {cs : List AV} (hs : okS cs = true) (a : Int) : (tellL cs a).length = 7 := by
  unfold tellL
  split
  · rename_i ho
    have hn := isO_spec ho
    exact subL_len (by rw [okS_len hs]; omega)
  · rfl
theorem tellL_cells {cs : List AV} (hs : okS cs = true) (a : Int) : tellL cs a = [.int .i64 (getI (tellL cs a) 0), .int .i64 (getI (tellL cs a) 1), .int .i64 (getI (tellL cs a) 2), .int .i64 (getI (tellL cs a) 3), .int .i64 (getI (tellL cs a) 4), .int .i64 (getI (tellL cs a) 5), .int .i64 (getI (tellL cs a) 6)] := by
  apply List.ext_getElem?
  intro i
  by_cases hi : i < 7
  · rw [tellL_get hs a hi]
    match i, hi with
    | 0, _ | 1, _ | 2, _ | 3, _ | 4, _ | 5, _ | 6, _ => rfl
  · rw [List.getElem?_eq_none (by rw [tellL_len hs]; omega), List.getElem?_eq_none (by simp; omega)]
def tellS : DSum := fun args H => match args with
  | [.ptr (.rw i) (.lit 0), .int .i64 a] => match H[i]? with
    | some (some ⟨1, l⟩) => some (.chk (.uf 1300 okSU [.agg l]) (.one (.tup [tellV l a, .bool (.uf 1301 isOU [.agg l, .int .i64 a])]) []))
    | _ => none
  | _ => none
theorem tellL_flat {cs : List AV} (hs : okS cs = true) (a : Int) : bnds 0 (tellL cs a) = true := by
  unfold tellL
  split
  · have h := okS_flat hs 0
    rw [bnds_eq, List.all_eq_true] at h ⊢
    intro v hv
    exact h v (List.mem_of_mem_drop (List.mem_of_mem_take hv))
  · rfl
theorem tellS_ok (G : Nat → List AV) (B : Nat) : DSumOk (⟨Try.prog, G, B⟩ : Ctx) 13 tellS := by
  intro args H o ho
  unfold tellS at ho
  split at ho
  · rename_i i a
    split at ho
    · rename_i l hi
      simp only [Option.some.injEq] at ho
      subst ho
      intro h1
      simp only [vB, vVs, vV, okSU] at h1
      have key := p_tell G B (vL G l) (vI G a) h1
      refine DOut.get1 (C := (⟨Try.prog, G, B⟩ : Ctx)) hi ?_ (okS_flat h1 0) (by simp [vVs, vV, bnds, bnd]) ?_ (by simp [vV])
      · have e := tellL_cells h1 (vI G a)
        rw [e] at key
        simp only [tellV, tellE, vVs, vV, vI, vB, vL, vN, tellLU, isOU]
        exact key
      · simp [tellV, tellE, vV, vVs, vL, bnd, bnds]
    · simp at ho
  · simp at ho
def tickU : List AV → Int := fun xs => match xs with
  | [.agg cs] => getI cs 257
  | _ => 0
def ticksS : DSum := fun args H => match args with
  | [.ptr (.rw i) (.lit 0)] => match H[i]? with
    | some (some ⟨1, l⟩) => some (.chk (.uf 1300 okSU [.agg l]) (.one (.int .i64 (.uf 1313 tickU [.agg l])) []))
    | _ => none
  | _ => none
theorem ticksS_ok (G : Nat → List AV) (B : Nat) : DSumOk (⟨Try.prog, G, B⟩ : Ctx) 14 ticksS := by
  intro args H o ho
  unfold ticksS at ho
  split at ho
  · rename_i i
    split at ho
    · rename_i l hi
      simp only [Option.some.injEq] at ho
      subst ho
      intro h1
      simp only [vB, vVs, vV, okSU] at h1
      have key := p_ticks G B (vL G l) h1
      refine DOut.get1 (C := (⟨Try.prog, G, B⟩ : Ctx)) hi ?_ (okS_flat h1 0) (by simp [vVs, bnds]) (by simp [vV, bnd]) (by simp [vV])
      simp only [vVs, vV, vI, tickU]
      exact key
    · simp at ho
  · simp at ho
def progT : List (Nat × DSum) := [(15, trueD), (10, openS), (11, giveS), (12, pickS), (13, tellS), (14, ticksS)]
theorem progT_ok (G : Nat → List AV) (B : Nat) : DSumsOk (⟨Try.prog, G, B⟩ : Ctx) progT :=
  .cons (trueD_ok fun G B => known_call G B) (.cons (openS_ok G B) (.cons (giveS_ok G B) (.cons (pickS_ok G B) (.cons (tellS_ok G B) (.cons (ticksS_ok G B) .nil)))))
end Go.Am
