/-
  Wire: Bytes of both sides; all summaries of what is written.
-/
import Derived.Test.YtcodkoholbmkkaaWrS
namespace Go.Am
open Go.Proofs
set_option maxRecDepth 100000
def trueW : DSum := fun xs _ => match xs with
  | [] => some (.one (.bool (.lit true)) [])
  | _ => none
theorem trueW_ok {C : Ctx} {f : FuncId} (h : ∀ G B, ACalls ⟨C.P, G, B⟩ f [] [] fun v _ => v = .bool true) : DSumOk C f trueW := by
  intro xs H o ho
  unfold trueW at ho
  split at ho
  · simp at ho; subst ho
    exact DOut.of (true_sum_ok h) (by simp only [true_sum, vVs, vV, vB, List.map_nil])
  · simp at ho
theorem t8a (G : Nat → List AV) (k o n : Nat) (Q : Ex → List AV → Hp → Prop) (R : AV → Hp → Prop) : vT G Q R (dcall (Dc Try.prog [] nums [] 0) 200 10 Try.f8 [.slice true (.ro (.var 1 k)) (.var 2 o) (.var 3 n)] [] 2) = (
    inU64 [.int .u64 (IntKind.wrap .u64 (((n : Nat) : Int)))] = true ∧
    leB (o + n) (List.length (G (k))) = true ∧
    cellsB (subL (G (k)) (o) (n)) = true ∧
    leB (List.length (nformU [.int .u64 (IntKind.wrap .u64 (((n : Nat) : Int)))]) + n) (140737488355328) = true ∧
    Nat.beq (List.length (nformU [.int .u64 (IntKind.wrap .u64 (((n : Nat) : Int)))])) (List.length (nformU [.int .u64 (IntKind.wrap .u64 (((n : Nat) : Int)))])) = true ∧
    R (.slice false (.rw 1) (0) (List.length (nformU [.int .u64 (IntKind.wrap .u64 (((n : Nat) : Int)))]) + n)) [none, some ⟨1, ((bytesL (nformU [.int .u64 (IntKind.wrap .u64 (((n : Nat) : Int)))])) ++ (subL (G (k)) (o) (n)))⟩]) := by kernel_rfl
theorem t8b (G : Nat → List AV) (s : List AV) (o n : Nat) (Q : Ex → List AV → Hp → Prop) (R : AV → Hp → Prop) : vT G Q R (dcall (Dc Try.prog [] nums [] 1) 200 10 Try.f8 [.slice true (.rw 0) (.var 2 o) (.var 3 n)] [some ⟨1, .var 1 s⟩] 3) = (
    inU64 [.int .u64 (IntKind.wrap .u64 (((n : Nat) : Int)))] = true ∧
    leB (o + n) (List.length s) = true ∧
    cellsB (subL s (o) (n)) = true ∧
    leB (List.length (nformU [.int .u64 (IntKind.wrap .u64 (((n : Nat) : Int)))]) + n) (140737488355328) = true ∧
    Nat.beq (List.length (nformU [.int .u64 (IntKind.wrap .u64 (((n : Nat) : Int)))])) (List.length (nformU [.int .u64 (IntKind.wrap .u64 (((n : Nat) : Int)))])) = true ∧
    R (.slice false (.rw 2) (0) (List.length (nformU [.int .u64 (IntKind.wrap .u64 (((n : Nat) : Int)))]) + n)) [some ⟨1, s⟩, none, some ⟨1, ((bytesL (nformU [.int .u64 (IntKind.wrap .u64 (((n : Nat) : Int)))])) ++ (subL s (o) (n)))⟩]) := by kernel_rfl
theorem t11a (G : Nat → List AV) (k o n : Nat) (Q : Ex → List AV → Hp → Prop) (R : AV → Hp → Prop) : vT G Q R (dcall (Dc Try.prog [] nums [] 0) 200 10 Try.f11 [.slice true (.ro (.var 1 k)) (.var 2 o) (.var 3 n)] [] 2) = (
    inU64 [.int .u64 (IntKind.wrap .u64 (((n : Nat) : Int)))] = true ∧
    leB (o + n) (List.length (G (k))) = true ∧
    cellsB (subL (G (k)) (o) (n)) = true ∧
    leB (List.length (nformU [.int .u64 (IntKind.wrap .u64 (((n : Nat) : Int)))]) + n) (140737488355328) = true ∧
    Nat.beq (List.length (nformU [.int .u64 (IntKind.wrap .u64 (((n : Nat) : Int)))])) (List.length (nformU [.int .u64 (IntKind.wrap .u64 (((n : Nat) : Int)))])) = true ∧
    R (.slice true (.rw 1) (0) (List.length (nformU [.int .u64 (IntKind.wrap .u64 (((n : Nat) : Int)))]) + n)) [none, some ⟨1, ((bytesL (nformU [.int .u64 (IntKind.wrap .u64 (((n : Nat) : Int)))])) ++ (subL (G (k)) (o) (n)))⟩]) := by kernel_rfl
theorem t11b (G : Nat → List AV) (s : List AV) (o n : Nat) (Q : Ex → List AV → Hp → Prop) (R : AV → Hp → Prop) : vT G Q R (dcall (Dc Try.prog [] nums [] 1) 200 10 Try.f11 [.slice true (.rw 0) (.var 2 o) (.var 3 n)] [some ⟨1, .var 1 s⟩] 3) = (
    inU64 [.int .u64 (IntKind.wrap .u64 (((n : Nat) : Int)))] = true ∧
    leB (o + n) (List.length s) = true ∧
    cellsB (subL s (o) (n)) = true ∧
    leB (List.length (nformU [.int .u64 (IntKind.wrap .u64 (((n : Nat) : Int)))]) + n) (140737488355328) = true ∧
    Nat.beq (List.length (nformU [.int .u64 (IntKind.wrap .u64 (((n : Nat) : Int)))])) (List.length (nformU [.int .u64 (IntKind.wrap .u64 (((n : Nat) : Int)))])) = true ∧
    R (.slice true (.rw 2) (0) (List.length (nformU [.int .u64 (IntKind.wrap .u64 (((n : Nat) : Int)))]) + n)) [some ⟨1, s⟩, none, some ⟨1, ((bytesL (nformU [.int .u64 (IntKind.wrap .u64 (((n : Nat) : Int)))])) ++ (subL s (o) (n)))⟩]) := by kernel_rfl
theorem dgN0 (G : Nat → List AV) (B : Nat) : DGood (⟨Try.prog, G, B⟩ : Ctx) (Dc Try.prog [] nums [] 0) [] := dgood (mix G B) (by kernel_rfl) (nums_ok G B) .nil
theorem dgN1 (G : Nat → List AV) (B : Nat) : DGood (⟨Try.prog, G, B⟩ : Ctx) (Dc Try.prog [] nums [] 1) [] := dgood (mix G B) (by kernel_rfl) (nums_ok G B) .nil
theorem wrapN {n : Nat} (h : n ≤ 1099511627776) : IntKind.wrap .u64 ((n : Nat) : Int) = (n : Int) := u64_in (by omega)
theorem inN {n : Nat} (h : n ≤ 1099511627776) : inU64 [.int .u64 (n : Int)] = true := by simp [inU64]; omega
/-- both forms of what Bytes leaves, looked at from its own blocks -/
theorem back_a {f : FuncId} {args : List AV} {C : Ctx} {mb : Bool} {m : Nat} {cs : List AV} (hc : ∀ j, bnds j cs = true) (h : ACalls C f args [] fun v' H' => v' = .slice mb (.rw 1) 0 m ∧ H'.take 2 = [none, some ⟨1, cs⟩]) :
    ACalls C f args [] fun v' H' => v' = .slice mb (.rw 0) 0 m ∧ H' = [some ⟨1, cs⟩] := by
  refine h.view fun v H' ⟨e1, e2⟩ => ⟨_, _, ⟨rfl, rfl⟩, ?_⟩
  have e : H' = none :: some ⟨1, cs⟩ :: H'.drop 2 := by
    have := List.take_append_drop 2 H'
    rw [e2] at this
    exact this.symm
  rw [e, e1]
  exact View.renM (θ := [1]) (by simp) (fun i hi => absurd hi (by simp)) (by decide) ⟨⟨hc _, by rw [rens_flat _ _ (hc 0)]; rfl⟩, trivial⟩ (by simp [bnds, bnd]) (by simp [rens, ren, wk])
theorem back_b {f : FuncId} {args : List AV} {C : Ctx} {mb : Bool} {m : Nat} {s cs : List AV} (hs : ∀ j, bnds j s = true) (hc : ∀ j, bnds j cs = true) (h : ACalls C f args [some ⟨1, s⟩] fun v' H' => v' = .slice mb (.rw 2) 0 m ∧ H'.take 3 = [some ⟨1, s⟩, none, some ⟨1, cs⟩]) :
    ACalls C f args [some ⟨1, s⟩] fun v' H' => v' = .slice mb (.rw 1) 0 m ∧ H' = [some ⟨1, s⟩, some ⟨1, cs⟩] := by
  refine h.view fun v H' ⟨e1, e2⟩ => ⟨_, _, ⟨rfl, rfl⟩, ?_⟩
  have e : H' = some ⟨1, s⟩ :: none :: some ⟨1, cs⟩ :: H'.drop 3 := by
    have := List.take_append_drop 3 H'
    rw [e2] at this
    exact this.symm
  rw [e, e1]
  exact View.renM (θ := [0, 2]) (by simp) fixes1 (by decide) ⟨⟨hs _, by rw [rens_flat _ _ (hs 0)]; rfl⟩, ⟨hc _, by rw [rens_flat _ _ (hc 0)]; rfl⟩, trivial⟩ (by simp [bnds, bnd]) (by simp [rens, ren, wk])
structure BytesOk (C : Ctx) (f : FuncId) (mb : Bool) : Prop where
  ro : ∀ k o n : Nat, n ≤ 1099511627776 → o + n ≤ (C.G k).length → u8s (subL (C.G k) o n) = true → ACalls C f [.slice true (.ro k) o n] [] fun v' H' => v' = .slice mb (.rw 0) 0 ((nformU [.int .u64 (n : Int)]).length + n) ∧ H' = [some ⟨1, bytesL (nformU [.int .u64 (n : Int)]) ++ subL (C.G k) o n⟩]
  rw : ∀ (s : List AV) (o n : Nat), (∀ j, bnds j s = true) → n ≤ 1099511627776 → o + n ≤ s.length → u8s (subL s o n) = true → ACalls C f [.slice true (.rw 0) o n] [some ⟨1, s⟩] fun v' H' => v' = .slice mb (.rw 1) 0 ((nformU [.int .u64 (n : Int)]).length + n) ∧ H' = [some ⟨1, s⟩, some ⟨1, bytesL (nformU [.int .u64 (n : Int)]) ++ subL s o n⟩]
theorem app_flat {a : List UInt8} {l : List AV} (h : u8s l = true) (j : Nat) : bnds j (bytesL a ++ l) = true := by
  rw [bnds_eq, List.all_append, ← bnds_eq, ← bnds_eq, bytesL_flat, u8s_flat h]; rfl
theorem bytes8 (G : Nat → List AV) (B : Nat) : BytesOk (⟨Try.prog, G, B⟩ : Ctx) 8 false where
  ro k o n hn ho hu := by
    have hl := nformU_len [.int .u64 (n : Int)]
    refine back_a (app_flat hu) (dcall_ok (C := (⟨Try.prog, G, B⟩ : Ctx)) (fn := Try.f8) (f := 8) (R := fun v' H' => v' = .slice false (.rw 1) 0 ((nformU [.int .u64 (n : Int)]).length + n) ∧ H' = [none, some ⟨1, bytesL (nformU [.int .u64 (n : Int)]) ++ subL (G k) o n⟩]) (dgN0 G B) (by kernel_rfl) (by kernel_rfl) (by kernel_rfl) (fuel := 200) (n0 := 10) (keep := 2) (args := [.slice true (.ro (.var 1 k)) (.var 2 o) (.var 3 n)]) (H := []) ?_)
    rw [t8a, wrapN hn]
    exact ⟨inN hn, leB_iff.2 ho, u8s_cells hu, leB_iff.2 (by omega), Nat.beq_refl _, rfl, rfl⟩
  rw s o n hs hn ho hu := by
    have hl := nformU_len [.int .u64 (n : Int)]
    refine back_b hs (app_flat hu) (dcall_ok (C := (⟨Try.prog, G, B⟩ : Ctx)) (fn := Try.f8) (f := 8) (R := fun v' H' => v' = .slice false (.rw 2) 0 ((nformU [.int .u64 (n : Int)]).length + n) ∧ H' = [some ⟨1, s⟩, none, some ⟨1, bytesL (nformU [.int .u64 (n : Int)]) ++ subL s o n⟩]) (dgN1 G B) (by kernel_rfl) (by kernel_rfl) (by kernel_rfl) (fuel := 200) (n0 := 10) (keep := 3) (args := [.slice true (.rw 0) (.var 2 o) (.var 3 n)]) (H := [some ⟨1, .var 1 s⟩]) ?_)
    rw [t8b, wrapN hn]
    exact ⟨inN hn, leB_iff.2 ho, u8s_cells hu, leB_iff.2 (by omega), Nat.beq_refl _, rfl, rfl⟩
theorem bytes11 (G : Nat → List AV) (B : Nat) : BytesOk (⟨Try.prog, G, B⟩ : Ctx) 11 true where
  ro k o n hn ho hu := by
    have hl := nformU_len [.int .u64 (n : Int)]
    refine back_a (app_flat hu) (dcall_ok (C := (⟨Try.prog, G, B⟩ : Ctx)) (fn := Try.f11) (f := 11) (R := fun v' H' => v' = .slice true (.rw 1) 0 ((nformU [.int .u64 (n : Int)]).length + n) ∧ H' = [none, some ⟨1, bytesL (nformU [.int .u64 (n : Int)]) ++ subL (G k) o n⟩]) (dgN0 G B) (by kernel_rfl) (by kernel_rfl) (by kernel_rfl) (fuel := 200) (n0 := 10) (keep := 2) (args := [.slice true (.ro (.var 1 k)) (.var 2 o) (.var 3 n)]) (H := []) ?_)
    rw [t11a, wrapN hn]
    exact ⟨inN hn, leB_iff.2 ho, u8s_cells hu, leB_iff.2 (by omega), Nat.beq_refl _, rfl, rfl⟩
  rw s o n hs hn ho hu := by
    have hl := nformU_len [.int .u64 (n : Int)]
    refine back_b hs (app_flat hu) (dcall_ok (C := (⟨Try.prog, G, B⟩ : Ctx)) (fn := Try.f11) (f := 11) (R := fun v' H' => v' = .slice true (.rw 2) 0 ((nformU [.int .u64 (n : Int)]).length + n) ∧ H' = [some ⟨1, s⟩, none, some ⟨1, bytesL (nformU [.int .u64 (n : Int)]) ++ subL s o n⟩]) (dgN1 G B) (by kernel_rfl) (by kernel_rfl) (by kernel_rfl) (fuel := 200) (n0 := 10) (keep := 3) (args := [.slice true (.rw 0) (.var 2 o) (.var 3 n)]) (H := [some ⟨1, .var 1 s⟩]) ?_)
    rw [t11b, wrapN hn]
    exact ⟨inN hn, leB_iff.2 ho, u8s_cells hu, leB_iff.2 (by omega), Nat.beq_refl _, rfl, rfl⟩
def bytesO (mb : Bool) (l : EL) (o n : EN) (H : DHp) : Outs := .chk (.leN n (.lit 1099511627776)) (.chk (.leN (.add o n) (.len l)) (.chk (.u8s l) (.chk (.u8s (.sub l o n)) (.one (.slice mb (.rw H.length) (.lit 0) (.add (.slen (.uf 1104 nformU [.int .u64 (.ofN n)])) n)) [.new ⟨1, .app (.bytes (.uf 1104 nformU [.int .u64 (.ofN n)])) (.sub l o n)⟩]))))
def bytesS (mb : Bool) : DSum := fun xs H => match xs with
  | [.slice _ (.ro k) o n] => some (bytesO mb (.ro k) o n H)
  | [.slice _ (.rw i) o n] => match H[i]? with
    | some (some ⟨1, l⟩) => some (bytesO mb l o n H)
    | _ => none
  | _ => none
theorem bytesS_ok {C : Ctx} {f : FuncId} {mb : Bool} (h : BytesOk C f mb) : DSumOk C f (bytesS mb) := by
  intro xs H o ho
  have wkn : ∀ {m : Bool} {r : Ref} {o n : Nat} {H : Hp} {K : AV → Hp → Prop}, ACalls C f [.slice true r o n] H K → ACalls C f [.slice m r o n] H K := fun h => h.weaken fun ρ vs hv => by
    simp only [VRs] at hv ⊢
    obtain ⟨v, vs', r1, r2, r3⟩ := hv
    exact ⟨v, vs', r1, VR_may r2, r3⟩
  simp only [bytesS] at ho
  split at ho
  · rename_i m k o n
    simp only [Option.some.injEq] at ho
    subst ho
    intro h1 h2 h3 h4
    simp only [vB, vN, vL] at h1 h2 h3 h4
    refine DOut.new0 (C := C) (args0 := [.slice m (.ro (vN C.G k)) (vN C.G o) (vN C.G n)]) (v0 := .slice mb (.rw 0) 0 ((nformU [.int .u64 (vN C.G n : Int)]).length + vN C.G n)) ?_ (by simp only [vL, vS, vVs, vV, vI]; exact app_flat h4 _) (by simp [bnds, bnd]) (by simp only [vVs, vV, vR]) (by simp [bnd]) (by simp [vV, vR, vN, vS, vVs, vI, ren])
    simp only [vBlk, vL, vS, vVs, vV, vI]
    exact wkn (h.ro _ _ _ (leB_iff.1 h1) (leB_iff.1 h2) h4)
  · rename_i m i o n
    split at ho
    · rename_i l hi
      simp only [Option.some.injEq] at ho
      subst ho
      intro h1 h2 h3 h4
      simp only [vB, vN, vL] at h1 h2 h3 h4
      have hf : ∀ j, bnds j (vL C.G l) = true := fun j => u8s_flat h3
      have key := wkn (m := m) (h.rw (vL C.G l) (vN C.G o) (vN C.G n) hf (leB_iff.1 h1) (leB_iff.1 h2) h4)
      have rw' : ∀ (b : DBlk) (θ : List Nat), bnds 0 (vL C.G b.cells) = true → renB θ (vBlk C.G b) = vBlk C.G b := fun b θ hb => by simp only [renB, vBlk, rens_flat _ _ hb]
      have e1 := rw' ⟨1, l⟩
      refine DOut.fr (θ := [i]) (by simp) rfl (fun k b hk => ?_) (by simp [bnds, bnd]) (by simp [vVs, vV, vR, rens, ren]) key (by simp) (by simp [bnd]) (by simp [hpB, hf, app_flat h4]) (by simp [vV, vR, vN, vS, vVs, vI, ren, wide]) ?_
      · match k with
        | 0 => simp at hk; subst hk; exact ⟨_, rfl, hf _, by simpa [renB, vBlk, rens_flat _ _ (hf 0)] using vHp_some (G := C.G) hi⟩
        | k + 1 => simp at hk
      · have := vHp_set_same (G := C.G) hi
        simp only [vBlk] at this
        simp [acts, Hop.act, vHop, vBlk, merge, lay, renO, renB, vL, vS, vVs, vV, vI, vN, rens_flat _ _ (hf 0), rens_flat _ _ (app_flat h4 0), this]
    · simp at ho
  · simp at ho
/-! Flag -/
def flagI (xs : List AV) : Int := match xs with
  | [.bool true] => 1
  | _ => 0
def flagS : DSum := fun xs H => match xs with
  | [.bool b] => some (.one (.slice false (.rw H.length) (.lit 0) (.lit 1)) [.new ⟨1, .of [.int .u8 (.uf 1114 flagI [.bool b])]⟩])
  | _ => none
theorem t15 (G : Nat → List AV) (b : Bool) (Q : Ex → List AV → Hp → Prop) (R : AV → Hp → Prop) : vT G Q R (dcall (Dc Try.prog [] [] [] 0) 200 10 Try.f15 [.bool (.var 1 b)] [] 1) = (
    (b = true →
      R (.slice false (.rw 0) (0) (1)) [some ⟨1, ([.int .u8 (1)] : List AV)⟩]) ∧
    (b = false →
      R (.slice false (.rw 0) (0) (1)) [some ⟨1, ([.int .u8 (0)] : List AV)⟩])) := by kernel_rfl
theorem t16 (G : Nat → List AV) (b : Bool) (Q : Ex → List AV → Hp → Prop) (R : AV → Hp → Prop) : vT G Q R (dcall (Dc Try.prog [] [] [] 0) 200 10 Try.f16 [.bool (.var 1 b)] [] 1) = (
    (b = true →
      R (.slice false (.rw 0) (0) (1)) [some ⟨1, ([.int .u8 (1)] : List AV)⟩]) ∧
    (b = false →
      R (.slice false (.rw 0) (0) (1)) [some ⟨1, ([.int .u8 (0)] : List AV)⟩])) := by kernel_rfl
theorem dg00 (G : Nat → List AV) (B : Nat) : DGood (⟨Try.prog, G, B⟩ : Ctx) (Dc Try.prog [] [] [] 0) [] := dgood (mix G B) (by kernel_rfl) .nil .nil
theorem flag15 (G : Nat → List AV) (B : Nat) (b : Bool) : ACalls (⟨Try.prog, G, B⟩ : Ctx) 15 [.bool b] [] fun v' H' => v' = .slice false (.rw 0) 0 1 ∧ H' = [some ⟨1, [.int .u8 (flagI [.bool b])]⟩] := by
  have key := dcall_ok (C := (⟨Try.prog, G, B⟩ : Ctx)) (fn := Try.f15) (f := 15) (R := fun v' H' => v' = .slice false (.rw 0) 0 1 ∧ H' = [some ⟨1, [.int .u8 (flagI [.bool b])]⟩]) (dg00 G B) (by kernel_rfl) (by kernel_rfl) (by kernel_rfl) (fuel := 200) (n0 := 10) (keep := 1) (args := [.bool (.var 1 b)]) (H := []) (by
    rw [t15]
    exact ⟨fun h => by rw [h]; exact ⟨rfl, rfl⟩, fun h => by rw [h]; exact ⟨rfl, rfl⟩⟩)
  exact key.keep (by simp [vHp]) (by simp [hpB, bnds, bnd]) (by simp [bnd]) (by simp)
theorem flag16 (G : Nat → List AV) (B : Nat) (b : Bool) : ACalls (⟨Try.prog, G, B⟩ : Ctx) 16 [.bool b] [] fun v' H' => v' = .slice false (.rw 0) 0 1 ∧ H' = [some ⟨1, [.int .u8 (flagI [.bool b])]⟩] := by
  have key := dcall_ok (C := (⟨Try.prog, G, B⟩ : Ctx)) (fn := Try.f16) (f := 16) (R := fun v' H' => v' = .slice false (.rw 0) 0 1 ∧ H' = [some ⟨1, [.int .u8 (flagI [.bool b])]⟩]) (dg00 G B) (by kernel_rfl) (by kernel_rfl) (by kernel_rfl) (fuel := 200) (n0 := 10) (keep := 1) (args := [.bool (.var 1 b)]) (H := []) (by
    rw [t16]
    exact ⟨fun h => by rw [h]; exact ⟨rfl, rfl⟩, fun h => by rw [h]; exact ⟨rfl, rfl⟩⟩)
  exact key.keep (by simp [vHp]) (by simp [hpB, bnds, bnd]) (by simp [bnd]) (by simp)
theorem flagS_ok {C : Ctx} {f : FuncId} (h : ∀ b, ACalls C f [.bool b] [] fun v' H' => v' = .slice false (.rw 0) 0 1 ∧ H' = [some ⟨1, [.int .u8 (flagI [.bool b])]⟩]) : DSumOk C f flagS := by
  intro xs H o ho
  unfold flagS at ho
  split at ho
  · rename_i b
    simp at ho; subst ho
    refine DOut.new0 (C := C) (args0 := [.bool (vB C.G b)]) (v0 := .slice false (.rw 0) 0 1) ?_ (by simp [vL, vVs, vV, bnds, bnd]) rfl (by simp only [vVs, vV]) (by simp [bnd]) (by simp [vV, vR, vN, ren])
    simp only [vBlk, vL, vVs, vV, vI]
    exact h _
  · simp at ho
def progW (G : Nat → List AV) : List (Nat × DSum) := [(18, trueW), (17, spoilS), (10, joinS G), (15, flagS), (16, flagS), (13, sigS false), (14, sigS true), (8, bytesS false), (11, bytesS true), (9, numS false), (12, numS true)]
theorem progW_ok (G : Nat → List AV) (B : Nat) : DSumsOk (⟨Try.prog, G, B⟩ : Ctx) (progW G) := .cons (trueW_ok fun G B => known_call G B) (.cons (spoilS_ok G B) (.cons (joinS_ok G B) (.cons (flagS_ok (flag15 G B)) (.cons (flagS_ok (flag16 G B)) (.cons (sigS_ok (sig13 G B)) (.cons (sigS_ok (sig14 G B)) (.cons (bytesS_ok (bytes8 G B)) (.cons (bytesS_ok (bytes11 G B)) (nums_ok G B)))))))))
end Go.Am
