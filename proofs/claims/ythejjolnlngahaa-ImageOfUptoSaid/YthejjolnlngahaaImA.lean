/-
  Images: a section, a place: which may be, how great they are.
-/
import Derived.Test.YthejjolnlngahaaBase6
import Derived.Test.YthejjolnlngahaaProg
namespace Go.Am
open Go.Proofs
set_option maxRecDepth 100000
theorem mixI (G : Nat → List AV) (B : Nat) : ((⟨Try.prog, G, B⟩ : Ctx) : Ctx).P.follows .mixedOrders = true := by kernel_rfl
theorem int_nat (n : Nat) : ((n : Int)).toNat = n := Int.toNat_natCast n
def szF (n : Nat) (z : Int) : Int := IntKind.i64.wrap ((n : Int) + z)
def secB (a r : Int) (n : Nat) (z : Int) : Bool := (decide (0 ≤ z) && (decide (z ≤ 8192) && decide (n ≤ 8192))) && ((decide (0 ≤ a) && (decide (a ≤ 8192) && decide (a % 256 = 0))) && ((decide (1 ≤ r) && decide (r ≤ 7)) && (decide (1 ≤ (n : Int) + z) && decide (a + (n + z) ≤ 8192))))
def rszF (n : Nat) (z : Int) : Int := if 0 ≤ z ∧ z ≤ 8192 ∧ n ≤ 8192 then (n : Int) + z else -1
def wdF (h : Bool) : Int := if h then 2 else 4
def szU : List AV → Int := fun xs => match xs with
  | [.int _ n, .int _ z] => szF n.toNat z
  | _ => 0
def secU : List AV → Bool := fun xs => match xs with
  | [.int _ a, .int _ r, .int _ n, .int _ z] => secB a r n.toNat z
  | _ => false
def rszU : List AV → Int := fun xs => match xs with
  | [.int _ n, .int _ z] => rszF n.toNat z
  | _ => 0
def wdU : List AV → Int := fun xs => match xs with
  | [.bool h] => wdF h
  | _ => 0
/-- how long a slice is -/
def slN : EV → Option EN
  | .slice _ _ _ n => some n
  | .nils => some (.lit 0)
  | _ => none
theorem t44 (G : Nat → List AV) (a r z : Int) (n : Nat) (Q : Ex → List AV → Hp → Prop) (R : AV → Hp → Prop) : vT G Q R (dcall (Dc Try.prog [] [] [] 0) 100 20 Try.f44 [.agg (.of [.int .i64 (.var 1 a), .int .i64 (.var 2 r), .slice true (.ro (.lit 0)) (.lit 0) (.var 3 n), .int .i64 (.var 4 z)])] [] 0) = (
    R (.int .i64 (IntKind.wrap .i64 (((n : Nat) : Int) + z))) []) := by kernel_rfl
theorem t35 (G : Nat → List AV) (x : Int) (h : Bool) (Q : Ex → List AV → Hp → Prop) (R : AV → Hp → Prop) : vT G Q R (dcall (Dc Try.prog [] [] [] 0) 100 20 Try.f35 [.agg (.of [.int .i64 (.var 1 x), .bool (.var 2 h)])] [] 0) = (
    (h = true →
      R (.int .i64 (2)) []) ∧
    (h = false →
      R (.int .i64 (4)) [])) := by kernel_rfl
theorem t38 (G : Nat → List AV) (x : Int) (h : Bool) (Q : Ex → List AV → Hp → Prop) (R : AV → Hp → Prop) : vT G Q R (dcall (Dc Try.prog [] [] [] 0) 100 20 Try.f38 [.agg (.of [.int .i64 (.var 1 x), .bool (.var 2 h)])] [] 0) = (
    (h = true →
      R (.int .i64 (2)) []) ∧
    (h = false →
      R (.int .i64 (4)) [])) := by kernel_rfl
theorem t47 (G : Nat → List AV) (a r z : Int) (n : Nat) (Q : Ex → List AV → Hp → Prop) (R : AV → Hp → Prop) : vT G Q R (dcall (Dc Try.prog [] [] [] 0) 100 20 Try.f47 [.agg (.of [.int .i64 (.var 1 a), .int .i64 (.var 2 r), .slice true (.ro (.lit 0)) (.lit 0) (.var 3 n), .int .i64 (.var 4 z)])] [] 0) = (
    (decide ((z : Int) < 0) = true →
      R (.int .i64 ((-1))) []) ∧
    (decide ((z : Int) < 0) = false →
      (decide ((z : Int) > 8192) = true →
        R (.int .i64 ((-1))) []) ∧
      (decide ((z : Int) > 8192) = false →
        (decide ((((n : Nat) : Int) : Int) > 8192) = true →
          R (.int .i64 ((-1))) []) ∧
        (decide ((((n : Nat) : Int) : Int) > 8192) = false →
          R (.int .i64 (IntKind.wrap .i64 (((n : Nat) : Int) + z))) [])))) := by kernel_rfl
section
variable {C : Ctx}
/-- a call that is handed a section, and looks at how long its data are alone -/
theorem DOut.sec {f : FuncId} {a r z : EI} {sl : EV} {n : EN} {H : DHp} {v : EV} (hs : slN sl = some n) (h : ∀ B, ACalls ⟨C.P, fun _ => [], B⟩ f [.agg [.int .i64 (vI C.G a), .int .i64 (vI C.G r), .slice true (.ro 0) 0 (vN C.G n), .int .i64 (vI C.G z)]] [] fun v' _ => v' = vV C.G v) (hv : bnd 0 (vV C.G v) = true ∧ noro (vV C.G v) = true) : DOut C f [.agg (.of [.int .i64 a, .int .i64 r, sl, .int .i64 z])] H v [] := by
  obtain ⟨rr, oo, hw⟩ : ∃ (rr : Ref) (oo : Nat), ∀ (ρ : Env) cv, VR ρ (vV C.G sl) cv → VR ρ (.slice true rr oo (vN C.G n)) cv := by
    unfold slN at hs
    split at hs
    · simp only [Option.some.injEq] at hs; subst hs
      rename_i mb r' o' n'
      exact ⟨vR C.G r', vN C.G o', fun ρ cv hv => by simp only [vV] at hv; exact VR_may hv⟩
    · simp only [Option.some.injEq] at hs; subst hs
      exact ⟨.ro 0, 0, fun ρ cv hv => VR_nils _ _ (by simpa only [vV] using hv)⟩
    · simp at hs
  refine DOut.rdN (σ := fun _ => (rr, oo)) (G' := fun _ => []) (args0 := [.agg [.int .i64 (vI C.G a), .int .i64 (vI C.G r), .slice true (.ro 0) 0 (vN C.G n), .int .i64 (vI C.G z)]]) (fun k => .inl rfl) rfl (fun ρ vs hvs => ?_) (fun B => h B) hv
  simp only [vVs, vV, vL, sbs, sb, VRs, VR] at hvs ⊢
  obtain ⟨v, vs', e, ⟨ws, e2, w1, t1, e3, q1, w2, t2, e4, q2, w3, t3, e5, q3, w4, t4, e6, q4, q5⟩, q6⟩ := hvs
  exact ⟨v, vs', e, ⟨ws, e2, w1, t1, e3, q1, w2, t2, e4, q2, w3, t3, e5, by have := hw ρ w3 q3; simpa only [VR, Nat.add_zero] using this, w4, t4, e6, q4, q5⟩, q6⟩
theorem DOut.plc {f : FuncId} {x : EI} {b : EB} {H : DHp} {v : EV} (h : ∀ B, ACalls ⟨C.P, fun _ => [], B⟩ f [.agg [.int .i64 (vI C.G x), .bool (vB C.G b)]] [] fun v' _ => v' = vV C.G v) (hv : bnd 0 (vV C.G v) = true ∧ noro (vV C.G v) = true) : DOut C f [.agg (.of [.int .i64 x, .bool b])] H v [] :=
  DOut.rdN (σ := fun _ => (.ro 0, 0)) (G' := fun _ => []) (args0 := [.agg [.int .i64 (vI C.G x), .bool (vB C.G b)]]) (fun k => .inl rfl) rfl (fun ρ vs hvs => hvs) (fun B => h B) hv
end
theorem dgI (G : Nat → List AV) (B : Nat) (M : Nat) : DGood (⟨Try.prog, G, B⟩ : Ctx) (Dc Try.prog [] [] [] M) [] := dgood (mixI G B) (by kernel_rfl) .nil .nil
theorem sz_call (G : Nat → List AV) (B : Nat) (a r z : Int) (n : Nat) : ACalls (⟨Try.prog, G, B⟩ : Ctx) 44 [.agg [.int .i64 a, .int .i64 r, .slice true (.ro 0) 0 n, .int .i64 z]] [] fun v _ => v = .int .i64 (szF n z) := by
  have := dcall_ok (C := (⟨Try.prog, G, B⟩ : Ctx)) (fuel := 100) (n0 := 20) (f := 44) (fn := Try.f44) (args := [.agg (.of [.int .i64 (.var 1 a), .int .i64 (.var 2 r), .slice true (.ro (.lit 0)) (.lit 0) (.var 3 n), .int .i64 (.var 4 z)])]) (H := []) (keep := 0)
    (R := fun v _ => v = .int .i64 (szF n z)) (by rw [show loopsOf (bodyOf Try.f44) = [] by kernel_rfl]; exact dgI G B 0) (by kernel_rfl) (by kernel_rfl) (by kernel_rfl) (by
    rw [t44 G a r z n]; rfl)
  exact this.monoK fun v H' h => h
theorem wd_call (G : Nat → List AV) (B : Nat) (x : Int) (h : Bool) : ACalls (⟨Try.prog, G, B⟩ : Ctx) 35 [.agg [.int .i64 x, .bool h]] [] fun v _ => v = .int .i64 (wdF h) := by
  have := dcall_ok (C := (⟨Try.prog, G, B⟩ : Ctx)) (fuel := 100) (n0 := 20) (f := 35) (fn := Try.f35) (args := [.agg (.of [.int .i64 (.var 1 x), .bool (.var 2 h)])]) (H := []) (keep := 0)
    (R := fun v _ => v = .int .i64 (wdF h)) (by rw [show loopsOf (bodyOf Try.f35) = [] by kernel_rfl]; exact dgI G B 0) (by kernel_rfl) (by kernel_rfl) (by kernel_rfl) (by
    rw [t35 G x h]; cases h <;> simp [wdF])
  exact this.monoK fun v H' h => h
theorem wd2_call (G : Nat → List AV) (B : Nat) (x : Int) (h : Bool) : ACalls (⟨Try.prog, G, B⟩ : Ctx) 38 [.agg [.int .i64 x, .bool h]] [] fun v _ => v = .int .i64 (wdF h) := by
  have := dcall_ok (C := (⟨Try.prog, G, B⟩ : Ctx)) (fuel := 100) (n0 := 20) (f := 38) (fn := Try.f38) (args := [.agg (.of [.int .i64 (.var 1 x), .bool (.var 2 h)])]) (H := []) (keep := 0)
    (R := fun v _ => v = .int .i64 (wdF h)) (by rw [show loopsOf (bodyOf Try.f38) = [] by kernel_rfl]; exact dgI G B 0) (by kernel_rfl) (by kernel_rfl) (by kernel_rfl) (by
    rw [t38 G x h]; cases h <;> simp [wdF])
  exact this.monoK fun v H' h => h
theorem rsz_call (G : Nat → List AV) (B : Nat) (a r z : Int) (n : Nat) : ACalls (⟨Try.prog, G, B⟩ : Ctx) 47 [.agg [.int .i64 a, .int .i64 r, .slice true (.ro 0) 0 n, .int .i64 z]] [] fun v _ => v = .int .i64 (rszF n z) := by
  have := dcall_ok (C := (⟨Try.prog, G, B⟩ : Ctx)) (fuel := 100) (n0 := 20) (f := 47) (fn := Try.f47) (args := [.agg (.of [.int .i64 (.var 1 a), .int .i64 (.var 2 r), .slice true (.ro (.lit 0)) (.lit 0) (.var 3 n), .int .i64 (.var 4 z)])]) (H := []) (keep := 0)
    (R := fun v _ => v = .int .i64 (rszF n z)) (by rw [show loopsOf (bodyOf Try.f47) = [] by kernel_rfl]; exact dgI G B 0) (by kernel_rfl) (by kernel_rfl) (by kernel_rfl) (by
    rw [t47 G a r z n]
    unfold rszF
    refine ⟨fun h1 => ?_, fun h1 => ⟨fun h2 => ?_, fun h2 => ⟨fun h3 => ?_, fun h3 => ?_⟩⟩⟩
    · have := of_decide_eq_true h1; rw [if_neg (by omega)]
    · have := of_decide_eq_true h2; rw [if_neg (by omega)]
    · have := of_decide_eq_true h3; rw [if_neg (by omega)]
    · have h1 := of_decide_eq_false h1; have h2 := of_decide_eq_false h2; have h3 := of_decide_eq_false h3
      rw [if_pos (by omega), i64_in (by omega)])
  exact this.monoK fun v H' h => h
def szS : DSum := fun args _ => match args with
  | [.agg (.of [.int .i64 _, .int .i64 _, sl, .int .i64 z])] => match slN sl with
    | some n => some (.one (.int .i64 (.uf 1701 szU [.int .i64 (.ofN n), .int .i64 z])) [])
    | none => none
  | _ => none
theorem szS_ok (G : Nat → List AV) (B : Nat) : DSumOk (⟨Try.prog, G, B⟩ : Ctx) 44 szS := by
  intro args H o ho
  unfold szS at ho
  split at ho
  · rename_i a r sl z
    split at ho
    · rename_i n hs
      simp only [Option.some.injEq] at ho
      subst ho
      refine DOut.sec (C := (⟨Try.prog, G, B⟩ : Ctx)) hs (fun B' => ?_) ⟨rfl, rfl⟩
      refine (sz_call (fun _ => []) B' _ _ _ _).monoK fun v _ e => ?_
      rw [e]; simp only [vV, vI, vVs, vN, szU, int_nat]
    · simp at ho
  · simp at ho
def rszS : DSum := fun args _ => match args with
  | [.agg (.of [.int .i64 _, .int .i64 _, sl, .int .i64 z])] => match slN sl with
    | some n => some (.one (.int .i64 (.uf 1703 rszU [.int .i64 (.ofN n), .int .i64 z])) [])
    | none => none
  | _ => none
theorem rszS_ok (G : Nat → List AV) (B : Nat) : DSumOk (⟨Try.prog, G, B⟩ : Ctx) 47 rszS := by
  intro args H o ho
  unfold rszS at ho
  split at ho
  · rename_i a r sl z
    split at ho
    · rename_i n hs
      simp only [Option.some.injEq] at ho
      subst ho
      refine DOut.sec (C := (⟨Try.prog, G, B⟩ : Ctx)) hs (fun B' => ?_) ⟨rfl, rfl⟩
      refine (rsz_call (fun _ => []) B' _ _ _ _).monoK fun v _ e => ?_
      rw [e]; simp only [vV, vI, vVs, vN, rszU, int_nat]
    · simp at ho
  · simp at ho
def wdS : DSum := fun args _ => match args with
  | [.agg (.of [.int .i64 _, .bool b])] => some (.one (.int .i64 (.uf 1704 wdU [.bool b])) [])
  | _ => none
theorem wdS_of (G : Nat → List AV) (B : Nat) {f : Nat} (h : ∀ (G : Nat → List AV) (B : Nat) (x : Int) (h : Bool), ACalls (⟨Try.prog, G, B⟩ : Ctx) f [.agg [.int .i64 x, .bool h]] [] fun v _ => v = .int .i64 (wdF h)) : DSumOk (⟨Try.prog, G, B⟩ : Ctx) f wdS := by
  intro args H o ho
  unfold wdS at ho
  split at ho
  · simp only [Option.some.injEq] at ho
    subst ho
    exact DOut.plc (C := (⟨Try.prog, G, B⟩ : Ctx)) (fun B' => h _ B' _ _) ⟨rfl, rfl⟩
  · simp at ho
def progIa : List (Nat × DSum) := (44, szS) :: (47, rszS) :: (35, wdS) :: (38, wdS) :: []
theorem progIa_ok (G : Nat → List AV) (B : Nat) : DSumsOk (⟨Try.prog, G, B⟩ : Ctx) progIa := .cons (szS_ok G B) (.cons (rszS_ok G B) (.cons (wdS_of G B fun G B x h => wd_call G B x h) (.cons (wdS_of G B fun G B x h => wd2_call G B x h) .nil)))
theorem t43 (G : Nat → List AV) (a r z : Int) (n : Nat) (Q : Ex → List AV → Hp → Prop) (R : AV → Hp → Prop) : vT G Q R (dcall (Dc Try.prog [] progIa [] 0) 100 20 Try.f43 [.agg (.of [.int .i64 (.var 1 a), .int .i64 (.var 2 r), .slice true (.ro (.lit 0)) (.lit 0) (.var 3 n), .int .i64 (.var 4 z)])] [] 0) = (
    (decide ((z : Int) < 0) = true →
      R (.bool (false)) []) ∧
    (decide ((z : Int) < 0) = false →
      (decide ((z : Int) > 8192) = true →
        R (.bool (false)) []) ∧
      (decide ((z : Int) > 8192) = false →
        (decide ((((n : Nat) : Int) : Int) > 8192) = true →
          R (.bool (false)) []) ∧
        (decide ((((n : Nat) : Int) : Int) > 8192) = false →
          (decide ((a : Int) < 0) = true →
            R (.bool (false)) []) ∧
          (decide ((a : Int) < 0) = false →
            (decide ((a : Int) > 8192) = true →
              R (.bool (false)) []) ∧
            (decide ((a : Int) > 8192) = false →
              (((Int.tmod (a) (256) : Int) == 0) = true →
                (decide ((r : Int) ≥ 1) = true →
                  (decide ((r : Int) ≤ 7) = true →
                    (decide ((szU [.int .i64 (((n : Nat) : Int)), .int .i64 (z)] : Int) ≥ 1) = true →
                      R (.bool (decide ((IntKind.wrap .i64 (a + szU [.int .i64 (((n : Nat) : Int)), .int .i64 (z)]) : Int) ≤ 8192))) []) ∧
                    (decide ((szU [.int .i64 (((n : Nat) : Int)), .int .i64 (z)] : Int) ≥ 1) = false →
                      R (.bool (false)) [])) ∧
                  (decide ((r : Int) ≤ 7) = false →
                    R (.bool (false)) [])) ∧
                (decide ((r : Int) ≥ 1) = false →
                  R (.bool (false)) [])) ∧
              (((Int.tmod (a) (256) : Int) == 0) = false →
                R (.bool (false)) []))))))) := by kernel_rfl
theorem t45 (G : Nat → List AV) (a r z : Int) (n : Nat) (Q : Ex → List AV → Hp → Prop) (R : AV → Hp → Prop) : vT G Q R (dcall (Dc Try.prog [] progIa [] 0) 100 20 Try.f45 [.agg (.of [.int .i64 (.var 1 a), .int .i64 (.var 2 r), .slice true (.ro (.lit 0)) (.lit 0) (.var 3 n), .int .i64 (.var 4 z)])] [] 0) = (
    (decide ((a : Int) ≥ 0) = true →
      (decide ((a : Int) ≤ 8192) = true →
        (((Int.tmod (a) (256) : Int) == 0) = true →
          (decide ((r : Int) ≥ 1) = true →
            (decide ((r : Int) ≤ 7) = true →
              (decide ((rszU [.int .i64 (((n : Nat) : Int)), .int .i64 (z)] : Int) ≥ 1) = true →
                R (.bool (decide ((rszU [.int .i64 (((n : Nat) : Int)), .int .i64 (z)] : Int) ≤ IntKind.wrap .i64 (8192 - a)))) []) ∧
              (decide ((rszU [.int .i64 (((n : Nat) : Int)), .int .i64 (z)] : Int) ≥ 1) = false →
                R (.bool (false)) [])) ∧
            (decide ((r : Int) ≤ 7) = false →
              R (.bool (false)) [])) ∧
          (decide ((r : Int) ≥ 1) = false →
            R (.bool (false)) [])) ∧
        (((Int.tmod (a) (256) : Int) == 0) = false →
          R (.bool (false)) [])) ∧
      (decide ((a : Int) ≤ 8192) = false →
        R (.bool (false)) [])) ∧
    (decide ((a : Int) ≥ 0) = false →
      R (.bool (false)) [])) := by kernel_rfl
theorem t46 (G : Nat → List AV) (a r z : Int) (n : Nat) (Q : Ex → List AV → Hp → Prop) (R : AV → Hp → Prop) : vT G Q R (dcall (Dc Try.prog [] progIa [] 0) 100 20 Try.f46 [.agg (.of [.int .i64 (.var 1 a), .int .i64 (.var 2 r), .slice true (.ro (.lit 0)) (.lit 0) (.var 3 n), .int .i64 (.var 4 z)])] [] 0) = (
    R (.int .i64 (IntKind.wrap .i64 (IntKind.wrap .i64 (Int.tdiv (IntKind.wrap .i64 (IntKind.wrap .i64 (IntKind.wrap .i64 (a + rszU [.int .i64 (((n : Nat) : Int)), .int .i64 (z)]) + 256) - 1)) (256)) * 256))) []) := by kernel_rfl
theorem secB_iff {a r z : Int} {n : Nat} : secB a r n z = true ↔ (0 ≤ z ∧ z ≤ 8192 ∧ n ≤ 8192) ∧ (0 ≤ a ∧ a ≤ 8192 ∧ a % 256 = 0) ∧ (1 ≤ r ∧ r ≤ 7) ∧ 1 ≤ (n : Int) + z ∧ a + (n + z) ≤ 8192 := by
  simp only [secB, Bool.and_eq_true, decide_eq_true_eq]
theorem sec_no {a r z : Int} {n : Nat} (h : ¬ ((0 ≤ z ∧ z ≤ 8192 ∧ n ≤ 8192) ∧ (0 ≤ a ∧ a ≤ 8192 ∧ a % 256 = 0) ∧ (1 ≤ r ∧ r ≤ 7) ∧ 1 ≤ (n : Int) + z ∧ a + (n + z) ≤ 8192)) : secB a r n z = false := by
  cases e : secB a r n z with
  | false => rfl
  | true => exact absurd (secB_iff.1 e) h
theorem szU_eq {n : Nat} {z : Int} : szU [.int .i64 (n : Int), .int .i64 z] = szF n z := by simp only [szU, int_nat]
theorem rszU_eq {n : Nat} {z : Int} : rszU [.int .i64 (n : Int), .int .i64 z] = rszF n z := by simp only [rszU, int_nat]
theorem tmod256 {a : Int} (h : 0 ≤ a) : ((Int.tmod a 256 : Int) == 0) = decide (a % 256 = 0) := by
  rw [Int.tmod_eq_emod_of_nonneg h, Bool.eq_iff_iff, beq_iff_eq, decide_eq_true_iff]
theorem sec_call (G : Nat → List AV) (B : Nat) (a r z : Int) (n : Nat) : ACalls (⟨Try.prog, G, B⟩ : Ctx) 43 [.agg [.int .i64 a, .int .i64 r, .slice true (.ro 0) 0 n, .int .i64 z]] [] fun v _ => v = .bool (secB a r n z) := by
  have := dcall_ok (C := (⟨Try.prog, G, B⟩ : Ctx)) (fuel := 100) (n0 := 20) (f := 43) (fn := Try.f43) (args := [.agg (.of [.int .i64 (.var 1 a), .int .i64 (.var 2 r), .slice true (.ro (.lit 0)) (.lit 0) (.var 3 n), .int .i64 (.var 4 z)])]) (H := []) (keep := 0)
    (R := fun v _ => v = .bool (secB a r n z)) (by rw [show loopsOf (bodyOf Try.f43) = [] by kernel_rfl]; exact dgood (inl := []) (ls := []) (M := 0) (mixI G B) (by kernel_rfl) (progIa_ok G B) .nil) (by kernel_rfl) (by kernel_rfl) (by kernel_rfl) (by
    rw [t43 G a r z n, szU_eq]
    refine ⟨fun h1 => ?_, fun h1 => ⟨fun h2 => ?_, fun h2 => ⟨fun h3 => ?_, fun h3 => ⟨fun h4 => ?_, fun h4 => ⟨fun h5 => ?_, fun h5 => ?_⟩⟩⟩⟩⟩
    · have := of_decide_eq_true h1; rw [sec_no (by omega)]
    · have := of_decide_eq_true h2; rw [sec_no (by omega)]
    · have := of_decide_eq_true h3; rw [sec_no (by omega)]
    · have := of_decide_eq_true h4; rw [sec_no (by omega)]
    · have := of_decide_eq_true h5; rw [sec_no (by omega)]
    · have h1 := of_decide_eq_false h1; have h2 := of_decide_eq_false h2; have h3 := of_decide_eq_false h3; have h4 := of_decide_eq_false h4; have h5 := of_decide_eq_false h5
      have e : szF n z = (n : Int) + z := i64_in (by omega)
      rw [e, i64_in (by omega), tmod256 (by omega)]
      refine ⟨fun h6 => ⟨fun h7 => ⟨fun h8 => ⟨fun h9 => ?_, fun h9 => ?_⟩, fun h8 => ?_⟩, fun h7 => ?_⟩, fun h6 => ?_⟩
      · have h6 := of_decide_eq_true h6; have h7 := of_decide_eq_true h7; have h8 := of_decide_eq_true h8; have h9 := of_decide_eq_true h9
        congr 1
        rw [Bool.eq_iff_iff, decide_eq_true_iff, secB_iff]; omega
      · have := of_decide_eq_false h9; rw [sec_no (by omega)]
      · have := of_decide_eq_false h8; rw [sec_no (by omega)]
      · have := of_decide_eq_false h7; rw [sec_no (by omega)]
      · have := of_decide_eq_false h6; rw [sec_no (by omega)])
  exact this.monoK fun v H' h => h
theorem rsec_call (G : Nat → List AV) (B : Nat) (a r z : Int) (n : Nat) : ACalls (⟨Try.prog, G, B⟩ : Ctx) 45 [.agg [.int .i64 a, .int .i64 r, .slice true (.ro 0) 0 n, .int .i64 z]] [] fun v _ => v = .bool (secB a r n z) := by
  have := dcall_ok (C := (⟨Try.prog, G, B⟩ : Ctx)) (fuel := 100) (n0 := 20) (f := 45) (fn := Try.f45) (args := [.agg (.of [.int .i64 (.var 1 a), .int .i64 (.var 2 r), .slice true (.ro (.lit 0)) (.lit 0) (.var 3 n), .int .i64 (.var 4 z)])]) (H := []) (keep := 0)
    (R := fun v _ => v = .bool (secB a r n z)) (by rw [show loopsOf (bodyOf Try.f45) = [] by kernel_rfl]; exact dgood (inl := []) (ls := []) (M := 0) (mixI G B) (by kernel_rfl) (progIa_ok G B) .nil) (by kernel_rfl) (by kernel_rfl) (by kernel_rfl) (by
    rw [t45 G a r z n, rszU_eq]
    have hr : rszF n z = if 0 ≤ z ∧ z ≤ 8192 ∧ n ≤ 8192 then (n : Int) + z else -1 := rfl
    refine ⟨fun h1 => ⟨fun h2 => ?_, fun h2 => ?_⟩, fun h1 => ?_⟩
    · have h1 := of_decide_eq_true h1; have h2 := of_decide_eq_true h2
      rw [tmod256 (by omega), i64_in (by omega)]
      refine ⟨fun h6 => ⟨fun h7 => ⟨fun h8 => ⟨fun h9 => ?_, fun h9 => ?_⟩, fun h8 => ?_⟩, fun h7 => ?_⟩, fun h6 => ?_⟩
      · have h6 := of_decide_eq_true h6; have h7 := of_decide_eq_true h7; have h8 := of_decide_eq_true h8; have h9 := of_decide_eq_true h9
        congr 1
        rw [Bool.eq_iff_iff, decide_eq_true_iff, secB_iff]
        split at hr <;> omega
      · have := of_decide_eq_false h9
        rw [sec_no (by split at hr <;> omega)]
      · have := of_decide_eq_false h8; rw [sec_no (by omega)]
      · have := of_decide_eq_false h7; rw [sec_no (by omega)]
      · have := of_decide_eq_false h6; rw [sec_no (by omega)]
    · have := of_decide_eq_false h2; rw [sec_no (by omega)]
    · have := of_decide_eq_false h1; rw [sec_no (by omega)])
  exact this.monoK fun v H' h => h
def upF (a : Int) (n : Nat) (z : Int) : Int := IntKind.wrap .i64 (IntKind.wrap .i64 (Int.tdiv (IntKind.wrap .i64 (IntKind.wrap .i64 (IntKind.wrap .i64 (a + rszF n z) + 256) - 1)) 256) * 256)
theorem up_val {a r z : Int} {n : Nat} (h : secB a r n z = true) : upF a n z = (a + n + z + 255) / 256 * 256 := by
  have h := secB_iff.1 h
  have e : rszF n z = (n : Int) + z := if_pos ⟨by omega, by omega, by omega⟩
  unfold upF
  rw [e, i64_in (n := a + (n + z)) (by omega), i64_in (n := a + (n + z) + 256) (by omega), i64_in (n := a + (n + z) + 256 - 1) (by omega), Int.tdiv_eq_ediv_of_nonneg (by omega), i64_in (n := (a + (n + z) + 256 - 1) / 256) (by omega), i64_in (by omega)]
  congr 2
  omega
theorem up_call (G : Nat → List AV) (B : Nat) (a r z : Int) (n : Nat) : ACalls (⟨Try.prog, G, B⟩ : Ctx) 46 [.agg [.int .i64 a, .int .i64 r, .slice true (.ro 0) 0 n, .int .i64 z]] [] fun v _ => v = .int .i64 (upF a n z) := by
  have := dcall_ok (C := (⟨Try.prog, G, B⟩ : Ctx)) (fuel := 100) (n0 := 20) (f := 46) (fn := Try.f46) (args := [.agg (.of [.int .i64 (.var 1 a), .int .i64 (.var 2 r), .slice true (.ro (.lit 0)) (.lit 0) (.var 3 n), .int .i64 (.var 4 z)])]) (H := []) (keep := 0)
    (R := fun v _ => v = .int .i64 (upF a n z)) (by rw [show loopsOf (bodyOf Try.f46) = [] by kernel_rfl]; exact dgood (inl := []) (ls := []) (M := 0) (mixI G B) (by kernel_rfl) (progIa_ok G B) .nil) (by kernel_rfl) (by kernel_rfl) (by kernel_rfl) (by
    rw [t46 G a r z n, rszU_eq]; rfl)
  exact this.monoK fun v H' h => h
def upU : List AV → Int := fun xs => match xs with
  | [.int _ a, .int _ n, .int _ z] => upF a n.toNat z
  | _ => 0
def secS : DSum := fun args _ => match args with
  | [.agg (.of [.int .i64 a, .int .i64 r, sl, .int .i64 z])] => match slN sl with
    | some n => some (.one (.bool (.uf 1702 secU [.int .i64 a, .int .i64 r, .int .i64 (.ofN n), .int .i64 z])) [])
    | none => none
  | _ => none
theorem secS_of (G : Nat → List AV) (B : Nat) {f : Nat} (h : ∀ (G : Nat → List AV) (B : Nat) (a r z : Int) (n : Nat), ACalls (⟨Try.prog, G, B⟩ : Ctx) f [.agg [.int .i64 a, .int .i64 r, .slice true (.ro 0) 0 n, .int .i64 z]] [] fun v _ => v = .bool (secB a r n z)) : DSumOk (⟨Try.prog, G, B⟩ : Ctx) f secS := by
  intro args H o ho
  unfold secS at ho
  split at ho
  · rename_i a r sl z
    split at ho
    · rename_i n hs
      simp only [Option.some.injEq] at ho
      subst ho
      refine DOut.sec (C := (⟨Try.prog, G, B⟩ : Ctx)) hs (fun B' => ?_) ⟨rfl, rfl⟩
      refine (h (fun _ => []) B' _ _ _ _).monoK fun v _ e => ?_
      rw [e]; simp only [vV, vI, vB, vVs, vN, secU, int_nat]
    · simp at ho
  · simp at ho
def upS : DSum := fun args _ => match args with
  | [.agg (.of [.int .i64 a, .int .i64 _, sl, .int .i64 z])] => match slN sl with
    | some n => some (.one (.int .i64 (.uf 1705 upU [.int .i64 a, .int .i64 (.ofN n), .int .i64 z])) [])
    | none => none
  | _ => none
theorem upS_ok (G : Nat → List AV) (B : Nat) : DSumOk (⟨Try.prog, G, B⟩ : Ctx) 46 upS := by
  intro args H o ho
  unfold upS at ho
  split at ho
  · rename_i a r sl z
    split at ho
    · rename_i n hs
      simp only [Option.some.injEq] at ho
      subst ho
      refine DOut.sec (C := (⟨Try.prog, G, B⟩ : Ctx)) hs (fun B' => ?_) ⟨rfl, rfl⟩
      refine (up_call (fun _ => []) B' _ _ _ _).monoK fun v _ e => ?_
      rw [e]; simp only [vV, vI, vVs, vN, upU, int_nat]
    · simp at ho
  · simp at ho
def progIb : List (Nat × DSum) := (43, secS) :: (45, secS) :: (46, upS) :: progIa
theorem progIb_ok (G : Nat → List AV) (B : Nat) : DSumsOk (⟨Try.prog, G, B⟩ : Ctx) progIb := .cons (secS_of G B fun G B a r z n => sec_call G B a r z n) (.cons (secS_of G B fun G B a r z n => rsec_call G B a r z n) (.cons (upS_ok G B) (progIa_ok G B)))
end Go.Am
