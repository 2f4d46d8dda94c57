/-
  Filters: the summaries of what two filters have both; the least packet.
-/
import Derived.Test.YtnkcfoicbkobbaaFlM
namespace Go.Am
open Go.Proofs
set_option maxRecDepth 100000
theorem ct2_ct {cs ds : List AV} {n m : Nat} : ct2 (ctT cs n) n (ctT ds m) m = ct2 cs n ds m := by unfold ct2; rw [ctT_ctT, ctT_ctT]
theorem bo_ct {cs ds : List AV} {n m : Nat} : boE (ctT cs n) n (ctT ds m) m = boE cs n ds m ∧ boK (ctT cs n) n (ctT ds m) m = boK cs n ds m ∧ boC (ctT cs n) n (ctT ds m) m = boC cs n ds m := by
  have e : boE (ctT cs n) n (ctT ds m) m = boE cs n ds m := by unfold boE; rw [ct2_ct, mayB_ct, mayB_ct]
  refine ⟨e, ?_, ?_⟩
  · unfold boK; rw [e, ct2_ct]
  · unfold boC; rw [e, ct2_ct]
theorem ap_ct {cs ds : List AV} {n m : Nat} : apE (ctT cs n) n (ctT ds m) m = apE cs n ds m ∧ apB (ctT cs n) n (ctT ds m) m = apB cs n ds m ∧ wiB (ctT cs n) n (ctT ds m) m = wiB cs n ds m := by
  unfold apE apB wiB; rw [ct2_ct, mayB_ct, mayB_ct, ctT_ctT]; exact ⟨rfl, rfl, rfl⟩
theorem ne_ct {cs : List AV} {n : Nat} : neB (ctT cs n) n = neB cs n := by unfold neB; rw [mayB_ct, ctT_ctT]
def boEU : List AV → Int := fun xs => match xs with
  | [.agg cs, .int _ n, .agg ds, .int _ m] => boE cs n.toNat ds m.toNat
  | _ => 0
def boKU : List AV → Nat := fun xs => match xs with
  | [.agg cs, .int _ n, .agg ds, .int _ m] => boK cs n.toNat ds m.toNat
  | _ => 0
def boCU : List AV → List AV := fun xs => match xs with
  | [.agg cs, .int _ n, .agg ds, .int _ m] => boC cs n.toNat ds m.toNat
  | _ => []
def apEU : List AV → Int := fun xs => match xs with
  | [.agg cs, .int _ n, .agg ds, .int _ m] => apE cs n.toNat ds m.toNat
  | _ => 0
def apBU : List AV → Bool := fun xs => match xs with
  | [.agg cs, .int _ n, .agg ds, .int _ m] => apB cs n.toNat ds m.toNat
  | _ => false
def wiBU : List AV → Bool := fun xs => match xs with
  | [.agg cs, .int _ n, .agg ds, .int _ m] => wiB cs n.toNat ds m.toNat
  | _ => false
def neBU : List AV → Bool := fun xs => match xs with
  | [.agg cs, .int _ n] => neB cs n.toNat
  | _ => false
section
variable {C : Ctx}
theorem DOut.i1 {f : FuncId} {x : EV} {rest : List EV} {H : DHp} {v : EV} {L : EL} {n : EN} {F : List AV → Nat → AV} (hx : rdT H x = some (L, n)) (h1 : okI .i64 (vL C.G L) 0 (vN C.G n * 3) = true) (hr : norws (vVs C.G rest) = true ∧ noros (vVs C.G rest) = true)
    (h : ∀ (G : Nat → List AV) (B : Nat) (k n : Nat), okI .i64 (G k) 0 (n * 3) = true → ACalls ⟨C.P, G, B⟩ f (.slice true (.ro k) 0 n :: vVs C.G rest) [] fun v' _ => v' = F (G k) n) (hv : vV C.G v = F (ctT (vL C.G L) (vN C.G n)) (vN C.G n)) (hf : bnd 0 (vV C.G v) = true ∧ noro (vV C.G v) = true) : DOut C f (x :: rest) H v [] :=
  DOut.rd1 (C := C) (vN C.G n * 3) hx (okI_flatN h1) hr (fun G' B' e => by
    have e : G' 0 = ctT (vL C.G L) (vN C.G n) := e
    rw [hv, ← e]
    exact h G' B' 0 (vN C.G n) (by rw [e]; unfold ctT; rw [okI_take]; exact h1)) hf
theorem DOut.i2 {f : FuncId} {x y : EV} {rest : List EV} {H : DHp} {v : EV} {L L' : EL} {n m : EN} {F : List AV → Nat → List AV → Nat → AV} (hx : rdT H x = some (L, n)) (hy : rdT H y = some (L', m)) (h1 : okI .i64 (vL C.G L) 0 (vN C.G n * 3) = true) (h2 : okI .i64 (vL C.G L') 0 (vN C.G m * 3) = true) (hr : norws (vVs C.G rest) = true ∧ noros (vVs C.G rest) = true)
    (h : ∀ (G : Nat → List AV) (B : Nat) (k n k2 m : Nat), okI .i64 (G k) 0 (n * 3) = true → okI .i64 (G k2) 0 (m * 3) = true → ACalls ⟨C.P, G, B⟩ f (.slice true (.ro k) 0 n :: .slice true (.ro k2) 0 m :: vVs C.G rest) [] fun v' _ => v' = F (G k) n (G k2) m) (hv : vV C.G v = F (ctT (vL C.G L) (vN C.G n)) (vN C.G n) (ctT (vL C.G L') (vN C.G m)) (vN C.G m)) (hf : bnd 0 (vV C.G v) = true ∧ noro (vV C.G v) = true) : DOut C f (x :: y :: rest) H v [] :=
  DOut.rd2 (C := C) (vN C.G n * 3) (vN C.G m * 3) hx hy (okI_flatN h1) (okI_flatN h2) hr (fun G' B' e e' => by
    have e : G' 0 = ctT (vL C.G L) (vN C.G n) := e
    have e' : G' 1 = ctT (vL C.G L') (vN C.G m) := e'
    rw [hv, ← e, ← e']
    exact h G' B' 0 (vN C.G n) 1 (vN C.G m) (by rw [e]; unfold ctT; rw [okI_take]; exact h1) (by rw [e']; unfold ctT; rw [okI_take]; exact h2)) hf
theorem DOut.j2 {f : FuncId} {x y : EV} {rest : List EV} {H : DHp} {v : EV} {b : DBlk} {L L' : EL} {n m : EN} {F : List AV → Nat → List AV → Nat → AV} {Bk : List AV → Nat → List AV → Nat → Blk} (hx : rdT H x = some (L, n)) (hy : rdT H y = some (L', m)) (h1 : okI .i64 (vL C.G L) 0 (vN C.G n * 3) = true) (h2 : okI .i64 (vL C.G L') 0 (vN C.G m * 3) = true) (hr : norws (vVs C.G rest) = true ∧ noros (vVs C.G rest) = true)
    (h : ∀ (G : Nat → List AV) (B : Nat) (k n k2 m : Nat), okI .i64 (G k) 0 (n * 3) = true → okI .i64 (G k2) 0 (m * 3) = true → ACalls ⟨C.P, G, B⟩ f (.slice true (.ro k) 0 n :: .slice true (.ro k2) 0 m :: vVs C.G rest) [] fun v' H' => v' = F (G k) n (G k2) m ∧ H' = [some (Bk (G k) n (G k2) m)]) (hn : noro (F (ctT (vL C.G L) (vN C.G n)) (vN C.G n) (ctT (vL C.G L') (vN C.G m)) (vN C.G m)) = true) (hb : bnds 0 (vL C.G b.cells) = true ∧ noros (vL C.G b.cells) = true) (hB : vBlk C.G b = Bk (ctT (vL C.G L) (vN C.G n)) (vN C.G n) (ctT (vL C.G L') (vN C.G m)) (vN C.G m)) (hv : vV C.G v = sh H.length (F (ctT (vL C.G L) (vN C.G n)) (vN C.G n) (ctT (vL C.G L') (vN C.G m)) (vN C.G m))) : DOut C f (x :: y :: rest) H v [.new b] :=
  DOut.rn2 (C := C) (vN C.G n * 3) (vN C.G m * 3) hx hy (okI_flatN h1) (okI_flatN h2) hr (fun G' B' e e' => by
    have e : G' 0 = ctT (vL C.G L) (vN C.G n) := e
    have e' : G' 1 = ctT (vL C.G L') (vN C.G m) := e'
    rw [hB, ← e, ← e']
    exact h G' B' 0 (vN C.G n) 1 (vN C.G m) (by rw [e]; unfold ctT; rw [okI_take]; exact h1) (by rw [e']; unfold ctT; rw [okI_take]; exact h2)) hn hb hv
theorem DOut.j1 {f : FuncId} {x : EV} {rest : List EV} {H : DHp} {v : EV} {b : DBlk} {L : EL} {n : EN} {F : List AV → Nat → AV} {Bk : List AV → Nat → Blk} (hx : rdT H x = some (L, n)) (h1 : okI .i64 (vL C.G L) 0 (vN C.G n * 3) = true) (hr : norws (vVs C.G rest) = true ∧ noros (vVs C.G rest) = true)
    (h : ∀ (G : Nat → List AV) (B : Nat) (k n : Nat), okI .i64 (G k) 0 (n * 3) = true → ACalls ⟨C.P, G, B⟩ f (.slice true (.ro k) 0 n :: vVs C.G rest) [] fun v' H' => v' = F (G k) n ∧ H' = [some (Bk (G k) n)]) (hn : noro (F (ctT (vL C.G L) (vN C.G n)) (vN C.G n)) = true) (hb : bnds 0 (vL C.G b.cells) = true ∧ noros (vL C.G b.cells) = true) (hB : vBlk C.G b = Bk (ctT (vL C.G L) (vN C.G n)) (vN C.G n)) (hv : vV C.G v = sh H.length (F (ctT (vL C.G L) (vN C.G n)) (vN C.G n))) : DOut C f (x :: rest) H v [.new b] :=
  DOut.rn1 (C := C) (vN C.G n * 3) hx (okI_flatN h1) hr (fun G' B' e => by
    have e : G' 0 = ctT (vL C.G L) (vN C.G n) := e
    rw [hB, ← e]
    exact h G' B' 0 (vN C.G n) (by rw [e]; unfold ctT; rw [okI_take]; exact h1)) hn hb hv
end
def boS : DSum := fun args H => match args with
  | [x, y] => match rdT H x, rdT H y with
    | some (l, n), some (l2, m) => some (.chk (.uf 1601 rowsU [.agg l, .int .i64 (.ofN n)]) (.chk (.uf 1601 rowsU [.agg l2, .int .i64 (.ofN m)]) (.one (.tup [.slice true (.rw H.length) (.lit 0) (.uf 1645 boKU [.agg l, .int .i64 (.ofN n), .agg l2, .int .i64 (.ofN m)]), .int .i64 (.uf 1646 boEU [.agg l, .int .i64 (.ofN n), .agg l2, .int .i64 (.ofN m)])]) [.new ⟨3, .uf 1647 boCU [.agg l, .int .i64 (.ofN n), .agg l2, .int .i64 (.ofN m)]⟩])))
    | _, _ => none
  | _ => none
theorem boS_ok (G : Nat → List AV) (B : Nat) : DSumOk (⟨Try.prog, G, B⟩ : Ctx) 21 boS := by
  intro args H o ho
  unfold boS at ho
  split at ho
  · rename_i x y
    split at ho
    · rename_i l n l2 m hx hy
      simp only [Option.some.injEq] at ho
      subst ho
      intro h1 h2
      refine DOut.j2 (C := (⟨Try.prog, G, B⟩ : Ctx)) (F := fun cs n ds m => .tup [.slice true (.rw 0) 0 (boK cs n ds m), .int .i64 (boE cs n ds m)]) (Bk := fun cs n ds m => ⟨3, boC cs n ds m⟩) hx hy h1 h2 ⟨rfl, rfl⟩ (fun G B k n k2 m q1 q2 => bo_call G B k n k2 m q1 q2) rfl pp_flat ?_ ?_
      · rw [bo_ct.2.2]; rfl
      · rw [bo_ct.2.1, bo_ct.1]; rfl
    · simp at ho
  · simp at ho
def apS : DSum := fun args H => match args with
  | [x, y] => match rdT H x, rdT H y with
    | some (l, n), some (l2, m) => some (.chk (.uf 1601 rowsU [.agg l, .int .i64 (.ofN n)]) (.chk (.uf 1601 rowsU [.agg l2, .int .i64 (.ofN m)]) (.one (.tup [.bool (.uf 1648 apBU [.agg l, .int .i64 (.ofN n), .agg l2, .int .i64 (.ofN m)]), .int .i64 (.uf 1649 apEU [.agg l, .int .i64 (.ofN n), .agg l2, .int .i64 (.ofN m)])]) [])))
    | _, _ => none
  | _ => none
theorem apS_ok (G : Nat → List AV) (B : Nat) : DSumOk (⟨Try.prog, G, B⟩ : Ctx) 20 apS := by
  intro args H o ho
  unfold apS at ho
  split at ho
  · rename_i x y
    split at ho
    · rename_i l n l2 m hx hy
      simp only [Option.some.injEq] at ho
      subst ho
      intro h1 h2
      refine DOut.i2 (C := (⟨Try.prog, G, B⟩ : Ctx)) (F := fun cs n ds m => .tup [.bool (apB cs n ds m), .int .i64 (apE cs n ds m)]) hx hy h1 h2 ⟨rfl, rfl⟩ (fun G B k n k2 m q1 q2 => ap_call G B k n k2 m q1 q2) ?_ ⟨rfl, rfl⟩
      rw [ap_ct.2.1, ap_ct.1]; rfl
    · simp at ho
  · simp at ho
def wiS : DSum := fun args H => match args with
  | [x, y] => match rdT H x, rdT H y with
    | some (l, n), some (l2, m) => some (.chk (.uf 1601 rowsU [.agg l, .int .i64 (.ofN n)]) (.chk (.uf 1601 rowsU [.agg l2, .int .i64 (.ofN m)]) (.one (.tup [.bool (.uf 1650 wiBU [.agg l, .int .i64 (.ofN n), .agg l2, .int .i64 (.ofN m)]), .int .i64 (.uf 1649 apEU [.agg l, .int .i64 (.ofN n), .agg l2, .int .i64 (.ofN m)])]) [])))
    | _, _ => none
  | _ => none
theorem wiS_ok (G : Nat → List AV) (B : Nat) : DSumOk (⟨Try.prog, G, B⟩ : Ctx) 22 wiS := by
  intro args H o ho
  unfold wiS at ho
  split at ho
  · rename_i x y
    split at ho
    · rename_i l n l2 m hx hy
      simp only [Option.some.injEq] at ho
      subst ho
      intro h1 h2
      refine DOut.i2 (C := (⟨Try.prog, G, B⟩ : Ctx)) (F := fun cs n ds m => .tup [.bool (wiB cs n ds m), .int .i64 (apE cs n ds m)]) hx hy h1 h2 ⟨rfl, rfl⟩ (fun G B k n k2 m q1 q2 => wi_call G B k n k2 m q1 q2) ?_ ⟨rfl, rfl⟩
      rw [ap_ct.2.2, ap_ct.1]; rfl
    · simp at ho
  · simp at ho
def neS : DSum := fun args H => match args with
  | [x] => match rdT H x with
    | some (l, n) => some (.chk (.uf 1601 rowsU [.agg l, .int .i64 (.ofN n)]) (.one (.tup [.bool (.uf 1651 neBU [.agg l, .int .i64 (.ofN n)]), .int .i64 (.uf 1603 chkU [.agg l, .int .i64 (.ofN n)])]) []))
    | none => none
  | _ => none
theorem neS_ok (G : Nat → List AV) (B : Nat) : DSumOk (⟨Try.prog, G, B⟩ : Ctx) 13 neS := by
  intro args H o ho
  unfold neS at ho
  split at ho
  · split at ho
    · rename_i x l n hx
      simp only [Option.some.injEq] at ho
      subst ho
      intro h1
      refine DOut.i1 (C := (⟨Try.prog, G, B⟩ : Ctx)) (F := fun cs n => .tup [.bool (neB cs n), .int .i64 (if mayB cs n then 0 else 2)]) hx h1 ⟨rfl, rfl⟩ (fun G B k n h => ne_call G B k n h) ?_ ⟨rfl, rfl⟩
      rw [ne_ct, mayB_ct]; rfl
    · simp at ho
  · simp at ho
def progN : List (Nat × DSum) := (21, boS) :: (20, apS) :: (22, wiS) :: (13, neS) :: progM
theorem progN_ok (G : Nat → List AV) (B : Nat) : DSumsOk (⟨Try.prog, G, B⟩ : Ctx) progN := .cons (boS_ok G B) (.cons (apS_ok G B) (.cons (wiS_ok G B) (.cons (neS_ok G B) (progM_ok G B))))
/-! ### the least packet -/
def zs (i : Nat) : List AV := List.replicate i (.int .u8 0)
theorem zs_len (i : Nat) : (zs i).length = i := List.length_replicate
def leW (r : List AV) : Nat → List AV
  | 0 => []
  | j + 1 => (leW r j ++ zs ((tA r j).toNat + 1 - (leW r j).length)).set (tA r j).toNat (.int .u8 (IntKind.u8.wrap (tV r j)))
theorem w1_b (G : Nat → List AV) (r c z : List AV) (x y j : Nat) (Q : Ex → List AV → Hp → Prop) (R : AV → Hp → Prop) : vT G Q R (dloop (Dc Try.prog [] [] [] 1) 300 20 1 (loopN Try.f15 1) 40 [2, 3, 6, 8, 17, 18, 19] [.nils, .int .i64 (.lit 0), .slice true (.rw 1) (.lit 0) (.var 5 x), .ptr (.rw 2) (.lit 0), .slice true (.rw 0) (.lit 0) (.var 6 y), .int .i64 (.ofN (.var 6 y)), .int .i64 (.ofN (.var 7 j))] [some ⟨3, .var 8 r⟩, some ⟨1, .var 9 z⟩, some ⟨1, .var 10 c⟩]) = (
    isI .i64 c (0) = true ∧
    (decide ((((x : Nat) : Int) : Int) ≤ getI c (0)) = true →
      leB (x + 1) (140737488355328) = true ∧
      Nat.beq (List.length z) (x) = true ∧
      Q .normal [.nils, .int .i64 (0), .slice true (.rw 4) (0) (x + 1), .ptr (.rw 2) (0), .slice true (.rw 0) (0) (y), .int .i64 (((y : Nat) : Int)), .int .i64 (((j : Nat) : Int))] [some ⟨3, r⟩, none, some ⟨1, c⟩, some ⟨1, ([.int .u8 (0)] : List AV)⟩, some ⟨1, (z ++ ([.int .u8 (0)] : List AV))⟩]) ∧
    (decide ((((x : Nat) : Int) : Int) ≤ getI c (0)) = false →
      Q (.exit 2) [.nils, .int .i64 (0), .slice true (.rw 1) (0) (x), .ptr (.rw 2) (0), .slice true (.rw 0) (0) (y), .int .i64 (((y : Nat) : Int)), .int .i64 (((j : Nat) : Int))] [some ⟨3, r⟩, some ⟨1, z⟩, some ⟨1, c⟩])) := by kernel_rfl
def rw3 (r : List AV) (j : Nat) : List AV := subL r (j * 3) 3
theorem rw3_get {r : List AV} {j i : Nat} (hi : i < 3) : getI (rw3 r j) i = getI r (j * 3 + i) ∧ isI .i64 (rw3 r j) i = isI .i64 r (j * 3 + i) := by
  unfold rw3 subL getI isI
  rw [List.getElem?_take, if_pos hi, List.getElem?_drop]
  exact ⟨rfl, rfl⟩
theorem ints_of {r : List AV} {y : Nat} (h : okT r y = true) : r.all isI64V = true := by
  obtain ⟨hl, hn, hk, ho⟩ := okT_iff.1 h
  rw [List.all_eq_true]; intro v hv
  obtain ⟨i, hi, e⟩ := List.getElem_of_mem hv
  have := okI_get hk (j := i) (by omega)
  rw [Nat.zero_add] at this
  unfold isI at this
  rw [List.getElem?_eq_getElem hi, e] at this
  cases v with
  | int k n => have := of_decide_eq_true this; subst this; rfl
  | _ => simp at this
theorem rw3_ints {r : List AV} {y j : Nat} (h : okT r y = true) : (rw3 r j).all isI64V = true := by
  have := ints_of h
  rw [List.all_eq_true] at *
  intro v hv
  unfold rw3 subL at hv
  exact this v (List.mem_of_mem_drop (List.mem_of_mem_take hv))
def u8V : AV → Bool
  | .int .u8 _ => true
  | _ => false
theorem u8s_flat {l : List AV} (h : l.all u8V = true) : bnds 0 l = true ∧ noros l = true ∧ noRcds l = true ∧ ∀ m, m ≤ l.length → okI .u8 l 0 m = true := by
  rw [List.all_eq_true] at h
  have key : ∀ v ∈ l, ∃ n, v = .int .u8 n := by
    intro v hv
    have := h v hv
    cases v with
    | int k n => cases k <;> simp [u8V] at this; exact ⟨n, rfl⟩
    | _ => simp [u8V] at this
  refine ⟨?_, ?_, noRcds_of fun v hv => ?_, fun m hm => okI_of fun j hj => ?_⟩
  · rw [bnds_eq, List.all_eq_true]; intro v hv; obtain ⟨n, rfl⟩ := key v hv; rfl
  · rw [noros_eq, List.all_eq_true]; intro v hv; obtain ⟨n, rfl⟩ := key v hv; rfl
  · obtain ⟨n, rfl⟩ := key v hv; rfl
  · rw [Nat.zero_add]
    have hj' : j < l.length := by omega
    obtain ⟨n, e⟩ := key l[j] (List.getElem_mem hj')
    unfold isI
    rw [List.getElem?_eq_getElem hj', e]
    rfl
theorem leW_u8 {r : List AV} : ∀ j, (leW r j).all u8V = true
  | 0 => rfl
  | j + 1 => by
    have h := leW_u8 (r := r) j
    simp only [leW]
    rw [List.all_eq_true] at *
    intro v hv
    rcases List.mem_or_eq_of_mem_set hv with hv | rfl
    · rcases List.mem_append.1 hv with hv | hv
      · exact h v hv
      · rw [(List.mem_replicate.1 hv).2]; rfl
    · rfl
theorem leW_len {r : List AV} {y : Nat} (ho : okF r y) : ∀ {j : Nat}, j ≤ y → (leW r j).length ≤ 64
  | 0, _ => by simp [leW]
  | j + 1, h => by
    have ih := leW_len ho (j := j) (by omega)
    have hb := okTst_iff.1 (ho j (by omega))
    simp only [leW, List.length_set, List.length_append, zs_len]
    omega
def padU : List AV → List AV := fun xs => match xs with
  | [.agg r, .int _ j] => leW r j.toNat ++ zs ((tA r j.toNat).toNat + 1 - (leW r j.toNat).length)
  | _ => []
def padN : List AV → Nat := fun xs => match xs with
  | [.agg r, .int _ j] => (leW r j.toNat ++ zs ((tA r j.toNat).toNat + 1 - (leW r j.toNat).length)).length
  | _ => 0
def w1Q (r : List AV) (y j x : Nat) : List AV → Bool := stQ (okT r y && (Nat.ble (j + 1) y && Nat.beq x (leW r j).length)) [.nils, .int .i64 0, .slice true (.rw 1) 0 x, .ptr (.rw 2) 0, .slice true (.rw 0) 0 y, .int .i64 (y : Int), .int .i64 (j : Int)] [some ⟨3, r⟩, some ⟨1, leW r j⟩, some ⟨1, rw3 r j⟩]
def w1O (r c : List AV) (y j : Nat) : LOut := .one (.exit 2) [.nils, .int .i64 (.lit 0), .slice true (.rw 1) (.lit 0) (.uf 1653 padN [.agg (.var 8 r), .int .i64 (.ofN (.var 7 j))]), .ptr (.rw 2) (.lit 0), .slice true (.rw 0) (.lit 0) (.var 6 y), .int .i64 (.ofN (.var 6 y)), .int .i64 (.ofN (.var 7 j))] [some ⟨3, .var 8 r⟩, some ⟨1, .uf 1654 padU [.agg (.var 8 r), .int .i64 (.ofN (.var 7 j))]⟩, some ⟨1, .var 10 c⟩]
theorem w1L_ok (G : Nat → List AV) (B : Nat) (r : List AV) (y j x : Nat) : DLoopOk (⟨Try.prog, G, B⟩ : Ctx) 1 (loopN Try.f15 1) (DLat 1655 (w1Q r y j x) 2 40 [2, 3, 6, 8, 17, 18, 19] (w1O r (rw3 r j) y j)) := by
  refine DLat_ok rfl fun h => ?_
  rw [Bool.and_eq_true, Bool.and_eq_true] at h
  obtain ⟨h, hj, hx⟩ := h
  have hx := Nat.eq_of_beq_eq_true hx
  have hj := Nat.le_of_ble_eq_true hj
  obtain ⟨hl, hn, hk, ho⟩ := okT_iff.1 h
  have hb := okTst_iff.1 (ho j (by omega))
  have hw := leW_len ho (j := j) (by omega)
  have hr := (ints_flat (ints_of h)).1
  have hc := (ints_flat (rw3_ints (j := j) h)).1
  have hz : ∀ i, (leW r j ++ zs i).all u8V = true := fun i => by
    rw [List.all_append, leW_u8, Bool.true_and, List.all_eq_true]; intro v hv; rw [(List.mem_replicate.1 hv).2]; rfl
  have hzl : ∀ i, (leW r j ++ zs i).length = x + i := fun i => by rw [List.length_append, zs_len, hx]
  have e0 : leW r j = leW r j ++ zs 0 := (List.append_nil _).symm
  rw [e0]
  refine scan ((tA r j).toNat + 1 - x) (fun i => [.nils, .int .i64 0, .slice true (.rw 1) 0 (x + i), .ptr (.rw 2) 0, .slice true (.rw 0) 0 y, .int .i64 (y : Int), .int .i64 (j : Int)]) (fun i => [some ⟨3, r⟩, some ⟨1, leW r j ++ zs i⟩, some ⟨1, rw3 r j⟩]) fun i hi => ?_
  refine dloop_ok (C := (⟨Try.prog, G, B⟩ : Ctx)) (dgM G B 1) (fuel := 300) (n0 := 20) (m := 1) (c := loopN Try.f15 1) (vs := [.nils, .int .i64 (.lit 0), .slice true (.rw 1) (.lit 0) (.var 5 (x + i)), .ptr (.rw 2) (.lit 0), .slice true (.rw 0) (.lit 0) (.var 6 y), .int .i64 (.ofN (.var 6 y)), .int .i64 (.ofN (.var 7 j))]) (H := [some ⟨3, .var 8 r⟩, some ⟨1, .var 9 (leW r j ++ zs i)⟩, some ⟨1, .var 10 (rw3 r j)⟩]) (by simp) ?_
  rw [w1_b]
  have eg : getI (rw3 r j) 0 = tA r j := (rw3_get (by omega)).1
  have ei0 := okI_get hk (j := j * 3) (by omega)
  rw [Nat.zero_add] at ei0
  rw [eg]
  refine ⟨by rw [(rw3_get (by omega)).2]; exact ei0, fun h1 => ?_, fun h1 => ?_⟩
  · have h1 := of_decide_eq_true h1
    refine ⟨leB_iff.2 (by omega), by rw [hzl]; exact Nat.beq_refl _, by omega, .inr ?_⟩
    have f1 := (u8s_flat (hz (i + 1))).1
    have e1 : leW r j ++ zs i ++ [.int .u8 0] = leW r j ++ zs (i + 1) := by rw [List.append_assoc]; unfold zs; rw [List.replicate_succ']
    rw [e1]
    exact View.renM (θ := [0, 4, 2]) (by simp) (fun i hi => by match i, hi with | 0, _ => rfl) (by decide) ⟨⟨bnds_mono (Nat.zero_le _) _ hr, by rw [rens_flat _ _ hr]; rfl⟩, ⟨bnds_mono (Nat.zero_le _) _ f1, by rw [rens_flat _ _ f1]; rfl⟩, ⟨bnds_mono (Nat.zero_le _) _ hc, by rw [rens_flat _ _ hc]; rfl⟩, trivial⟩ (by simp [bnds, bnd]) (by simp [rens, ren, wk]; omega)
  · have h1 := of_decide_eq_false h1
    have ei : i = (tA r j).toNat + 1 - x := by omega
    refine ⟨rfl, .inl ⟨?_, ?_⟩⟩
    · simp only [vVs, vV, vI, vB, vN, vR, vL, wk, padN, int_nat, hzl, and_true, true_and]
      rw [ei, hx]
    · simp only [vHp, List.map_cons, List.map_nil, Option.map_some, vBlk, vL, vVs, vV, vI, vN, padU, int_nat, ei, hx]
theorem w0_b (G : Nat → List AV) (r z c : List AV) (x y j : Nat) (Q : Ex → List AV → Hp → Prop) (R : AV → Hp → Prop) : vT G Q R (dloop (Dc Try.prog [] [] [DLat 1655 (w1Q r y j x) 2 40 [2, 3, 6, 8, 17, 18, 19] (w1O r c y j)] 1) 300 20 1 (loopN Try.f15 0) 40 [2, 3, 6, 17, 18, 19] [.nils, .int .i64 (.lit 0), .slice true (.rw 1) (.lit 0) (.var 5 x), .slice true (.rw 0) (.lit 0) (.var 6 y), .int .i64 (.ofN (.var 6 y)), .int .i64 (.ofN (.var 7 j))] [some ⟨3, .var 8 r⟩, some ⟨1, .var 9 z⟩]) = (
    (decide ((((j : Nat) : Int) : Int) < ((y : Nat) : Int)) = true →
      decide ((0 : Int) ≤ ((j : Nat) : Int)) = true ∧
      decide ((((j : Nat) : Int) : Int) < ((y : Nat) : Int)) = true ∧
      leB ((j) * 3 + 3) (List.length r) = true ∧
      cellsB (subL r ((j) * 3) (3)) = true ∧
      Nat.beq (List.length (subL r ((j) * 3) (3))) (3) = true ∧
      (w1Q r y j x) [.agg ([.nils, .int .i64 (0), .slice true (.rw 1) (0) (x), .ptr (.rw 2) (0), .slice true (.rw 0) (0) (y), .int .i64 (((y : Nat) : Int)), .int .i64 (((j : Nat) : Int))] : List AV), .agg ([.tup [.int .i64 (3), .agg r], .tup [.int .i64 (1), .agg z], .tup [.int .i64 (1), .agg (subL r ((j) * 3) (3))]] : List AV)] = true ∧
      isI .i64 c (0) = true ∧
      isI .i64 c (2) = true ∧
      decide ((0 : Int) ≤ getI c (0)) = true ∧
      decide ((getI c (0) : Int) < ((padN [.agg r, .int .i64 (((j : Nat) : Int))] : Nat) : Int)) = true ∧
      leB (Int.toNat (getI c (0)) + 1) (List.length (padU [.agg r, .int .i64 (((j : Nat) : Int))])) = true ∧
      Q .normal [.nils, .int .i64 (0), .slice true (.rw 1) (0) (padN [.agg r, .int .i64 (((j : Nat) : Int))]), .slice true (.rw 0) (0) (y), .int .i64 (((y : Nat) : Int)), .int .i64 (IntKind.wrap .i64 (((j : Nat) : Int) + 1))] [some ⟨3, r⟩, some ⟨1, (setPart (padU [.agg r, .int .i64 (((j : Nat) : Int))]) (Int.toNat (getI c (0))) (.int .u8 (IntKind.wrap .u8 (getI c (2)))))⟩, some ⟨1, c⟩]) ∧
    (decide ((((j : Nat) : Int) : Int) < ((y : Nat) : Int)) = false →
      Q (.exit 0) [.nils, .int .i64 (0), .slice true (.rw 1) (0) (x), .slice true (.rw 0) (0) (y), .int .i64 (((y : Nat) : Int)), .int .i64 (((j : Nat) : Int))] [some ⟨3, r⟩, some ⟨1, z⟩])) := by kernel_rfl
/-- a list's least packet, from an own list -/
def w0P (r : List AV) (y : Nat) : List AV → Bool := stQ (okT r y) [.nils, .int .i64 0, .nils, .slice true (.rw 0) 0 y, .int .i64 (y : Int), .int .i64 0] [some ⟨3, r⟩]
theorem leW_step {r : List AV} {j : Nat} (h : 0 ≤ tA r j) : setPart (leW r j ++ zs ((tA r j).toNat + 1 - (leW r j).length)) (tA r j).toNat (.int .u8 (IntKind.u8.wrap (tV r j))) = leW r (j + 1) := by
  simp only [leW]
  rfl
theorem w0_go (G : Nat → List AV) (B : Nat) (r : List AV) (y : Nat) (h : okT r y = true) : AWp (⟨Try.prog, G, B⟩ : Ctx) 1 (.loop (loopN Try.f15 0)) (fl 40 [2, 3, 6, 17, 18, 19] [.nils, .int .i64 0, .nils, .slice true (.rw 0) 0 y, .int .i64 (y : Int), .int .i64 0]) [some ⟨3, r⟩]
    (lv 40 [2, 3, 6, 17, 18, 19] fun e vs H => e = .exit 0 ∧ wk [.undef, .undef, .slice true (.rw 1) 0 (leW r y).length, .undef, .undef, .undef] vs ∧ H = [some ⟨3, r⟩, some ⟨1, leW r y⟩]) := by
  obtain ⟨hl, hn, hk, ho⟩ := okT_iff.1 h
  have hr := (ints_flat (ints_of h))
  refine AWp.nilL [.nils, .int .i64 0, .slice true (.rw 1) 0 0, .slice true (.rw 0) 0 y, .int .i64 (y : Int), .int .i64 0] 1 (by simp) ⟨.inl rfl, .inl rfl, .inr ⟨rfl, rfl⟩, .inl rfl, .inl rfl, .inl rfl, trivial⟩ ?_
  refine scan y (fun j => [.nils, .int .i64 0, .slice true (.rw 1) 0 (leW r j).length, .slice true (.rw 0) 0 y, .int .i64 (y : Int), .int .i64 (j : Int)]) (fun j => [some ⟨3, r⟩, some ⟨1, leW r j⟩]) fun j hj => ?_
  refine dloop_ok (C := (⟨Try.prog, G, B⟩ : Ctx)) (by rw [show loopsOf (loopN Try.f15 0) = [loopN Try.f15 1] by kernel_rfl]; exact dgood (inl := []) (ls := [DLat 1655 (w1Q r y j (leW r j).length) 2 40 [2, 3, 6, 8, 17, 18, 19] (w1O r (rw3 r j) y j)]) (M := 1) (mixF G B) (by kernel_rfl) .nil (.cons (i := 2) (by kernel_rfl) rfl (w1L_ok G B r y j _) .nil)) (fuel := 300) (n0 := 20) (m := 1) (c := loopN Try.f15 0) (vs := [.nils, .int .i64 (.lit 0), .slice true (.rw 1) (.lit 0) (.var 5 (leW r j).length), .slice true (.rw 0) (.lit 0) (.var 6 y), .int .i64 (.ofN (.var 6 y)), .int .i64 (.ofN (.var 7 j))]) (H := [some ⟨3, .var 8 r⟩, some ⟨1, .var 9 (leW r j)⟩]) (by simp) ?_
  rw [w0_b]
  have ew := leW_len ho hj
  have eN : padN [.agg r, .int .i64 (j : Int)] = (leW r j).length + ((tA r j).toNat + 1 - (leW r j).length) := by simp only [padN, int_nat, List.length_append, zs_len]
  have eU : padU [.agg r, .int .i64 (j : Int)] = leW r j ++ zs ((tA r j).toNat + 1 - (leW r j).length) := by simp only [padU, int_nat]
  have g0 : getI (rw3 r j) 0 = tA r j := (rw3_get (by omega)).1
  have g2 : getI (rw3 r j) 2 = tV r j := (rw3_get (by omega)).1
  rw [eN, eU, g0, g2]
  refine ⟨fun h1 => ?_, fun h1 => ?_⟩
  · have h1' := of_decide_eq_true h1
    have hb := okTst_iff.1 (ho j (by omega))
    have i0 := okI_get hk (j := j * 3) (by omega)
    have i2 := okI_get hk (j := j * 3 + 2) (by omega)
    rw [Nat.zero_add] at i0 i2
    have cl := ints_cells (rw3_ints (j := j) h)
    have ll : (rw3 r j).length = 3 := by unfold rw3 subL; rw [List.length_take, List.length_drop]; omega
    have nr := (ints_flat (rw3_ints (j := j) h)).2.2.1
    have es := leW_step (r := r) (j := j) hb.1.1
    refine ⟨decide_eq_true (by omega), h1, leB_iff.2 (by omega), cl, by show Nat.beq (rw3 r j).length 3 = true; rw [ll]; rfl, stQ_refl (by rw [h, Nat.ble_eq_true_of_le (by omega), Nat.beq_refl]; rfl) rfl (by
      simp only [encHB, List.map_cons, List.map_nil, noRcds, noRcd, hr.2.2.1, (u8s_flat (leW_u8 j)).2.2.1, nr]; rfl), by rw [(rw3_get (by omega)).2]; exact i0, by rw [(rw3_get (by omega)).2]; exact i2, decide_eq_true (by omega), decide_eq_true (by omega), leB_iff.2 (by rw [List.length_append, zs_len]; omega), by omega, .inr ?_⟩
    rw [es, i64_in (by omega)]
    have m2 : ∀ {l : List AV}, bnds 0 l = true → bnds 2 l = true := fun h => bnds_mono (Nat.zero_le _) _ h
    have hlen : (leW r (j + 1)).length = (leW r j).length + ((tA r j).toNat + 1 - (leW r j).length) := by simp only [leW, List.length_set, List.length_append, zs_len]
    rw [← hlen]
    exact View.same (H := [some ⟨3, r⟩, some ⟨1, leW r (j + 1)⟩]) (G := [some ⟨1, rw3 r j⟩]) (by simp) (by simp [hpB, m2 hr.1, m2 (u8s_flat (leW_u8 (j + 1))).1]) (by simp [fv, bnd])
  · have h1 := of_decide_eq_false h1
    have ej : j = y := by omega
    subst ej
    exact ⟨rfl, by simp [wk], rfl⟩
def ltU : List AV → List AV := fun xs => match xs with
  | [.agg cs, .int _ n] => leW (boC cs n.toNat [] 0) (boK cs n.toNat [] 0)
  | _ => []
def ltN : List AV → Nat := fun xs => match xs with
  | [.agg cs, .int _ n] => (leW (boC cs n.toNat [] 0) (boK cs n.toNat [] 0)).length
  | _ => 0
def w0Q (G : Nat → List AV) (k n : Nat) : List AV → Bool := w0P (boC (G k) n [] 0) (boK (G k) n [] 0)
def w0O (k n : Nat) : LOut := .one (.exit 0) [.undef, .undef, .slice true (.rw 1) (.lit 0) (.uf 1656 ltN [.agg (.ro (.var 1 k)), .int .i64 (.ofN (.var 2 n))]), .undef, .undef, .undef] [some ⟨3, .uf 1647 boCU [.agg (.ro (.var 1 k)), .int .i64 (.ofN (.var 2 n)), .agg (.of []), .int .i64 (.ofN (.lit 0))]⟩, some ⟨1, .uf 1657 ltU [.agg (.ro (.var 1 k)), .int .i64 (.ofN (.var 2 n))]⟩]
theorem t15 (G : Nat → List AV) (k n : Nat) (Q : Ex → List AV → Hp → Prop) (R : AV → Hp → Prop) : vT G Q R (dcall (Dc Try.prog [14] progN [(DLat 1658 (w0Q G k n) 0 40 [2, 3, 6, 17, 18, 19] (w0O k n))] 1) 300 20 Try.f15 [.slice true (.ro (.var 1 k)) (.lit 0) (.var 2 n)] [] 9) = (
    rowsU [.agg (G (k)), .int .i64 (((n : Nat) : Int))] = true ∧
    rowsU [.agg ([] : List AV), .int .i64 (((0 : Nat) : Int))] = true ∧
    (((boEU [.agg (G (k)), .int .i64 (((n : Nat) : Int)), .agg ([] : List AV), .int .i64 (((0 : Nat) : Int))] : Int) == 0) = true →
      (w0Q G k n) [.agg ([.nils, .int .i64 (0), .nils, .slice true (.rw 0) (0) (boKU [.agg (G (k)), .int .i64 (((n : Nat) : Int)), .agg ([] : List AV), .int .i64 (((0 : Nat) : Int))]), .int .i64 (((boKU [.agg (G (k)), .int .i64 (((n : Nat) : Int)), .agg ([] : List AV), .int .i64 (((0 : Nat) : Int))] : Nat) : Int)), .int .i64 (0)] : List AV), .agg ([.tup [.int .i64 (3), .agg (boCU [.agg (G (k)), .int .i64 (((n : Nat) : Int)), .agg ([] : List AV), .int .i64 (((0 : Nat) : Int))])]] : List AV)] = true ∧
      R (.tup [.slice true (.rw 1) (0) (ltN [.agg (G (k)), .int .i64 (((n : Nat) : Int))]), .int .i64 (0)]) [some ⟨3, (boCU [.agg (G (k)), .int .i64 (((n : Nat) : Int)), .agg ([] : List AV), .int .i64 (((0 : Nat) : Int))])⟩, some ⟨1, (ltU [.agg (G (k)), .int .i64 (((n : Nat) : Int))])⟩]) ∧
    (((boEU [.agg (G (k)), .int .i64 (((n : Nat) : Int)), .agg ([] : List AV), .int .i64 (((0 : Nat) : Int))] : Int) == 0) = false →
      R (.tup [.nils, .int .i64 (boEU [.agg (G (k)), .int .i64 (((n : Nat) : Int)), .agg ([] : List AV), .int .i64 (((0 : Nat) : Int))])]) [some ⟨3, (boCU [.agg (G (k)), .int .i64 (((n : Nat) : Int)), .agg ([] : List AV), .int .i64 (((0 : Nat) : Int))])⟩])) := by kernel_rfl
theorem w0L_ok (G : Nat → List AV) (B : Nat) (k n : Nat) : DLoopOk (⟨Try.prog, G, B⟩ : Ctx) 1 (loopN Try.f15 0) (DLat 1658 (w0Q G k n) 0 40 [2, 3, 6, 17, 18, 19] (w0O k n)) := by
  refine DLat_ok rfl fun h => ?_
  refine (w0_go G B _ _ h).lmono ?_
  rintro e vs H ⟨rfl, h2, rfl⟩
  refine ⟨rfl, .inl ⟨?_, ?_⟩⟩
  · simp only [vVs, vV, vI, vB, vN, vR, vL, ltN, int_nat]; exact h2
  · simp only [vHp, List.map_cons, List.map_nil, Option.map_some, vBlk, vL, vVs, vV, vI, vN, ltU, boCU, int_nat]
theorem boC_okT {cs ds : List AV} {n m : Nat} (h : okI .i64 cs 0 (n * 3) = true) (h2 : okI .i64 ds 0 (m * 3) = true) : okT (boC cs n ds m) (boK cs n ds m) = true := by
  unfold boC boK
  by_cases e : boE cs n ds m = 0
  · rw [if_pos e, if_pos e]
    have hm : (mayB cs n && mayB ds m) = true := by
      unfold boE at e
      split at e
      · assumption
      · omega
    rw [Bool.and_eq_true] at hm
    exact ppC_okT (okT_iff.1 (ct2_okT h h2 hm.1 hm.2)).2.2.2
  · rw [if_neg e, if_neg e]; rfl
theorem lt_call (G : Nat → List AV) (B : Nat) (k n : Nat) (h : okI .i64 (G k) 0 (n * 3) = true) : ACalls (⟨Try.prog, G, B⟩ : Ctx) 15 [.slice true (.ro k) 0 n] [] fun v H => v = .tup [.slice true (.rw 0) 0 (leW (boC (G k) n [] 0) (boK (G k) n [] 0)).length, .int .i64 (boE (G k) n [] 0)] ∧ H = [some ⟨1, leW (boC (G k) n [] 0) (boK (G k) n [] 0)⟩] := by
  have := dcall_ok (C := (⟨Try.prog, G, B⟩ : Ctx)) (fuel := 300) (n0 := 20) (f := 15) (fn := Try.f15) (args := [.slice true (.ro (.var 1 k)) (.lit 0) (.var 2 n)]) (H := []) (keep := 9)
    (R := fun v H => (v = .tup [.slice true (.rw 1) 0 (leW (boC (G k) n [] 0) (boK (G k) n [] 0)).length, .int .i64 (boE (G k) n [] 0)] ∧ H[1]? = some (some ⟨1, leW (boC (G k) n [] 0) (boK (G k) n [] 0)⟩)) ∨ (boE (G k) n [] 0 ≠ 0 ∧ v = .tup [.nils, .int .i64 (boE (G k) n [] 0)])) (by rw [show loopsOf (bodyOf Try.f15) = [loopN Try.f15 0, loopN Try.f15 1] by kernel_rfl]; exact dgood (inl := [14]) (ls := [(DLat 1658 (w0Q G k n) 0 40 [2, 3, 6, 17, 18, 19] (w0O k n))]) (M := 1) (mixF G B) (by kernel_rfl) (progN_ok G B) (.cons (i := 0) (by kernel_rfl) rfl (w0L_ok G B k n) (.miss (i := 2) (by kernel_rfl) rfl .nil))) (by kernel_rfl) (by kernel_rfl) (by kernel_rfl) (by
    have e1 : boEU [.agg (G k), .int .i64 (n : Int), .agg [], .int .i64 ((0 : Nat) : Int)] = boE (G k) n [] 0 := by simp only [boEU, int_nat]
    have e2 : boKU [.agg (G k), .int .i64 (n : Int), .agg [], .int .i64 ((0 : Nat) : Int)] = boK (G k) n [] 0 := by simp only [boKU, int_nat]
    have e3 : boCU [.agg (G k), .int .i64 (n : Int), .agg [], .int .i64 ((0 : Nat) : Int)] = boC (G k) n [] 0 := by simp only [boCU, int_nat]
    have e4 : ltU [.agg (G k), .int .i64 (n : Int)] = leW (boC (G k) n [] 0) (boK (G k) n [] 0) := by simp only [ltU, int_nat]
    have e5 : ltN [.agg (G k), .int .i64 (n : Int)] = (leW (boC (G k) n [] 0) (boK (G k) n [] 0)).length := by simp only [ltN, int_nat]
    have ok := boC_okT (cs := G k) (n := n) (ds := []) (m := 0) h rfl
    rw [t15, e1, e2, e3, e4, e5]
    refine ⟨h, rfl, fun e => ⟨stQ_refl ok rfl (by simp only [encHB, List.map_cons, List.map_nil, noRcds, noRcd, (ints_flat (ints_of ok)).2.2.1]; rfl), .inl ⟨by rw [eq_of_beq e], rfl⟩⟩, fun e => .inr ⟨?_, rfl⟩⟩
    intro q; rw [q] at e; cases e)
  refine ACalls.one (b := ⟨1, _⟩) this (u8s_flat (leW_u8 _)).1 (by simp [bnd, bnds]) (fun j => by simp [ren, rens]) ?_
  rintro v H (⟨rfl, hH⟩ | ⟨e, rfl⟩)
  · refine .inl ⟨1, ?_, rfl⟩
    rw [List.getElem?_take] at hH
    simpa using hH
  · have : boK (G k) n [] 0 = 0 := by unfold boK; rw [if_neg e]
    rw [this]
    refine .inr ⟨rfl, ?_⟩
    exact ⟨.inr ⟨rfl, rfl⟩, .inl rfl, trivial⟩
def ltS : DSum := fun args H => match args with
  | [x] => match rdT H x with
    | some (l, n) => some (.chk (.uf 1601 rowsU [.agg l, .int .i64 (.ofN n)]) (.one (.tup [.slice true (.rw H.length) (.lit 0) (.uf 1656 ltN [.agg l, .int .i64 (.ofN n)]), .int .i64 (.uf 1646 boEU [.agg l, .int .i64 (.ofN n), .agg (.of []), .int .i64 (.lit 0)])]) [.new ⟨1, .uf 1657 ltU [.agg l, .int .i64 (.ofN n)]⟩]))
    | none => none
  | _ => none
theorem bo_ct0 {cs : List AV} {n : Nat} : boE (ctT cs n) n [] 0 = boE cs n [] 0 ∧ boK (ctT cs n) n [] 0 = boK cs n [] 0 ∧ boC (ctT cs n) n [] 0 = boC cs n [] 0 := bo_ct (cs := cs) (ds := []) (n := n) (m := 0)
theorem ltS_ok (G : Nat → List AV) (B : Nat) : DSumOk (⟨Try.prog, G, B⟩ : Ctx) 15 ltS := by
  intro args H o ho
  unfold ltS at ho
  split at ho
  · rename_i x
    split at ho
    · rename_i l n hx
      simp only [Option.some.injEq] at ho
      subst ho
      intro h1
      refine DOut.j1 (C := (⟨Try.prog, G, B⟩ : Ctx)) (F := fun cs n => .tup [.slice true (.rw 0) 0 (leW (boC cs n [] 0) (boK cs n [] 0)).length, .int .i64 (boE cs n [] 0)]) (Bk := fun cs n => ⟨1, leW (boC cs n [] 0) (boK cs n [] 0)⟩) hx h1 ⟨rfl, rfl⟩ (fun G B k n h => lt_call G B k n h) rfl ⟨(u8s_flat (leW_u8 _)).1, (u8s_flat (leW_u8 _)).2.1⟩ ?_ ?_
      · rw [bo_ct0.2.1, bo_ct0.2.2]; rfl
      · rw [bo_ct0.2.1, bo_ct0.2.2, bo_ct0.1]; rfl
    · simp at ho
  · simp at ho
def rpS : DSum := fun args H => match args with
  | [x] => match rdT H x with
    | some (l, n) => some (.chk (.uf 1614 okTU [.agg l, .int .i64 (.ofN n)]) (.one (.slice true (.rw H.length) (.lit 0) (.uf 1631 rpN [.agg l, .int .i64 (.ofN n)])) [.new ⟨3, .uf 1632 rpU [.agg l, .int .i64 (.ofN n)]⟩]))
    | none => none
  | _ => none
theorem rpS_ok (G : Nat → List AV) (B : Nat) : DSumOk (⟨Try.prog, G, B⟩ : Ctx) 18 rpS := by
  intro args H o ho
  unfold rpS at ho
  split at ho
  · split at ho
    · rename_i x l n hx
      simp only [Option.some.injEq] at ho
      subst ho
      intro h1
      exact DOut.n1 (C := (⟨Try.prog, G, B⟩ : Ctx)) (F := fun cs n => .slice true (.rw 0) 0 (rpK cs n (lnF cs n) (lnF cs n))) (Bk := fun cs n => ⟨3, rpC cs n (lnF cs n) (lnF cs n)⟩) hx h1 ⟨rfl, rfl⟩ (fun G B k n h => rp_call G B k n h) rfl ⟨(rpC_flat _).1, (rpC_flat _).2.1⟩ rfl rfl
    · simp at ho
  · simp at ho
def progP : List (Nat × DSum) := (15, ltS) :: (18, rpS) :: progN
theorem progP_ok (G : Nat → List AV) (B : Nat) : DSumsOk (⟨Try.prog, G, B⟩ : Ctx) progP := .cons (ltS_ok G B) (.cons (rpS_ok G B) (progN_ok G B))
theorem l4 (G : Nat → List AV) (k n k2 m : Nat) (Q : Ex → List AV → Hp → Prop) (R : AV → Hp → Prop) : vT G Q R (dlaw (Dc Try.prog [14] progP [] 0) 400 20 Try.f4 [.slice true (.ro (.var 1 k)) (.lit 0) (.var 2 n), .slice true (.ro (.var 3 k2)) (.lit 0) (.var 4 m)] []) = (
    (decide ((((n : Nat) : Int) : Int) > 40) = true →
      R (.bool (true)) []) ∧
    (decide ((((n : Nat) : Int) : Int) > 40) = false →
      (decide ((((m : Nat) : Int) : Int) > 300) = true →
        R (.bool (true)) []) ∧
      (decide ((((m : Nat) : Int) : Int) > 300) = false →
        rowsU [.agg (G (k)), .int .i64 (((n : Nat) : Int))] = true ∧
        rowsU [.agg (G (k)), .int .i64 (((n : Nat) : Int))] = true ∧
        rowsU [.agg ([] : List AV), .int .i64 (((0 : Nat) : Int))] = true ∧
        rowsU [.agg (G (k)), .int .i64 (((n : Nat) : Int))] = true ∧
        rowsU [.agg (G (k)), .int .i64 (((n : Nat) : Int))] = true ∧
        (mayU [.agg (G (k)), .int .i64 (((n : Nat) : Int))] = true →
          okTU [.agg (G (k)), .int .i64 (((n : Nat) : Int))] = true ∧
          (((chkU [.agg (G (k)), .int .i64 (((n : Nat) : Int))] : Int) == 0) = true →
            (neBU [.agg (G (k)), .int .i64 (((n : Nat) : Int))] = true →
              (somU [.agg (G (k)), .int .i64 (((n : Nat) : Int))] = true →
                R (.bool (false)) []) ∧
              (somU [.agg (G (k)), .int .i64 (((n : Nat) : Int))] = false →
                (!(somU [.agg (G (k)), .int .i64 (((n : Nat) : Int))])) = true ∧
                (((boEU [.agg (G (k)), .int .i64 (((n : Nat) : Int)), .agg ([] : List AV), .int .i64 (((0 : Nat) : Int))] : Int) == 210) = true →
                  (((boEU [.agg (G (k)), .int .i64 (((n : Nat) : Int)), .agg ([] : List AV), .int .i64 (0)] : Int) == 210) = true →
                    (((IntKind.wrap .i64 (((boKU [.agg (G (k)), .int .i64 (((n : Nat) : Int)), .agg ([] : List AV), .int .i64 (((0 : Nat) : Int))] : Nat) : Int) + ((ltN [.agg (G (k)), .int .i64 (((n : Nat) : Int))] : Nat) : Int)) : Int) == 0) = true →
                      rowsU [.agg (G (k)), .int .i64 (((n : Nat) : Int))] = true ∧
                      bytesU [.agg (G (k2)), .int .i64 (((m : Nat) : Int))] = true ∧
                      (matchU [.agg (G (k)), .int .i64 (((n : Nat) : Int)), .agg (G (k2)), .int .i64 (((m : Nat) : Int))] = true →
                        R (.bool (false)) []) ∧
                      (matchU [.agg (G (k)), .int .i64 (((n : Nat) : Int)), .agg (G (k2)), .int .i64 (((m : Nat) : Int))] = false →
                        R (.bool (true)) [])) ∧
                    (((IntKind.wrap .i64 (((boKU [.agg (G (k)), .int .i64 (((n : Nat) : Int)), .agg ([] : List AV), .int .i64 (((0 : Nat) : Int))] : Nat) : Int) + ((ltN [.agg (G (k)), .int .i64 (((n : Nat) : Int))] : Nat) : Int)) : Int) == 0) = false →
                      R (.bool (false)) [])) ∧
                  (((boEU [.agg (G (k)), .int .i64 (((n : Nat) : Int)), .agg ([] : List AV), .int .i64 (0)] : Int) == 210) = false →
                    R (.bool (false)) [])) ∧
                (((boEU [.agg (G (k)), .int .i64 (((n : Nat) : Int)), .agg ([] : List AV), .int .i64 (((0 : Nat) : Int))] : Int) == 210) = false →
                  R (.bool (false)) []))) ∧
            (neBU [.agg (G (k)), .int .i64 (((n : Nat) : Int))] = false →
              (somU [.agg (G (k)), .int .i64 (((n : Nat) : Int))] = true →
                somU [.agg (G (k)), .int .i64 (((n : Nat) : Int))] = true ∧
                rowsU [.agg (boCU [.agg (G (k)), .int .i64 (((n : Nat) : Int)), .agg ([] : List AV), .int .i64 (((0 : Nat) : Int))]), .int .i64 (((boKU [.agg (G (k)), .int .i64 (((n : Nat) : Int)), .agg ([] : List AV), .int .i64 (((0 : Nat) : Int))] : Nat) : Int))] = true ∧
                rowsU [.agg ([] : List AV), .int .i64 (((0 : Nat) : Int))] = true ∧
                (((boEU [.agg (G (k)), .int .i64 (((n : Nat) : Int)), .agg ([] : List AV), .int .i64 (((0 : Nat) : Int))] : Int) == 0) = true →
                  okTU [.agg (G (k)), .int .i64 (((n : Nat) : Int))] = true ∧
                  okTU [.agg (boCU [.agg (G (k)), .int .i64 (((n : Nat) : Int)), .agg ([] : List AV), .int .i64 (((0 : Nat) : Int))]), .int .i64 (((boKU [.agg (G (k)), .int .i64 (((n : Nat) : Int)), .agg ([] : List AV), .int .i64 (((0 : Nat) : Int))] : Nat) : Int))] = true ∧
                  okTU [.agg (rpU [.agg (G (k)), .int .i64 (((n : Nat) : Int))]), .int .i64 (((rpN [.agg (G (k)), .int .i64 (((n : Nat) : Int))] : Nat) : Int))] = true ∧
                  (stU [.agg (boCU [.agg (G (k)), .int .i64 (((n : Nat) : Int)), .agg ([] : List AV), .int .i64 (((0 : Nat) : Int))]), .int .i64 (((boKU [.agg (G (k)), .int .i64 (((n : Nat) : Int)), .agg ([] : List AV), .int .i64 (((0 : Nat) : Int))] : Nat) : Int)), .agg (rpU [.agg (G (k)), .int .i64 (((n : Nat) : Int))]), .int .i64 (((rpN [.agg (G (k)), .int .i64 (((n : Nat) : Int))] : Nat) : Int))] = true →
                    (((boEU [.agg (G (k)), .int .i64 (((n : Nat) : Int)), .agg ([] : List AV), .int .i64 (0)] : Int) == 0) = true →
                      leB (ltN [.agg (G (k)), .int .i64 (((n : Nat) : Int))]) (List.length (ltU [.agg (G (k)), .int .i64 (((n : Nat) : Int))])) = true ∧
                      u8s (subL (ltU [.agg (G (k)), .int .i64 (((n : Nat) : Int))]) (0) (ltN [.agg (G (k)), .int .i64 (((n : Nat) : Int))])) = true ∧
                      leB (lnU [.agg (G (k)), .int .i64 (((n : Nat) : Int))]) (List.length (lcU [.agg (G (k)), .int .i64 (((n : Nat) : Int))])) = true ∧
                      u8s (subL (lcU [.agg (G (k)), .int .i64 (((n : Nat) : Int))]) (0) (lnU [.agg (G (k)), .int .i64 (((n : Nat) : Int))])) = true ∧
                      ((((strL (subL (ltU [.agg (G (k)), .int .i64 (((n : Nat) : Int))]) (0) (ltN [.agg (G (k)), .int .i64 (((n : Nat) : Int))]))) : List UInt8) == (strL (subL (lcU [.agg (G (k)), .int .i64 (((n : Nat) : Int))]) (0) (lnU [.agg (G (k)), .int .i64 (((n : Nat) : Int))])))) = true →
                        rowsU [.agg (G (k)), .int .i64 (((n : Nat) : Int))] = true ∧
                        bytesU [.agg (ltU [.agg (G (k)), .int .i64 (((n : Nat) : Int))]), .int .i64 (((ltN [.agg (G (k)), .int .i64 (((n : Nat) : Int))] : Nat) : Int))] = true ∧
                        (matchU [.agg (G (k)), .int .i64 (((n : Nat) : Int)), .agg (ltU [.agg (G (k)), .int .i64 (((n : Nat) : Int))]), .int .i64 (((ltN [.agg (G (k)), .int .i64 (((n : Nat) : Int))] : Nat) : Int))] = true →
                          rowsU [.agg (G (k)), .int .i64 (((n : Nat) : Int))] = true ∧
                          bytesU [.agg (G (k2)), .int .i64 (((m : Nat) : Int))] = true ∧
                          rowsU [.agg (boCU [.agg (G (k)), .int .i64 (((n : Nat) : Int)), .agg ([] : List AV), .int .i64 (((0 : Nat) : Int))]), .int .i64 (((boKU [.agg (G (k)), .int .i64 (((n : Nat) : Int)), .agg ([] : List AV), .int .i64 (((0 : Nat) : Int))] : Nat) : Int))] = true ∧
                          bytesU [.agg (G (k2)), .int .i64 (((m : Nat) : Int))] = true ∧
                          (matchU [.agg (G (k)), .int .i64 (((n : Nat) : Int)), .agg (G (k2)), .int .i64 (((m : Nat) : Int))] = true →
                            (matchU [.agg (boCU [.agg (G (k)), .int .i64 (((n : Nat) : Int)), .agg ([] : List AV), .int .i64 (((0 : Nat) : Int))]), .int .i64 (((boKU [.agg (G (k)), .int .i64 (((n : Nat) : Int)), .agg ([] : List AV), .int .i64 (((0 : Nat) : Int))] : Nat) : Int)), .agg (G (k2)), .int .i64 (((m : Nat) : Int))] = true →
                              (((boEU [.agg (boCU [.agg (G (k)), .int .i64 (((n : Nat) : Int)), .agg ([] : List AV), .int .i64 (((0 : Nat) : Int))]), .int .i64 (((boKU [.agg (G (k)), .int .i64 (((n : Nat) : Int)), .agg ([] : List AV), .int .i64 (((0 : Nat) : Int))] : Nat) : Int)), .agg ([] : List AV), .int .i64 (((0 : Nat) : Int))] : Int) == 0) = true →
                                okTU [.agg (boCU [.agg (boCU [.agg (G (k)), .int .i64 (((n : Nat) : Int)), .agg ([] : List AV), .int .i64 (((0 : Nat) : Int))]), .int .i64 (((boKU [.agg (G (k)), .int .i64 (((n : Nat) : Int)), .agg ([] : List AV), .int .i64 (((0 : Nat) : Int))] : Nat) : Int)), .agg ([] : List AV), .int .i64 (((0 : Nat) : Int))]), .int .i64 (((boKU [.agg (boCU [.agg (G (k)), .int .i64 (((n : Nat) : Int)), .agg ([] : List AV), .int .i64 (((0 : Nat) : Int))]), .int .i64 (((boKU [.agg (G (k)), .int .i64 (((n : Nat) : Int)), .agg ([] : List AV), .int .i64 (((0 : Nat) : Int))] : Nat) : Int)), .agg ([] : List AV), .int .i64 (((0 : Nat) : Int))] : Nat) : Int))] = true ∧
                                okTU [.agg (boCU [.agg (G (k)), .int .i64 (((n : Nat) : Int)), .agg ([] : List AV), .int .i64 (((0 : Nat) : Int))]), .int .i64 (((boKU [.agg (G (k)), .int .i64 (((n : Nat) : Int)), .agg ([] : List AV), .int .i64 (((0 : Nat) : Int))] : Nat) : Int))] = true ∧
                                (stU [.agg (boCU [.agg (boCU [.agg (G (k)), .int .i64 (((n : Nat) : Int)), .agg ([] : List AV), .int .i64 (((0 : Nat) : Int))]), .int .i64 (((boKU [.agg (G (k)), .int .i64 (((n : Nat) : Int)), .agg ([] : List AV), .int .i64 (((0 : Nat) : Int))] : Nat) : Int)), .agg ([] : List AV), .int .i64 (((0 : Nat) : Int))]), .int .i64 (((boKU [.agg (boCU [.agg (G (k)), .int .i64 (((n : Nat) : Int)), .agg ([] : List AV), .int .i64 (((0 : Nat) : Int))]), .int .i64 (((boKU [.agg (G (k)), .int .i64 (((n : Nat) : Int)), .agg ([] : List AV), .int .i64 (((0 : Nat) : Int))] : Nat) : Int)), .agg ([] : List AV), .int .i64 (((0 : Nat) : Int))] : Nat) : Int)), .agg (boCU [.agg (G (k)), .int .i64 (((n : Nat) : Int)), .agg ([] : List AV), .int .i64 (((0 : Nat) : Int))]), .int .i64 (((boKU [.agg (G (k)), .int .i64 (((n : Nat) : Int)), .agg ([] : List AV), .int .i64 (((0 : Nat) : Int))] : Nat) : Int))] = true →
                                  R (.bool (true)) []) ∧
                                (stU [.agg (boCU [.agg (boCU [.agg (G (k)), .int .i64 (((n : Nat) : Int)), .agg ([] : List AV), .int .i64 (((0 : Nat) : Int))]), .int .i64 (((boKU [.agg (G (k)), .int .i64 (((n : Nat) : Int)), .agg ([] : List AV), .int .i64 (((0 : Nat) : Int))] : Nat) : Int)), .agg ([] : List AV), .int .i64 (((0 : Nat) : Int))]), .int .i64 (((boKU [.agg (boCU [.agg (G (k)), .int .i64 (((n : Nat) : Int)), .agg ([] : List AV), .int .i64 (((0 : Nat) : Int))]), .int .i64 (((boKU [.agg (G (k)), .int .i64 (((n : Nat) : Int)), .agg ([] : List AV), .int .i64 (((0 : Nat) : Int))] : Nat) : Int)), .agg ([] : List AV), .int .i64 (((0 : Nat) : Int))] : Nat) : Int)), .agg (boCU [.agg (G (k)), .int .i64 (((n : Nat) : Int)), .agg ([] : List AV), .int .i64 (((0 : Nat) : Int))]), .int .i64 (((boKU [.agg (G (k)), .int .i64 (((n : Nat) : Int)), .agg ([] : List AV), .int .i64 (((0 : Nat) : Int))] : Nat) : Int))] = false →
                                  R (.bool (false)) [])) ∧
                              (((boEU [.agg (boCU [.agg (G (k)), .int .i64 (((n : Nat) : Int)), .agg ([] : List AV), .int .i64 (((0 : Nat) : Int))]), .int .i64 (((boKU [.agg (G (k)), .int .i64 (((n : Nat) : Int)), .agg ([] : List AV), .int .i64 (((0 : Nat) : Int))] : Nat) : Int)), .agg ([] : List AV), .int .i64 (((0 : Nat) : Int))] : Int) == 0) = false →
                                R (.bool (false)) [])) ∧
                            (matchU [.agg (boCU [.agg (G (k)), .int .i64 (((n : Nat) : Int)), .agg ([] : List AV), .int .i64 (((0 : Nat) : Int))]), .int .i64 (((boKU [.agg (G (k)), .int .i64 (((n : Nat) : Int)), .agg ([] : List AV), .int .i64 (((0 : Nat) : Int))] : Nat) : Int)), .agg (G (k2)), .int .i64 (((m : Nat) : Int))] = false →
                              R (.bool (false)) [])) ∧
                          (matchU [.agg (G (k)), .int .i64 (((n : Nat) : Int)), .agg (G (k2)), .int .i64 (((m : Nat) : Int))] = false →
                            (matchU [.agg (boCU [.agg (G (k)), .int .i64 (((n : Nat) : Int)), .agg ([] : List AV), .int .i64 (((0 : Nat) : Int))]), .int .i64 (((boKU [.agg (G (k)), .int .i64 (((n : Nat) : Int)), .agg ([] : List AV), .int .i64 (((0 : Nat) : Int))] : Nat) : Int)), .agg (G (k2)), .int .i64 (((m : Nat) : Int))] = true →
                              R (.bool (false)) []) ∧
                            (matchU [.agg (boCU [.agg (G (k)), .int .i64 (((n : Nat) : Int)), .agg ([] : List AV), .int .i64 (((0 : Nat) : Int))]), .int .i64 (((boKU [.agg (G (k)), .int .i64 (((n : Nat) : Int)), .agg ([] : List AV), .int .i64 (((0 : Nat) : Int))] : Nat) : Int)), .agg (G (k2)), .int .i64 (((m : Nat) : Int))] = false →
                              (((boEU [.agg (boCU [.agg (G (k)), .int .i64 (((n : Nat) : Int)), .agg ([] : List AV), .int .i64 (((0 : Nat) : Int))]), .int .i64 (((boKU [.agg (G (k)), .int .i64 (((n : Nat) : Int)), .agg ([] : List AV), .int .i64 (((0 : Nat) : Int))] : Nat) : Int)), .agg ([] : List AV), .int .i64 (((0 : Nat) : Int))] : Int) == 0) = true →
                                okTU [.agg (boCU [.agg (boCU [.agg (G (k)), .int .i64 (((n : Nat) : Int)), .agg ([] : List AV), .int .i64 (((0 : Nat) : Int))]), .int .i64 (((boKU [.agg (G (k)), .int .i64 (((n : Nat) : Int)), .agg ([] : List AV), .int .i64 (((0 : Nat) : Int))] : Nat) : Int)), .agg ([] : List AV), .int .i64 (((0 : Nat) : Int))]), .int .i64 (((boKU [.agg (boCU [.agg (G (k)), .int .i64 (((n : Nat) : Int)), .agg ([] : List AV), .int .i64 (((0 : Nat) : Int))]), .int .i64 (((boKU [.agg (G (k)), .int .i64 (((n : Nat) : Int)), .agg ([] : List AV), .int .i64 (((0 : Nat) : Int))] : Nat) : Int)), .agg ([] : List AV), .int .i64 (((0 : Nat) : Int))] : Nat) : Int))] = true ∧
                                okTU [.agg (boCU [.agg (G (k)), .int .i64 (((n : Nat) : Int)), .agg ([] : List AV), .int .i64 (((0 : Nat) : Int))]), .int .i64 (((boKU [.agg (G (k)), .int .i64 (((n : Nat) : Int)), .agg ([] : List AV), .int .i64 (((0 : Nat) : Int))] : Nat) : Int))] = true ∧
                                (stU [.agg (boCU [.agg (boCU [.agg (G (k)), .int .i64 (((n : Nat) : Int)), .agg ([] : List AV), .int .i64 (((0 : Nat) : Int))]), .int .i64 (((boKU [.agg (G (k)), .int .i64 (((n : Nat) : Int)), .agg ([] : List AV), .int .i64 (((0 : Nat) : Int))] : Nat) : Int)), .agg ([] : List AV), .int .i64 (((0 : Nat) : Int))]), .int .i64 (((boKU [.agg (boCU [.agg (G (k)), .int .i64 (((n : Nat) : Int)), .agg ([] : List AV), .int .i64 (((0 : Nat) : Int))]), .int .i64 (((boKU [.agg (G (k)), .int .i64 (((n : Nat) : Int)), .agg ([] : List AV), .int .i64 (((0 : Nat) : Int))] : Nat) : Int)), .agg ([] : List AV), .int .i64 (((0 : Nat) : Int))] : Nat) : Int)), .agg (boCU [.agg (G (k)), .int .i64 (((n : Nat) : Int)), .agg ([] : List AV), .int .i64 (((0 : Nat) : Int))]), .int .i64 (((boKU [.agg (G (k)), .int .i64 (((n : Nat) : Int)), .agg ([] : List AV), .int .i64 (((0 : Nat) : Int))] : Nat) : Int))] = true →
                                  R (.bool (true)) []) ∧
                                (stU [.agg (boCU [.agg (boCU [.agg (G (k)), .int .i64 (((n : Nat) : Int)), .agg ([] : List AV), .int .i64 (((0 : Nat) : Int))]), .int .i64 (((boKU [.agg (G (k)), .int .i64 (((n : Nat) : Int)), .agg ([] : List AV), .int .i64 (((0 : Nat) : Int))] : Nat) : Int)), .agg ([] : List AV), .int .i64 (((0 : Nat) : Int))]), .int .i64 (((boKU [.agg (boCU [.agg (G (k)), .int .i64 (((n : Nat) : Int)), .agg ([] : List AV), .int .i64 (((0 : Nat) : Int))]), .int .i64 (((boKU [.agg (G (k)), .int .i64 (((n : Nat) : Int)), .agg ([] : List AV), .int .i64 (((0 : Nat) : Int))] : Nat) : Int)), .agg ([] : List AV), .int .i64 (((0 : Nat) : Int))] : Nat) : Int)), .agg (boCU [.agg (G (k)), .int .i64 (((n : Nat) : Int)), .agg ([] : List AV), .int .i64 (((0 : Nat) : Int))]), .int .i64 (((boKU [.agg (G (k)), .int .i64 (((n : Nat) : Int)), .agg ([] : List AV), .int .i64 (((0 : Nat) : Int))] : Nat) : Int))] = false →
                                  R (.bool (false)) [])) ∧
                              (((boEU [.agg (boCU [.agg (G (k)), .int .i64 (((n : Nat) : Int)), .agg ([] : List AV), .int .i64 (((0 : Nat) : Int))]), .int .i64 (((boKU [.agg (G (k)), .int .i64 (((n : Nat) : Int)), .agg ([] : List AV), .int .i64 (((0 : Nat) : Int))] : Nat) : Int)), .agg ([] : List AV), .int .i64 (((0 : Nat) : Int))] : Int) == 0) = false →
                                R (.bool (false)) [])))) ∧
                        (matchU [.agg (G (k)), .int .i64 (((n : Nat) : Int)), .agg (ltU [.agg (G (k)), .int .i64 (((n : Nat) : Int))]), .int .i64 (((ltN [.agg (G (k)), .int .i64 (((n : Nat) : Int))] : Nat) : Int))] = false →
                          R (.bool (false)) [])) ∧
                      ((((strL (subL (ltU [.agg (G (k)), .int .i64 (((n : Nat) : Int))]) (0) (ltN [.agg (G (k)), .int .i64 (((n : Nat) : Int))]))) : List UInt8) == (strL (subL (lcU [.agg (G (k)), .int .i64 (((n : Nat) : Int))]) (0) (lnU [.agg (G (k)), .int .i64 (((n : Nat) : Int))])))) = false →
                        R (.bool (false)) [])) ∧
                    (((boEU [.agg (G (k)), .int .i64 (((n : Nat) : Int)), .agg ([] : List AV), .int .i64 (0)] : Int) == 0) = false →
                      R (.bool (false)) [])) ∧
                  (stU [.agg (boCU [.agg (G (k)), .int .i64 (((n : Nat) : Int)), .agg ([] : List AV), .int .i64 (((0 : Nat) : Int))]), .int .i64 (((boKU [.agg (G (k)), .int .i64 (((n : Nat) : Int)), .agg ([] : List AV), .int .i64 (((0 : Nat) : Int))] : Nat) : Int)), .agg (rpU [.agg (G (k)), .int .i64 (((n : Nat) : Int))]), .int .i64 (((rpN [.agg (G (k)), .int .i64 (((n : Nat) : Int))] : Nat) : Int))] = false →
                    R (.bool (false)) [])) ∧
                (((boEU [.agg (G (k)), .int .i64 (((n : Nat) : Int)), .agg ([] : List AV), .int .i64 (((0 : Nat) : Int))] : Int) == 0) = false →
                  R (.bool (false)) [])) ∧
              (somU [.agg (G (k)), .int .i64 (((n : Nat) : Int))] = false →
                R (.bool (false)) []))) ∧
          (((chkU [.agg (G (k)), .int .i64 (((n : Nat) : Int))] : Int) == 0) = false →
            R (.bool (false)) [])) ∧
        (mayU [.agg (G (k)), .int .i64 (((n : Nat) : Int))] = false →
          (neBU [.agg (G (k)), .int .i64 (((n : Nat) : Int))] = true →
            R (.bool (false)) []) ∧
          (neBU [.agg (G (k)), .int .i64 (((n : Nat) : Int))] = false →
            (((chkU [.agg (G (k)), .int .i64 (((n : Nat) : Int))] : Int) == 2) = true →
              (((boEU [.agg (G (k)), .int .i64 (((n : Nat) : Int)), .agg ([] : List AV), .int .i64 (((0 : Nat) : Int))] : Int) == 2) = true →
                (((boEU [.agg (G (k)), .int .i64 (((n : Nat) : Int)), .agg ([] : List AV), .int .i64 (0)] : Int) == 2) = true →
                  (((IntKind.wrap .i64 (((boKU [.agg (G (k)), .int .i64 (((n : Nat) : Int)), .agg ([] : List AV), .int .i64 (((0 : Nat) : Int))] : Nat) : Int) + ((ltN [.agg (G (k)), .int .i64 (((n : Nat) : Int))] : Nat) : Int)) : Int) == 0) = true →
                    R (.bool (true)) []) ∧
                  (((IntKind.wrap .i64 (((boKU [.agg (G (k)), .int .i64 (((n : Nat) : Int)), .agg ([] : List AV), .int .i64 (((0 : Nat) : Int))] : Nat) : Int) + ((ltN [.agg (G (k)), .int .i64 (((n : Nat) : Int))] : Nat) : Int)) : Int) == 0) = false →
                    R (.bool (false)) [])) ∧
                (((boEU [.agg (G (k)), .int .i64 (((n : Nat) : Int)), .agg ([] : List AV), .int .i64 (0)] : Int) == 2) = false →
                  R (.bool (false)) [])) ∧
              (((boEU [.agg (G (k)), .int .i64 (((n : Nat) : Int)), .agg ([] : List AV), .int .i64 (((0 : Nat) : Int))] : Int) == 2) = false →
                R (.bool (false)) [])) ∧
            (((chkU [.agg (G (k)), .int .i64 (((n : Nat) : Int))] : Int) == 2) = false →
              R (.bool (false)) [])))))) := by kernel_rfl
theorem l5 (G : Nat → List AV) (k n k2 m k3 r : Nat) (a b : Int) (Q : Ex → List AV → Hp → Prop) (R : AV → Hp → Prop) : vT G Q R (dlaw (Dc Try.prog [19] progP [] 0) 400 20 Try.f5 [.int .i64 (.var 7 a), .int .i64 (.var 8 b), .slice true (.ro (.var 1 k)) (.lit 0) (.var 2 n), .slice true (.ro (.var 3 k2)) (.lit 0) (.var 4 m), .slice true (.ro (.var 5 k3)) (.lit 0) (.var 6 r)] []) = (
    (decide ((((n : Nat) : Int) : Int) > 40) = true →
      R (.bool (true)) []) ∧
    (decide ((((n : Nat) : Int) : Int) > 40) = false →
      (decide ((((m : Nat) : Int) : Int) > 40) = true →
        R (.bool (true)) []) ∧
      (decide ((((m : Nat) : Int) : Int) > 40) = false →
        (decide ((((r : Nat) : Int) : Int) > 300) = true →
          R (.bool (true)) []) ∧
        (decide ((((r : Nat) : Int) : Int) > 300) = false →
          (((kShr .i64 (a) (8) : Int) == 0) = true →
            rowsU [.agg (G (k)), .int .i64 (((n : Nat) : Int))] = true ∧
            rowsU [.agg ([.int .i64 (0), .int .i64 (255), .int .i64 (a)] : List AV), .int .i64 (((1 : Nat) : Int))] = true ∧
            (((kShr .i64 (b) (8) : Int) == 0) = true →
              rowsU [.agg (G (k2)), .int .i64 (((m : Nat) : Int))] = true ∧
              rowsU [.agg ([.int .i64 (0), .int .i64 (255), .int .i64 (b)] : List AV), .int .i64 (((1 : Nat) : Int))] = true ∧
              (decide ((a : Int) < 0) = true →
                (((boEU [.agg (G (k)), .int .i64 (((n : Nat) : Int)), .agg ([.int .i64 (0), .int .i64 (255), .int .i64 (a)] : List AV), .int .i64 (((1 : Nat) : Int))] : Int) == 2) = true →
                  (((((boKU [.agg (G (k)), .int .i64 (((n : Nat) : Int)), .agg ([.int .i64 (0), .int .i64 (255), .int .i64 (a)] : List AV), .int .i64 (((1 : Nat) : Int))] : Nat) : Int) : Int) == 0) = true →
                    R (.bool (true)) []) ∧
                  (((((boKU [.agg (G (k)), .int .i64 (((n : Nat) : Int)), .agg ([.int .i64 (0), .int .i64 (255), .int .i64 (a)] : List AV), .int .i64 (((1 : Nat) : Int))] : Nat) : Int) : Int) == 0) = false →
                    R (.bool (false)) [])) ∧
                (((boEU [.agg (G (k)), .int .i64 (((n : Nat) : Int)), .agg ([.int .i64 (0), .int .i64 (255), .int .i64 (a)] : List AV), .int .i64 (((1 : Nat) : Int))] : Int) == 2) = false →
                  R (.bool (false)) [])) ∧
              (decide ((a : Int) < 0) = false →
                (decide ((a : Int) > 255) = true →
                  (((boEU [.agg (G (k)), .int .i64 (((n : Nat) : Int)), .agg ([.int .i64 (0), .int .i64 (255), .int .i64 (a)] : List AV), .int .i64 (((1 : Nat) : Int))] : Int) == 2) = true →
                    (((((boKU [.agg (G (k)), .int .i64 (((n : Nat) : Int)), .agg ([.int .i64 (0), .int .i64 (255), .int .i64 (a)] : List AV), .int .i64 (((1 : Nat) : Int))] : Nat) : Int) : Int) == 0) = true →
                      R (.bool (true)) []) ∧
                    (((((boKU [.agg (G (k)), .int .i64 (((n : Nat) : Int)), .agg ([.int .i64 (0), .int .i64 (255), .int .i64 (a)] : List AV), .int .i64 (((1 : Nat) : Int))] : Nat) : Int) : Int) == 0) = false →
                      R (.bool (false)) [])) ∧
                  (((boEU [.agg (G (k)), .int .i64 (((n : Nat) : Int)), .agg ([.int .i64 (0), .int .i64 (255), .int .i64 (a)] : List AV), .int .i64 (((1 : Nat) : Int))] : Int) == 2) = false →
                    R (.bool (false)) [])) ∧
                (decide ((a : Int) > 255) = false →
                  rowsU [.agg (G (k)), .int .i64 (((n : Nat) : Int))] = true ∧
                  (mayU [.agg (G (k)), .int .i64 (((n : Nat) : Int))] = true →
                    (((boEU [.agg (G (k)), .int .i64 (((n : Nat) : Int)), .agg ([.int .i64 (0), .int .i64 (255), .int .i64 (a)] : List AV), .int .i64 (((1 : Nat) : Int))] : Int) == 0) = true →
                      ((boEU [.agg (G (k)), .int .i64 (((n : Nat) : Int)), .agg ([.int .i64 (0), .int .i64 (255), .int .i64 (a)] : List AV), .int .i64 (((1 : Nat) : Int))] : Int) == 0) = true ∧
                      rowsU [.agg (boCU [.agg (G (k)), .int .i64 (((n : Nat) : Int)), .agg ([.int .i64 (0), .int .i64 (255), .int .i64 (a)] : List AV), .int .i64 (((1 : Nat) : Int))]), .int .i64 (((boKU [.agg (G (k)), .int .i64 (((n : Nat) : Int)), .agg ([.int .i64 (0), .int .i64 (255), .int .i64 (a)] : List AV), .int .i64 (((1 : Nat) : Int))] : Nat) : Int))] = true ∧
                      bytesU [.agg (G (k3)), .int .i64 (((r : Nat) : Int))] = true ∧
                      rowsU [.agg (G (k)), .int .i64 (((n : Nat) : Int))] = true ∧
                      bytesU [.agg (G (k3)), .int .i64 (((r : Nat) : Int))] = true ∧
                      (matchU [.agg (G (k)), .int .i64 (((n : Nat) : Int)), .agg (G (k3)), .int .i64 (((r : Nat) : Int))] = true →
                        (decide ((((r : Nat) : Int) : Int) > 0) = true →
                          decide ((0 : Int) < ((r : Nat) : Int)) = true ∧
                          isI .u8 (G (k3)) (0) = true ∧
                          (matchU [.agg (boCU [.agg (G (k)), .int .i64 (((n : Nat) : Int)), .agg ([.int .i64 (0), .int .i64 (255), .int .i64 (a)] : List AV), .int .i64 (((1 : Nat) : Int))]), .int .i64 (((boKU [.agg (G (k)), .int .i64 (((n : Nat) : Int)), .agg ([.int .i64 (0), .int .i64 (255), .int .i64 (a)] : List AV), .int .i64 (((1 : Nat) : Int))] : Nat) : Int)), .agg (G (k3)), .int .i64 (((r : Nat) : Int))] = true →
                            (((IntKind.wrap .i64 (getI (G (k3)) (0)) : Int) == a) = true →
                              ((boEU [.agg (G (k)), .int .i64 (((n : Nat) : Int)), .agg ([.int .i64 (0), .int .i64 (255), .int .i64 (a)] : List AV), .int .i64 (((1 : Nat) : Int))] : Int) == 0) = true ∧
                              (((boEU [.agg (G (k2)), .int .i64 (((m : Nat) : Int)), .agg ([.int .i64 (0), .int .i64 (255), .int .i64 (b)] : List AV), .int .i64 (((1 : Nat) : Int))] : Int) == 0) = true →
                                rowsU [.agg (boCU [.agg (G (k)), .int .i64 (((n : Nat) : Int)), .agg ([.int .i64 (0), .int .i64 (255), .int .i64 (a)] : List AV), .int .i64 (((1 : Nat) : Int))]), .int .i64 (((boKU [.agg (G (k)), .int .i64 (((n : Nat) : Int)), .agg ([.int .i64 (0), .int .i64 (255), .int .i64 (a)] : List AV), .int .i64 (((1 : Nat) : Int))] : Nat) : Int))] = true ∧
                                rowsU [.agg (boCU [.agg (G (k2)), .int .i64 (((m : Nat) : Int)), .agg ([.int .i64 (0), .int .i64 (255), .int .i64 (b)] : List AV), .int .i64 (((1 : Nat) : Int))]), .int .i64 (((boKU [.agg (G (k2)), .int .i64 (((m : Nat) : Int)), .agg ([.int .i64 (0), .int .i64 (255), .int .i64 (b)] : List AV), .int .i64 (((1 : Nat) : Int))] : Nat) : Int))] = true ∧
                                (((apEU [.agg (boCU [.agg (G (k)), .int .i64 (((n : Nat) : Int)), .agg ([.int .i64 (0), .int .i64 (255), .int .i64 (a)] : List AV), .int .i64 (((1 : Nat) : Int))]), .int .i64 (((boKU [.agg (G (k)), .int .i64 (((n : Nat) : Int)), .agg ([.int .i64 (0), .int .i64 (255), .int .i64 (a)] : List AV), .int .i64 (((1 : Nat) : Int))] : Nat) : Int)), .agg (boCU [.agg (G (k2)), .int .i64 (((m : Nat) : Int)), .agg ([.int .i64 (0), .int .i64 (255), .int .i64 (b)] : List AV), .int .i64 (((1 : Nat) : Int))]), .int .i64 (((boKU [.agg (G (k2)), .int .i64 (((m : Nat) : Int)), .agg ([.int .i64 (0), .int .i64 (255), .int .i64 (b)] : List AV), .int .i64 (((1 : Nat) : Int))] : Nat) : Int))] : Int) == 0) = true →
                                  (((a : Int) == b) = true →
                                    R (.bool (true)) []) ∧
                                  (((a : Int) == b) = false →
                                    (apBU [.agg (boCU [.agg (G (k)), .int .i64 (((n : Nat) : Int)), .agg ([.int .i64 (0), .int .i64 (255), .int .i64 (a)] : List AV), .int .i64 (((1 : Nat) : Int))]), .int .i64 (((boKU [.agg (G (k)), .int .i64 (((n : Nat) : Int)), .agg ([.int .i64 (0), .int .i64 (255), .int .i64 (a)] : List AV), .int .i64 (((1 : Nat) : Int))] : Nat) : Int)), .agg (boCU [.agg (G (k2)), .int .i64 (((m : Nat) : Int)), .agg ([.int .i64 (0), .int .i64 (255), .int .i64 (b)] : List AV), .int .i64 (((1 : Nat) : Int))]), .int .i64 (((boKU [.agg (G (k2)), .int .i64 (((m : Nat) : Int)), .agg ([.int .i64 (0), .int .i64 (255), .int .i64 (b)] : List AV), .int .i64 (((1 : Nat) : Int))] : Nat) : Int))] = true →
                                      R (.bool (true)) []) ∧
                                    (apBU [.agg (boCU [.agg (G (k)), .int .i64 (((n : Nat) : Int)), .agg ([.int .i64 (0), .int .i64 (255), .int .i64 (a)] : List AV), .int .i64 (((1 : Nat) : Int))]), .int .i64 (((boKU [.agg (G (k)), .int .i64 (((n : Nat) : Int)), .agg ([.int .i64 (0), .int .i64 (255), .int .i64 (a)] : List AV), .int .i64 (((1 : Nat) : Int))] : Nat) : Int)), .agg (boCU [.agg (G (k2)), .int .i64 (((m : Nat) : Int)), .agg ([.int .i64 (0), .int .i64 (255), .int .i64 (b)] : List AV), .int .i64 (((1 : Nat) : Int))]), .int .i64 (((boKU [.agg (G (k2)), .int .i64 (((m : Nat) : Int)), .agg ([.int .i64 (0), .int .i64 (255), .int .i64 (b)] : List AV), .int .i64 (((1 : Nat) : Int))] : Nat) : Int))] = false →
                                      R (.bool (false)) []))) ∧
                                (((apEU [.agg (boCU [.agg (G (k)), .int .i64 (((n : Nat) : Int)), .agg ([.int .i64 (0), .int .i64 (255), .int .i64 (a)] : List AV), .int .i64 (((1 : Nat) : Int))]), .int .i64 (((boKU [.agg (G (k)), .int .i64 (((n : Nat) : Int)), .agg ([.int .i64 (0), .int .i64 (255), .int .i64 (a)] : List AV), .int .i64 (((1 : Nat) : Int))] : Nat) : Int)), .agg (boCU [.agg (G (k2)), .int .i64 (((m : Nat) : Int)), .agg ([.int .i64 (0), .int .i64 (255), .int .i64 (b)] : List AV), .int .i64 (((1 : Nat) : Int))]), .int .i64 (((boKU [.agg (G (k2)), .int .i64 (((m : Nat) : Int)), .agg ([.int .i64 (0), .int .i64 (255), .int .i64 (b)] : List AV), .int .i64 (((1 : Nat) : Int))] : Nat) : Int))] : Int) == 0) = false →
                                  R (.bool (false)) [])) ∧
                              (((boEU [.agg (G (k2)), .int .i64 (((m : Nat) : Int)), .agg ([.int .i64 (0), .int .i64 (255), .int .i64 (b)] : List AV), .int .i64 (((1 : Nat) : Int))] : Int) == 0) = false →
                                R (.bool (true)) [])) ∧
                            (((IntKind.wrap .i64 (getI (G (k3)) (0)) : Int) == a) = false →
                              R (.bool (false)) [])) ∧
                          (matchU [.agg (boCU [.agg (G (k)), .int .i64 (((n : Nat) : Int)), .agg ([.int .i64 (0), .int .i64 (255), .int .i64 (a)] : List AV), .int .i64 (((1 : Nat) : Int))]), .int .i64 (((boKU [.agg (G (k)), .int .i64 (((n : Nat) : Int)), .agg ([.int .i64 (0), .int .i64 (255), .int .i64 (a)] : List AV), .int .i64 (((1 : Nat) : Int))] : Nat) : Int)), .agg (G (k3)), .int .i64 (((r : Nat) : Int))] = false →
                            (((IntKind.wrap .i64 (getI (G (k3)) (0)) : Int) == a) = true →
                              R (.bool (false)) []) ∧
                            (((IntKind.wrap .i64 (getI (G (k3)) (0)) : Int) == a) = false →
                              ((boEU [.agg (G (k)), .int .i64 (((n : Nat) : Int)), .agg ([.int .i64 (0), .int .i64 (255), .int .i64 (a)] : List AV), .int .i64 (((1 : Nat) : Int))] : Int) == 0) = true ∧
                              (((boEU [.agg (G (k2)), .int .i64 (((m : Nat) : Int)), .agg ([.int .i64 (0), .int .i64 (255), .int .i64 (b)] : List AV), .int .i64 (((1 : Nat) : Int))] : Int) == 0) = true →
                                rowsU [.agg (boCU [.agg (G (k)), .int .i64 (((n : Nat) : Int)), .agg ([.int .i64 (0), .int .i64 (255), .int .i64 (a)] : List AV), .int .i64 (((1 : Nat) : Int))]), .int .i64 (((boKU [.agg (G (k)), .int .i64 (((n : Nat) : Int)), .agg ([.int .i64 (0), .int .i64 (255), .int .i64 (a)] : List AV), .int .i64 (((1 : Nat) : Int))] : Nat) : Int))] = true ∧
                                rowsU [.agg (boCU [.agg (G (k2)), .int .i64 (((m : Nat) : Int)), .agg ([.int .i64 (0), .int .i64 (255), .int .i64 (b)] : List AV), .int .i64 (((1 : Nat) : Int))]), .int .i64 (((boKU [.agg (G (k2)), .int .i64 (((m : Nat) : Int)), .agg ([.int .i64 (0), .int .i64 (255), .int .i64 (b)] : List AV), .int .i64 (((1 : Nat) : Int))] : Nat) : Int))] = true ∧
                                (((apEU [.agg (boCU [.agg (G (k)), .int .i64 (((n : Nat) : Int)), .agg ([.int .i64 (0), .int .i64 (255), .int .i64 (a)] : List AV), .int .i64 (((1 : Nat) : Int))]), .int .i64 (((boKU [.agg (G (k)), .int .i64 (((n : Nat) : Int)), .agg ([.int .i64 (0), .int .i64 (255), .int .i64 (a)] : List AV), .int .i64 (((1 : Nat) : Int))] : Nat) : Int)), .agg (boCU [.agg (G (k2)), .int .i64 (((m : Nat) : Int)), .agg ([.int .i64 (0), .int .i64 (255), .int .i64 (b)] : List AV), .int .i64 (((1 : Nat) : Int))]), .int .i64 (((boKU [.agg (G (k2)), .int .i64 (((m : Nat) : Int)), .agg ([.int .i64 (0), .int .i64 (255), .int .i64 (b)] : List AV), .int .i64 (((1 : Nat) : Int))] : Nat) : Int))] : Int) == 0) = true →
                                  (((a : Int) == b) = true →
                                    R (.bool (true)) []) ∧
                                  (((a : Int) == b) = false →
                                    (apBU [.agg (boCU [.agg (G (k)), .int .i64 (((n : Nat) : Int)), .agg ([.int .i64 (0), .int .i64 (255), .int .i64 (a)] : List AV), .int .i64 (((1 : Nat) : Int))]), .int .i64 (((boKU [.agg (G (k)), .int .i64 (((n : Nat) : Int)), .agg ([.int .i64 (0), .int .i64 (255), .int .i64 (a)] : List AV), .int .i64 (((1 : Nat) : Int))] : Nat) : Int)), .agg (boCU [.agg (G (k2)), .int .i64 (((m : Nat) : Int)), .agg ([.int .i64 (0), .int .i64 (255), .int .i64 (b)] : List AV), .int .i64 (((1 : Nat) : Int))]), .int .i64 (((boKU [.agg (G (k2)), .int .i64 (((m : Nat) : Int)), .agg ([.int .i64 (0), .int .i64 (255), .int .i64 (b)] : List AV), .int .i64 (((1 : Nat) : Int))] : Nat) : Int))] = true →
                                      R (.bool (true)) []) ∧
                                    (apBU [.agg (boCU [.agg (G (k)), .int .i64 (((n : Nat) : Int)), .agg ([.int .i64 (0), .int .i64 (255), .int .i64 (a)] : List AV), .int .i64 (((1 : Nat) : Int))]), .int .i64 (((boKU [.agg (G (k)), .int .i64 (((n : Nat) : Int)), .agg ([.int .i64 (0), .int .i64 (255), .int .i64 (a)] : List AV), .int .i64 (((1 : Nat) : Int))] : Nat) : Int)), .agg (boCU [.agg (G (k2)), .int .i64 (((m : Nat) : Int)), .agg ([.int .i64 (0), .int .i64 (255), .int .i64 (b)] : List AV), .int .i64 (((1 : Nat) : Int))]), .int .i64 (((boKU [.agg (G (k2)), .int .i64 (((m : Nat) : Int)), .agg ([.int .i64 (0), .int .i64 (255), .int .i64 (b)] : List AV), .int .i64 (((1 : Nat) : Int))] : Nat) : Int))] = false →
                                      R (.bool (false)) []))) ∧
                                (((apEU [.agg (boCU [.agg (G (k)), .int .i64 (((n : Nat) : Int)), .agg ([.int .i64 (0), .int .i64 (255), .int .i64 (a)] : List AV), .int .i64 (((1 : Nat) : Int))]), .int .i64 (((boKU [.agg (G (k)), .int .i64 (((n : Nat) : Int)), .agg ([.int .i64 (0), .int .i64 (255), .int .i64 (a)] : List AV), .int .i64 (((1 : Nat) : Int))] : Nat) : Int)), .agg (boCU [.agg (G (k2)), .int .i64 (((m : Nat) : Int)), .agg ([.int .i64 (0), .int .i64 (255), .int .i64 (b)] : List AV), .int .i64 (((1 : Nat) : Int))]), .int .i64 (((boKU [.agg (G (k2)), .int .i64 (((m : Nat) : Int)), .agg ([.int .i64 (0), .int .i64 (255), .int .i64 (b)] : List AV), .int .i64 (((1 : Nat) : Int))] : Nat) : Int))] : Int) == 0) = false →
                                  R (.bool (false)) [])) ∧
                              (((boEU [.agg (G (k2)), .int .i64 (((m : Nat) : Int)), .agg ([.int .i64 (0), .int .i64 (255), .int .i64 (b)] : List AV), .int .i64 (((1 : Nat) : Int))] : Int) == 0) = false →
                                R (.bool (true)) [])))) ∧
                        (decide ((((r : Nat) : Int) : Int) > 0) = false →
                          (matchU [.agg (boCU [.agg (G (k)), .int .i64 (((n : Nat) : Int)), .agg ([.int .i64 (0), .int .i64 (255), .int .i64 (a)] : List AV), .int .i64 (((1 : Nat) : Int))]), .int .i64 (((boKU [.agg (G (k)), .int .i64 (((n : Nat) : Int)), .agg ([.int .i64 (0), .int .i64 (255), .int .i64 (a)] : List AV), .int .i64 (((1 : Nat) : Int))] : Nat) : Int)), .agg (G (k3)), .int .i64 (((r : Nat) : Int))] = true →
                            R (.bool (false)) []) ∧
                          (matchU [.agg (boCU [.agg (G (k)), .int .i64 (((n : Nat) : Int)), .agg ([.int .i64 (0), .int .i64 (255), .int .i64 (a)] : List AV), .int .i64 (((1 : Nat) : Int))]), .int .i64 (((boKU [.agg (G (k)), .int .i64 (((n : Nat) : Int)), .agg ([.int .i64 (0), .int .i64 (255), .int .i64 (a)] : List AV), .int .i64 (((1 : Nat) : Int))] : Nat) : Int)), .agg (G (k3)), .int .i64 (((r : Nat) : Int))] = false →
                            ((boEU [.agg (G (k)), .int .i64 (((n : Nat) : Int)), .agg ([.int .i64 (0), .int .i64 (255), .int .i64 (a)] : List AV), .int .i64 (((1 : Nat) : Int))] : Int) == 0) = true ∧
                            (((boEU [.agg (G (k2)), .int .i64 (((m : Nat) : Int)), .agg ([.int .i64 (0), .int .i64 (255), .int .i64 (b)] : List AV), .int .i64 (((1 : Nat) : Int))] : Int) == 0) = true →
                              rowsU [.agg (boCU [.agg (G (k)), .int .i64 (((n : Nat) : Int)), .agg ([.int .i64 (0), .int .i64 (255), .int .i64 (a)] : List AV), .int .i64 (((1 : Nat) : Int))]), .int .i64 (((boKU [.agg (G (k)), .int .i64 (((n : Nat) : Int)), .agg ([.int .i64 (0), .int .i64 (255), .int .i64 (a)] : List AV), .int .i64 (((1 : Nat) : Int))] : Nat) : Int))] = true ∧
                              rowsU [.agg (boCU [.agg (G (k2)), .int .i64 (((m : Nat) : Int)), .agg ([.int .i64 (0), .int .i64 (255), .int .i64 (b)] : List AV), .int .i64 (((1 : Nat) : Int))]), .int .i64 (((boKU [.agg (G (k2)), .int .i64 (((m : Nat) : Int)), .agg ([.int .i64 (0), .int .i64 (255), .int .i64 (b)] : List AV), .int .i64 (((1 : Nat) : Int))] : Nat) : Int))] = true ∧
                              (((apEU [.agg (boCU [.agg (G (k)), .int .i64 (((n : Nat) : Int)), .agg ([.int .i64 (0), .int .i64 (255), .int .i64 (a)] : List AV), .int .i64 (((1 : Nat) : Int))]), .int .i64 (((boKU [.agg (G (k)), .int .i64 (((n : Nat) : Int)), .agg ([.int .i64 (0), .int .i64 (255), .int .i64 (a)] : List AV), .int .i64 (((1 : Nat) : Int))] : Nat) : Int)), .agg (boCU [.agg (G (k2)), .int .i64 (((m : Nat) : Int)), .agg ([.int .i64 (0), .int .i64 (255), .int .i64 (b)] : List AV), .int .i64 (((1 : Nat) : Int))]), .int .i64 (((boKU [.agg (G (k2)), .int .i64 (((m : Nat) : Int)), .agg ([.int .i64 (0), .int .i64 (255), .int .i64 (b)] : List AV), .int .i64 (((1 : Nat) : Int))] : Nat) : Int))] : Int) == 0) = true →
                                (((a : Int) == b) = true →
                                  R (.bool (true)) []) ∧
                                (((a : Int) == b) = false →
                                  (apBU [.agg (boCU [.agg (G (k)), .int .i64 (((n : Nat) : Int)), .agg ([.int .i64 (0), .int .i64 (255), .int .i64 (a)] : List AV), .int .i64 (((1 : Nat) : Int))]), .int .i64 (((boKU [.agg (G (k)), .int .i64 (((n : Nat) : Int)), .agg ([.int .i64 (0), .int .i64 (255), .int .i64 (a)] : List AV), .int .i64 (((1 : Nat) : Int))] : Nat) : Int)), .agg (boCU [.agg (G (k2)), .int .i64 (((m : Nat) : Int)), .agg ([.int .i64 (0), .int .i64 (255), .int .i64 (b)] : List AV), .int .i64 (((1 : Nat) : Int))]), .int .i64 (((boKU [.agg (G (k2)), .int .i64 (((m : Nat) : Int)), .agg ([.int .i64 (0), .int .i64 (255), .int .i64 (b)] : List AV), .int .i64 (((1 : Nat) : Int))] : Nat) : Int))] = true →
                                    R (.bool (true)) []) ∧
                                  (apBU [.agg (boCU [.agg (G (k)), .int .i64 (((n : Nat) : Int)), .agg ([.int .i64 (0), .int .i64 (255), .int .i64 (a)] : List AV), .int .i64 (((1 : Nat) : Int))]), .int .i64 (((boKU [.agg (G (k)), .int .i64 (((n : Nat) : Int)), .agg ([.int .i64 (0), .int .i64 (255), .int .i64 (a)] : List AV), .int .i64 (((1 : Nat) : Int))] : Nat) : Int)), .agg (boCU [.agg (G (k2)), .int .i64 (((m : Nat) : Int)), .agg ([.int .i64 (0), .int .i64 (255), .int .i64 (b)] : List AV), .int .i64 (((1 : Nat) : Int))]), .int .i64 (((boKU [.agg (G (k2)), .int .i64 (((m : Nat) : Int)), .agg ([.int .i64 (0), .int .i64 (255), .int .i64 (b)] : List AV), .int .i64 (((1 : Nat) : Int))] : Nat) : Int))] = false →
                                    R (.bool (false)) []))) ∧
                              (((apEU [.agg (boCU [.agg (G (k)), .int .i64 (((n : Nat) : Int)), .agg ([.int .i64 (0), .int .i64 (255), .int .i64 (a)] : List AV), .int .i64 (((1 : Nat) : Int))]), .int .i64 (((boKU [.agg (G (k)), .int .i64 (((n : Nat) : Int)), .agg ([.int .i64 (0), .int .i64 (255), .int .i64 (a)] : List AV), .int .i64 (((1 : Nat) : Int))] : Nat) : Int)), .agg (boCU [.agg (G (k2)), .int .i64 (((m : Nat) : Int)), .agg ([.int .i64 (0), .int .i64 (255), .int .i64 (b)] : List AV), .int .i64 (((1 : Nat) : Int))]), .int .i64 (((boKU [.agg (G (k2)), .int .i64 (((m : Nat) : Int)), .agg ([.int .i64 (0), .int .i64 (255), .int .i64 (b)] : List AV), .int .i64 (((1 : Nat) : Int))] : Nat) : Int))] : Int) == 0) = false →
                                R (.bool (false)) [])) ∧
                            (((boEU [.agg (G (k2)), .int .i64 (((m : Nat) : Int)), .agg ([.int .i64 (0), .int .i64 (255), .int .i64 (b)] : List AV), .int .i64 (((1 : Nat) : Int))] : Int) == 0) = false →
                              R (.bool (true)) [])))) ∧
                      (matchU [.agg (G (k)), .int .i64 (((n : Nat) : Int)), .agg (G (k3)), .int .i64 (((r : Nat) : Int))] = false →
                        (matchU [.agg (boCU [.agg (G (k)), .int .i64 (((n : Nat) : Int)), .agg ([.int .i64 (0), .int .i64 (255), .int .i64 (a)] : List AV), .int .i64 (((1 : Nat) : Int))]), .int .i64 (((boKU [.agg (G (k)), .int .i64 (((n : Nat) : Int)), .agg ([.int .i64 (0), .int .i64 (255), .int .i64 (a)] : List AV), .int .i64 (((1 : Nat) : Int))] : Nat) : Int)), .agg (G (k3)), .int .i64 (((r : Nat) : Int))] = true →
                          R (.bool (false)) []) ∧
                        (matchU [.agg (boCU [.agg (G (k)), .int .i64 (((n : Nat) : Int)), .agg ([.int .i64 (0), .int .i64 (255), .int .i64 (a)] : List AV), .int .i64 (((1 : Nat) : Int))]), .int .i64 (((boKU [.agg (G (k)), .int .i64 (((n : Nat) : Int)), .agg ([.int .i64 (0), .int .i64 (255), .int .i64 (a)] : List AV), .int .i64 (((1 : Nat) : Int))] : Nat) : Int)), .agg (G (k3)), .int .i64 (((r : Nat) : Int))] = false →
                          ((boEU [.agg (G (k)), .int .i64 (((n : Nat) : Int)), .agg ([.int .i64 (0), .int .i64 (255), .int .i64 (a)] : List AV), .int .i64 (((1 : Nat) : Int))] : Int) == 0) = true ∧
                          (((boEU [.agg (G (k2)), .int .i64 (((m : Nat) : Int)), .agg ([.int .i64 (0), .int .i64 (255), .int .i64 (b)] : List AV), .int .i64 (((1 : Nat) : Int))] : Int) == 0) = true →
                            rowsU [.agg (boCU [.agg (G (k)), .int .i64 (((n : Nat) : Int)), .agg ([.int .i64 (0), .int .i64 (255), .int .i64 (a)] : List AV), .int .i64 (((1 : Nat) : Int))]), .int .i64 (((boKU [.agg (G (k)), .int .i64 (((n : Nat) : Int)), .agg ([.int .i64 (0), .int .i64 (255), .int .i64 (a)] : List AV), .int .i64 (((1 : Nat) : Int))] : Nat) : Int))] = true ∧
                            rowsU [.agg (boCU [.agg (G (k2)), .int .i64 (((m : Nat) : Int)), .agg ([.int .i64 (0), .int .i64 (255), .int .i64 (b)] : List AV), .int .i64 (((1 : Nat) : Int))]), .int .i64 (((boKU [.agg (G (k2)), .int .i64 (((m : Nat) : Int)), .agg ([.int .i64 (0), .int .i64 (255), .int .i64 (b)] : List AV), .int .i64 (((1 : Nat) : Int))] : Nat) : Int))] = true ∧
                            (((apEU [.agg (boCU [.agg (G (k)), .int .i64 (((n : Nat) : Int)), .agg ([.int .i64 (0), .int .i64 (255), .int .i64 (a)] : List AV), .int .i64 (((1 : Nat) : Int))]), .int .i64 (((boKU [.agg (G (k)), .int .i64 (((n : Nat) : Int)), .agg ([.int .i64 (0), .int .i64 (255), .int .i64 (a)] : List AV), .int .i64 (((1 : Nat) : Int))] : Nat) : Int)), .agg (boCU [.agg (G (k2)), .int .i64 (((m : Nat) : Int)), .agg ([.int .i64 (0), .int .i64 (255), .int .i64 (b)] : List AV), .int .i64 (((1 : Nat) : Int))]), .int .i64 (((boKU [.agg (G (k2)), .int .i64 (((m : Nat) : Int)), .agg ([.int .i64 (0), .int .i64 (255), .int .i64 (b)] : List AV), .int .i64 (((1 : Nat) : Int))] : Nat) : Int))] : Int) == 0) = true →
                              (((a : Int) == b) = true →
                                R (.bool (true)) []) ∧
                              (((a : Int) == b) = false →
                                (apBU [.agg (boCU [.agg (G (k)), .int .i64 (((n : Nat) : Int)), .agg ([.int .i64 (0), .int .i64 (255), .int .i64 (a)] : List AV), .int .i64 (((1 : Nat) : Int))]), .int .i64 (((boKU [.agg (G (k)), .int .i64 (((n : Nat) : Int)), .agg ([.int .i64 (0), .int .i64 (255), .int .i64 (a)] : List AV), .int .i64 (((1 : Nat) : Int))] : Nat) : Int)), .agg (boCU [.agg (G (k2)), .int .i64 (((m : Nat) : Int)), .agg ([.int .i64 (0), .int .i64 (255), .int .i64 (b)] : List AV), .int .i64 (((1 : Nat) : Int))]), .int .i64 (((boKU [.agg (G (k2)), .int .i64 (((m : Nat) : Int)), .agg ([.int .i64 (0), .int .i64 (255), .int .i64 (b)] : List AV), .int .i64 (((1 : Nat) : Int))] : Nat) : Int))] = true →
                                  R (.bool (true)) []) ∧
                                (apBU [.agg (boCU [.agg (G (k)), .int .i64 (((n : Nat) : Int)), .agg ([.int .i64 (0), .int .i64 (255), .int .i64 (a)] : List AV), .int .i64 (((1 : Nat) : Int))]), .int .i64 (((boKU [.agg (G (k)), .int .i64 (((n : Nat) : Int)), .agg ([.int .i64 (0), .int .i64 (255), .int .i64 (a)] : List AV), .int .i64 (((1 : Nat) : Int))] : Nat) : Int)), .agg (boCU [.agg (G (k2)), .int .i64 (((m : Nat) : Int)), .agg ([.int .i64 (0), .int .i64 (255), .int .i64 (b)] : List AV), .int .i64 (((1 : Nat) : Int))]), .int .i64 (((boKU [.agg (G (k2)), .int .i64 (((m : Nat) : Int)), .agg ([.int .i64 (0), .int .i64 (255), .int .i64 (b)] : List AV), .int .i64 (((1 : Nat) : Int))] : Nat) : Int))] = false →
                                  R (.bool (false)) []))) ∧
                            (((apEU [.agg (boCU [.agg (G (k)), .int .i64 (((n : Nat) : Int)), .agg ([.int .i64 (0), .int .i64 (255), .int .i64 (a)] : List AV), .int .i64 (((1 : Nat) : Int))]), .int .i64 (((boKU [.agg (G (k)), .int .i64 (((n : Nat) : Int)), .agg ([.int .i64 (0), .int .i64 (255), .int .i64 (a)] : List AV), .int .i64 (((1 : Nat) : Int))] : Nat) : Int)), .agg (boCU [.agg (G (k2)), .int .i64 (((m : Nat) : Int)), .agg ([.int .i64 (0), .int .i64 (255), .int .i64 (b)] : List AV), .int .i64 (((1 : Nat) : Int))]), .int .i64 (((boKU [.agg (G (k2)), .int .i64 (((m : Nat) : Int)), .agg ([.int .i64 (0), .int .i64 (255), .int .i64 (b)] : List AV), .int .i64 (((1 : Nat) : Int))] : Nat) : Int))] : Int) == 0) = false →
                              R (.bool (false)) [])) ∧
                          (((boEU [.agg (G (k2)), .int .i64 (((m : Nat) : Int)), .agg ([.int .i64 (0), .int .i64 (255), .int .i64 (b)] : List AV), .int .i64 (((1 : Nat) : Int))] : Int) == 0) = false →
                            R (.bool (true)) [])))) ∧
                    (((boEU [.agg (G (k)), .int .i64 (((n : Nat) : Int)), .agg ([.int .i64 (0), .int .i64 (255), .int .i64 (a)] : List AV), .int .i64 (((1 : Nat) : Int))] : Int) == 0) = false →
                      (((boEU [.agg (G (k)), .int .i64 (((n : Nat) : Int)), .agg ([.int .i64 (0), .int .i64 (255), .int .i64 (a)] : List AV), .int .i64 (((1 : Nat) : Int))] : Int) == 210) = true →
                        (!(((boEU [.agg (G (k)), .int .i64 (((n : Nat) : Int)), .agg ([.int .i64 (0), .int .i64 (255), .int .i64 (a)] : List AV), .int .i64 (((1 : Nat) : Int))] : Int) == 0))) = true ∧
                        (!(((boEU [.agg (G (k)), .int .i64 (((n : Nat) : Int)), .agg ([.int .i64 (0), .int .i64 (255), .int .i64 (a)] : List AV), .int .i64 (((1 : Nat) : Int))] : Int) == 0))) = true ∧
                        R (.bool (true)) []) ∧
                      (((boEU [.agg (G (k)), .int .i64 (((n : Nat) : Int)), .agg ([.int .i64 (0), .int .i64 (255), .int .i64 (a)] : List AV), .int .i64 (((1 : Nat) : Int))] : Int) == 210) = false →
                        (((boEU [.agg (G (k)), .int .i64 (((n : Nat) : Int)), .agg ([.int .i64 (0), .int .i64 (255), .int .i64 (a)] : List AV), .int .i64 (((1 : Nat) : Int))] : Int) == 3) = true →
                          (!(((boEU [.agg (G (k)), .int .i64 (((n : Nat) : Int)), .agg ([.int .i64 (0), .int .i64 (255), .int .i64 (a)] : List AV), .int .i64 (((1 : Nat) : Int))] : Int) == 0))) = true ∧
                          (!(((boEU [.agg (G (k)), .int .i64 (((n : Nat) : Int)), .agg ([.int .i64 (0), .int .i64 (255), .int .i64 (a)] : List AV), .int .i64 (((1 : Nat) : Int))] : Int) == 0))) = true ∧
                          R (.bool (true)) []) ∧
                        (((boEU [.agg (G (k)), .int .i64 (((n : Nat) : Int)), .agg ([.int .i64 (0), .int .i64 (255), .int .i64 (a)] : List AV), .int .i64 (((1 : Nat) : Int))] : Int) == 3) = false →
                          R (.bool (false)) [])))) ∧
                  (mayU [.agg (G (k)), .int .i64 (((n : Nat) : Int))] = false →
                    (((boEU [.agg (G (k)), .int .i64 (((n : Nat) : Int)), .agg ([.int .i64 (0), .int .i64 (255), .int .i64 (a)] : List AV), .int .i64 (((1 : Nat) : Int))] : Int) == 2) = true →
                      (((((boKU [.agg (G (k)), .int .i64 (((n : Nat) : Int)), .agg ([.int .i64 (0), .int .i64 (255), .int .i64 (a)] : List AV), .int .i64 (((1 : Nat) : Int))] : Nat) : Int) : Int) == 0) = true →
                        R (.bool (true)) []) ∧
                      (((((boKU [.agg (G (k)), .int .i64 (((n : Nat) : Int)), .agg ([.int .i64 (0), .int .i64 (255), .int .i64 (a)] : List AV), .int .i64 (((1 : Nat) : Int))] : Nat) : Int) : Int) == 0) = false →
                        R (.bool (false)) [])) ∧
                    (((boEU [.agg (G (k)), .int .i64 (((n : Nat) : Int)), .agg ([.int .i64 (0), .int .i64 (255), .int .i64 (a)] : List AV), .int .i64 (((1 : Nat) : Int))] : Int) == 2) = false →
                      R (.bool (false)) []))))) ∧
            (((kShr .i64 (b) (8) : Int) == 0) = false →
              (decide ((a : Int) < 0) = true →
                (((boEU [.agg (G (k)), .int .i64 (((n : Nat) : Int)), .agg ([.int .i64 (0), .int .i64 (255), .int .i64 (a)] : List AV), .int .i64 (((1 : Nat) : Int))] : Int) == 2) = true →
                  (((((boKU [.agg (G (k)), .int .i64 (((n : Nat) : Int)), .agg ([.int .i64 (0), .int .i64 (255), .int .i64 (a)] : List AV), .int .i64 (((1 : Nat) : Int))] : Nat) : Int) : Int) == 0) = true →
                    R (.bool (true)) []) ∧
                  (((((boKU [.agg (G (k)), .int .i64 (((n : Nat) : Int)), .agg ([.int .i64 (0), .int .i64 (255), .int .i64 (a)] : List AV), .int .i64 (((1 : Nat) : Int))] : Nat) : Int) : Int) == 0) = false →
                    R (.bool (false)) [])) ∧
                (((boEU [.agg (G (k)), .int .i64 (((n : Nat) : Int)), .agg ([.int .i64 (0), .int .i64 (255), .int .i64 (a)] : List AV), .int .i64 (((1 : Nat) : Int))] : Int) == 2) = false →
                  R (.bool (false)) [])) ∧
              (decide ((a : Int) < 0) = false →
                (decide ((a : Int) > 255) = true →
                  (((boEU [.agg (G (k)), .int .i64 (((n : Nat) : Int)), .agg ([.int .i64 (0), .int .i64 (255), .int .i64 (a)] : List AV), .int .i64 (((1 : Nat) : Int))] : Int) == 2) = true →
                    (((((boKU [.agg (G (k)), .int .i64 (((n : Nat) : Int)), .agg ([.int .i64 (0), .int .i64 (255), .int .i64 (a)] : List AV), .int .i64 (((1 : Nat) : Int))] : Nat) : Int) : Int) == 0) = true →
                      R (.bool (true)) []) ∧
                    (((((boKU [.agg (G (k)), .int .i64 (((n : Nat) : Int)), .agg ([.int .i64 (0), .int .i64 (255), .int .i64 (a)] : List AV), .int .i64 (((1 : Nat) : Int))] : Nat) : Int) : Int) == 0) = false →
                      R (.bool (false)) [])) ∧
                  (((boEU [.agg (G (k)), .int .i64 (((n : Nat) : Int)), .agg ([.int .i64 (0), .int .i64 (255), .int .i64 (a)] : List AV), .int .i64 (((1 : Nat) : Int))] : Int) == 2) = false →
                    R (.bool (false)) [])) ∧
                (decide ((a : Int) > 255) = false →
                  rowsU [.agg (G (k)), .int .i64 (((n : Nat) : Int))] = true ∧
                  (mayU [.agg (G (k)), .int .i64 (((n : Nat) : Int))] = true →
                    (((boEU [.agg (G (k)), .int .i64 (((n : Nat) : Int)), .agg ([.int .i64 (0), .int .i64 (255), .int .i64 (a)] : List AV), .int .i64 (((1 : Nat) : Int))] : Int) == 0) = true →
                      ((boEU [.agg (G (k)), .int .i64 (((n : Nat) : Int)), .agg ([.int .i64 (0), .int .i64 (255), .int .i64 (a)] : List AV), .int .i64 (((1 : Nat) : Int))] : Int) == 0) = true ∧
                      rowsU [.agg (boCU [.agg (G (k)), .int .i64 (((n : Nat) : Int)), .agg ([.int .i64 (0), .int .i64 (255), .int .i64 (a)] : List AV), .int .i64 (((1 : Nat) : Int))]), .int .i64 (((boKU [.agg (G (k)), .int .i64 (((n : Nat) : Int)), .agg ([.int .i64 (0), .int .i64 (255), .int .i64 (a)] : List AV), .int .i64 (((1 : Nat) : Int))] : Nat) : Int))] = true ∧
                      bytesU [.agg (G (k3)), .int .i64 (((r : Nat) : Int))] = true ∧
                      rowsU [.agg (G (k)), .int .i64 (((n : Nat) : Int))] = true ∧
                      bytesU [.agg (G (k3)), .int .i64 (((r : Nat) : Int))] = true ∧
                      (matchU [.agg (G (k)), .int .i64 (((n : Nat) : Int)), .agg (G (k3)), .int .i64 (((r : Nat) : Int))] = true →
                        (decide ((((r : Nat) : Int) : Int) > 0) = true →
                          decide ((0 : Int) < ((r : Nat) : Int)) = true ∧
                          isI .u8 (G (k3)) (0) = true ∧
                          (matchU [.agg (boCU [.agg (G (k)), .int .i64 (((n : Nat) : Int)), .agg ([.int .i64 (0), .int .i64 (255), .int .i64 (a)] : List AV), .int .i64 (((1 : Nat) : Int))]), .int .i64 (((boKU [.agg (G (k)), .int .i64 (((n : Nat) : Int)), .agg ([.int .i64 (0), .int .i64 (255), .int .i64 (a)] : List AV), .int .i64 (((1 : Nat) : Int))] : Nat) : Int)), .agg (G (k3)), .int .i64 (((r : Nat) : Int))] = true →
                            (((IntKind.wrap .i64 (getI (G (k3)) (0)) : Int) == a) = true →
                              ((boEU [.agg (G (k)), .int .i64 (((n : Nat) : Int)), .agg ([.int .i64 (0), .int .i64 (255), .int .i64 (a)] : List AV), .int .i64 (((1 : Nat) : Int))] : Int) == 0) = true ∧
                              R (.bool (true)) []) ∧
                            (((IntKind.wrap .i64 (getI (G (k3)) (0)) : Int) == a) = false →
                              R (.bool (false)) [])) ∧
                          (matchU [.agg (boCU [.agg (G (k)), .int .i64 (((n : Nat) : Int)), .agg ([.int .i64 (0), .int .i64 (255), .int .i64 (a)] : List AV), .int .i64 (((1 : Nat) : Int))]), .int .i64 (((boKU [.agg (G (k)), .int .i64 (((n : Nat) : Int)), .agg ([.int .i64 (0), .int .i64 (255), .int .i64 (a)] : List AV), .int .i64 (((1 : Nat) : Int))] : Nat) : Int)), .agg (G (k3)), .int .i64 (((r : Nat) : Int))] = false →
                            (((IntKind.wrap .i64 (getI (G (k3)) (0)) : Int) == a) = true →
                              R (.bool (false)) []) ∧
                            (((IntKind.wrap .i64 (getI (G (k3)) (0)) : Int) == a) = false →
                              ((boEU [.agg (G (k)), .int .i64 (((n : Nat) : Int)), .agg ([.int .i64 (0), .int .i64 (255), .int .i64 (a)] : List AV), .int .i64 (((1 : Nat) : Int))] : Int) == 0) = true ∧
                              R (.bool (true)) []))) ∧
                        (decide ((((r : Nat) : Int) : Int) > 0) = false →
                          (matchU [.agg (boCU [.agg (G (k)), .int .i64 (((n : Nat) : Int)), .agg ([.int .i64 (0), .int .i64 (255), .int .i64 (a)] : List AV), .int .i64 (((1 : Nat) : Int))]), .int .i64 (((boKU [.agg (G (k)), .int .i64 (((n : Nat) : Int)), .agg ([.int .i64 (0), .int .i64 (255), .int .i64 (a)] : List AV), .int .i64 (((1 : Nat) : Int))] : Nat) : Int)), .agg (G (k3)), .int .i64 (((r : Nat) : Int))] = true →
                            R (.bool (false)) []) ∧
                          (matchU [.agg (boCU [.agg (G (k)), .int .i64 (((n : Nat) : Int)), .agg ([.int .i64 (0), .int .i64 (255), .int .i64 (a)] : List AV), .int .i64 (((1 : Nat) : Int))]), .int .i64 (((boKU [.agg (G (k)), .int .i64 (((n : Nat) : Int)), .agg ([.int .i64 (0), .int .i64 (255), .int .i64 (a)] : List AV), .int .i64 (((1 : Nat) : Int))] : Nat) : Int)), .agg (G (k3)), .int .i64 (((r : Nat) : Int))] = false →
                            ((boEU [.agg (G (k)), .int .i64 (((n : Nat) : Int)), .agg ([.int .i64 (0), .int .i64 (255), .int .i64 (a)] : List AV), .int .i64 (((1 : Nat) : Int))] : Int) == 0) = true ∧
                            R (.bool (true)) []))) ∧
                      (matchU [.agg (G (k)), .int .i64 (((n : Nat) : Int)), .agg (G (k3)), .int .i64 (((r : Nat) : Int))] = false →
                        (matchU [.agg (boCU [.agg (G (k)), .int .i64 (((n : Nat) : Int)), .agg ([.int .i64 (0), .int .i64 (255), .int .i64 (a)] : List AV), .int .i64 (((1 : Nat) : Int))]), .int .i64 (((boKU [.agg (G (k)), .int .i64 (((n : Nat) : Int)), .agg ([.int .i64 (0), .int .i64 (255), .int .i64 (a)] : List AV), .int .i64 (((1 : Nat) : Int))] : Nat) : Int)), .agg (G (k3)), .int .i64 (((r : Nat) : Int))] = true →
                          R (.bool (false)) []) ∧
                        (matchU [.agg (boCU [.agg (G (k)), .int .i64 (((n : Nat) : Int)), .agg ([.int .i64 (0), .int .i64 (255), .int .i64 (a)] : List AV), .int .i64 (((1 : Nat) : Int))]), .int .i64 (((boKU [.agg (G (k)), .int .i64 (((n : Nat) : Int)), .agg ([.int .i64 (0), .int .i64 (255), .int .i64 (a)] : List AV), .int .i64 (((1 : Nat) : Int))] : Nat) : Int)), .agg (G (k3)), .int .i64 (((r : Nat) : Int))] = false →
                          ((boEU [.agg (G (k)), .int .i64 (((n : Nat) : Int)), .agg ([.int .i64 (0), .int .i64 (255), .int .i64 (a)] : List AV), .int .i64 (((1 : Nat) : Int))] : Int) == 0) = true ∧
                          R (.bool (true)) []))) ∧
                    (((boEU [.agg (G (k)), .int .i64 (((n : Nat) : Int)), .agg ([.int .i64 (0), .int .i64 (255), .int .i64 (a)] : List AV), .int .i64 (((1 : Nat) : Int))] : Int) == 0) = false →
                      (((boEU [.agg (G (k)), .int .i64 (((n : Nat) : Int)), .agg ([.int .i64 (0), .int .i64 (255), .int .i64 (a)] : List AV), .int .i64 (((1 : Nat) : Int))] : Int) == 210) = true →
                        (!(((boEU [.agg (G (k)), .int .i64 (((n : Nat) : Int)), .agg ([.int .i64 (0), .int .i64 (255), .int .i64 (a)] : List AV), .int .i64 (((1 : Nat) : Int))] : Int) == 0))) = true ∧
                        (!(((boEU [.agg (G (k)), .int .i64 (((n : Nat) : Int)), .agg ([.int .i64 (0), .int .i64 (255), .int .i64 (a)] : List AV), .int .i64 (((1 : Nat) : Int))] : Int) == 0))) = true ∧
                        R (.bool (true)) []) ∧
                      (((boEU [.agg (G (k)), .int .i64 (((n : Nat) : Int)), .agg ([.int .i64 (0), .int .i64 (255), .int .i64 (a)] : List AV), .int .i64 (((1 : Nat) : Int))] : Int) == 210) = false →
                        (((boEU [.agg (G (k)), .int .i64 (((n : Nat) : Int)), .agg ([.int .i64 (0), .int .i64 (255), .int .i64 (a)] : List AV), .int .i64 (((1 : Nat) : Int))] : Int) == 3) = true →
                          (!(((boEU [.agg (G (k)), .int .i64 (((n : Nat) : Int)), .agg ([.int .i64 (0), .int .i64 (255), .int .i64 (a)] : List AV), .int .i64 (((1 : Nat) : Int))] : Int) == 0))) = true ∧
                          (!(((boEU [.agg (G (k)), .int .i64 (((n : Nat) : Int)), .agg ([.int .i64 (0), .int .i64 (255), .int .i64 (a)] : List AV), .int .i64 (((1 : Nat) : Int))] : Int) == 0))) = true ∧
                          R (.bool (true)) []) ∧
                        (((boEU [.agg (G (k)), .int .i64 (((n : Nat) : Int)), .agg ([.int .i64 (0), .int .i64 (255), .int .i64 (a)] : List AV), .int .i64 (((1 : Nat) : Int))] : Int) == 3) = false →
                          R (.bool (false)) [])))) ∧
                  (mayU [.agg (G (k)), .int .i64 (((n : Nat) : Int))] = false →
                    (((boEU [.agg (G (k)), .int .i64 (((n : Nat) : Int)), .agg ([.int .i64 (0), .int .i64 (255), .int .i64 (a)] : List AV), .int .i64 (((1 : Nat) : Int))] : Int) == 2) = true →
                      (((((boKU [.agg (G (k)), .int .i64 (((n : Nat) : Int)), .agg ([.int .i64 (0), .int .i64 (255), .int .i64 (a)] : List AV), .int .i64 (((1 : Nat) : Int))] : Nat) : Int) : Int) == 0) = true →
                        R (.bool (true)) []) ∧
                      (((((boKU [.agg (G (k)), .int .i64 (((n : Nat) : Int)), .agg ([.int .i64 (0), .int .i64 (255), .int .i64 (a)] : List AV), .int .i64 (((1 : Nat) : Int))] : Nat) : Int) : Int) == 0) = false →
                        R (.bool (false)) [])) ∧
                    (((boEU [.agg (G (k)), .int .i64 (((n : Nat) : Int)), .agg ([.int .i64 (0), .int .i64 (255), .int .i64 (a)] : List AV), .int .i64 (((1 : Nat) : Int))] : Int) == 2) = false →
                      R (.bool (false)) [])))))) ∧
          (((kShr .i64 (a) (8) : Int) == 0) = false →
            (((kShr .i64 (b) (8) : Int) == 0) = true →
              rowsU [.agg (G (k2)), .int .i64 (((m : Nat) : Int))] = true ∧
              rowsU [.agg ([.int .i64 (0), .int .i64 (255), .int .i64 (b)] : List AV), .int .i64 (((1 : Nat) : Int))] = true ∧
              (decide ((a : Int) < 0) = true →
                R (.bool (true)) []) ∧
              (decide ((a : Int) < 0) = false →
                (decide ((a : Int) > 255) = true →
                  R (.bool (true)) []) ∧
                (decide ((a : Int) > 255) = false →
                  rowsU [.agg (G (k)), .int .i64 (((n : Nat) : Int))] = true ∧
                  (mayU [.agg (G (k)), .int .i64 (((n : Nat) : Int))] = true →
                    R (.bool (false)) []) ∧
                  (mayU [.agg (G (k)), .int .i64 (((n : Nat) : Int))] = false →
                    R (.bool (true)) [])))) ∧
            (((kShr .i64 (b) (8) : Int) == 0) = false →
              (decide ((a : Int) < 0) = true →
                R (.bool (true)) []) ∧
              (decide ((a : Int) < 0) = false →
                (decide ((a : Int) > 255) = true →
                  R (.bool (true)) []) ∧
                (decide ((a : Int) > 255) = false →
                  rowsU [.agg (G (k)), .int .i64 (((n : Nat) : Int))] = true ∧
                  (mayU [.agg (G (k)), .int .i64 (((n : Nat) : Int))] = true →
                    R (.bool (false)) []) ∧
                  (mayU [.agg (G (k)), .int .i64 (((n : Nat) : Int))] = false →
                    R (.bool (true)) []))))))))) := by kernel_rfl
end Go.Am
