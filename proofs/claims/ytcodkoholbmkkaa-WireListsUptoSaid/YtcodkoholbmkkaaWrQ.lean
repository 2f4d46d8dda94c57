/-
  Wire: a flag and bytes are read.
-/
import Derived.Test.YtcodkoholbmkkaaWrB
import Derived.Test.YtcodkoholbmkkaaBase6
namespace Go.Am
open Go.Proofs
set_option maxRecDepth 100000
def readQ : List (Nat × DSum) := [(20, readS)]
theorem readQ_ok (G : Nat → List AV) (B : Nat) : DSumsOk (⟨Try.prog, G, B⟩ : Ctx) readQ := .cons (readS_ok G B) .nil
theorem dgQ (G : Nat → List AV) (B : Nat) : DGood (⟨Try.prog, G, B⟩ : Ctx) (Dc Try.prog [26, 38, 39] readQ [] 2) [] := dgood (mix G B) (by kernel_rfl) (readQ_ok G B) .nil
theorem t23 (G : Nat → List AV) (s : List AV) (n : Nat) (a : Int) (Q : Ex → List AV → Hp → Prop) (R : AV → Hp → Prop) : vT G Q R (dcall (Dc Try.prog [26, 38, 39] readQ [] 2) 200 10 Try.f23 [.ptr (.rw 0) (.lit 0)] [some ⟨1, .of [.slice false (.rw 1) (.lit 0) (.var 4 n), .int .i64 (.var 5 a)]⟩, some ⟨1, .var 6 s⟩] 2) = (
    (((IntKind.wrap .i64 (((n : Nat) : Int) - a) : Int) == 0) = true →
      R (.tup [.bool (false), .int .i64 (4)]) [some ⟨1, ([.slice false (.rw 1) (0) (n), .int .i64 (a)] : List AV)⟩, some ⟨1, s⟩]) ∧
    (((IntKind.wrap .i64 (((n : Nat) : Int) - a) : Int) == 0) = false →
      decide ((0 : Int) ≤ a) = true ∧
      decide ((a : Int) < ((n : Nat) : Int)) = true ∧
      isI .u8 s (Int.toNat (a)) = true ∧
      (decide ((getI s (Int.toNat (a)) : Int) > 1) = true →
        R (.tup [.bool (false), .int .i64 (4)]) [some ⟨1, ([.slice false (.rw 1) (0) (n), .int .i64 (a)] : List AV)⟩, some ⟨1, s⟩]) ∧
      (decide ((getI s (Int.toNat (a)) : Int) > 1) = false →
        decide ((0 : Int) ≤ IntKind.wrap .i64 (IntKind.wrap .i64 (a + 1) - 1)) = true ∧
        decide ((IntKind.wrap .i64 (IntKind.wrap .i64 (a + 1) - 1) : Int) < ((n : Nat) : Int)) = true ∧
        isI .u8 s (Int.toNat (IntKind.wrap .i64 (IntKind.wrap .i64 (a + 1) - 1))) = true ∧
        R (.tup [.bool (((getI s (Int.toNat (IntKind.wrap .i64 (IntKind.wrap .i64 (a + 1) - 1))) : Int) == 1)), .int .i64 (0)]) [some ⟨1, ([.slice false (.rw 1) (0) (n), .int .i64 (IntKind.wrap .i64 (a + 1))] : List AV)⟩, some ⟨1, s⟩]))) := by kernel_rfl
theorem t22 (G : Nat → List AV) (s : List AV) (n : Nat) (a m : Int) (Q : Ex → List AV → Hp → Prop) (R : AV → Hp → Prop) : vT G Q R (dcall (Dc Try.prog [26, 38, 39] readQ [] 2) 200 10 Try.f22 [.ptr (.rw 0) (.lit 0), .int .i64 (.var 7 m)] [some ⟨1, .of [.slice false (.rw 1) (.lit 0) (.var 4 n), .int .i64 (.var 5 a)]⟩, some ⟨1, .var 6 s⟩] 4) = (
    (decide ((m : Int) < 0) = true →
      R (.tup [.nils, .int .i64 (2)]) [some ⟨1, ([.slice false (.rw 1) (0) (n), .int .i64 (a)] : List AV)⟩, some ⟨1, s⟩]) ∧
    (decide ((m : Int) < 0) = false →
      okRdU [.agg s, .ptr (.rw 0) (n), .int .i64 (a)] = true ∧
      (((rdEU [.agg s, .int .i64 (a)] : Int) == 0) = true →
        (decide ((rdVU [.agg s, .int .i64 (a)] : Int) > IntKind.wrap .u64 (m)) = true →
          R (.tup [.nils, .int .i64 (3)]) [some ⟨1, ([.slice false (.rw 1) (0) (n), .int .i64 (a)] : List AV)⟩, some ⟨1, s⟩]) ∧
        (decide ((rdVU [.agg s, .int .i64 (a)] : Int) > IntKind.wrap .u64 (m)) = false →
          ((rdEU [.agg s, .int .i64 (a)] : Int) == 0) = true ∧
          (decide ((IntKind.wrap .i64 (rdVU [.agg s, .int .i64 (a)]) : Int) > IntKind.wrap .i64 (((n : Nat) : Int) - rdAU [.agg s, .int .i64 (a)])) = true →
            R (.tup [.nils, .int .i64 (4)]) [some ⟨1, ([.slice false (.rw 1) (0) (n), .int .i64 (a)] : List AV)⟩, some ⟨1, s⟩]) ∧
          (decide ((IntKind.wrap .i64 (rdVU [.agg s, .int .i64 (a)]) : Int) > IntKind.wrap .i64 (((n : Nat) : Int) - rdAU [.agg s, .int .i64 (a)])) = false →
            decide ((0 : Int) ≤ IntKind.wrap .i64 (IntKind.wrap .i64 (rdAU [.agg s, .int .i64 (a)] + IntKind.wrap .i64 (rdVU [.agg s, .int .i64 (a)])) - IntKind.wrap .i64 (rdVU [.agg s, .int .i64 (a)]))) = true ∧
            decide ((IntKind.wrap .i64 (IntKind.wrap .i64 (rdAU [.agg s, .int .i64 (a)] + IntKind.wrap .i64 (rdVU [.agg s, .int .i64 (a)])) - IntKind.wrap .i64 (rdVU [.agg s, .int .i64 (a)])) : Int) ≤ IntKind.wrap .i64 (rdAU [.agg s, .int .i64 (a)] + IntKind.wrap .i64 (rdVU [.agg s, .int .i64 (a)]))) = true ∧
            decide ((IntKind.wrap .i64 (rdAU [.agg s, .int .i64 (a)] + IntKind.wrap .i64 (rdVU [.agg s, .int .i64 (a)])) : Int) ≤ ((n : Nat) : Int)) = true ∧
            leB (Int.toNat (IntKind.wrap .i64 (IntKind.wrap .i64 (rdAU [.agg s, .int .i64 (a)] + IntKind.wrap .i64 (rdVU [.agg s, .int .i64 (a)])) - IntKind.wrap .i64 (rdVU [.agg s, .int .i64 (a)]))) + ((Int.toNat (IntKind.wrap .i64 (rdAU [.agg s, .int .i64 (a)] + IntKind.wrap .i64 (rdVU [.agg s, .int .i64 (a)])))) - (Int.toNat (IntKind.wrap .i64 (IntKind.wrap .i64 (rdAU [.agg s, .int .i64 (a)] + IntKind.wrap .i64 (rdVU [.agg s, .int .i64 (a)])) - IntKind.wrap .i64 (rdVU [.agg s, .int .i64 (a)])))))) (List.length s) = true ∧
            cellsB (subL s (Int.toNat (IntKind.wrap .i64 (IntKind.wrap .i64 (rdAU [.agg s, .int .i64 (a)] + IntKind.wrap .i64 (rdVU [.agg s, .int .i64 (a)])) - IntKind.wrap .i64 (rdVU [.agg s, .int .i64 (a)])))) ((Int.toNat (IntKind.wrap .i64 (rdAU [.agg s, .int .i64 (a)] + IntKind.wrap .i64 (rdVU [.agg s, .int .i64 (a)])))) - (Int.toNat (IntKind.wrap .i64 (IntKind.wrap .i64 (rdAU [.agg s, .int .i64 (a)] + IntKind.wrap .i64 (rdVU [.agg s, .int .i64 (a)])) - IntKind.wrap .i64 (rdVU [.agg s, .int .i64 (a)])))))) = true ∧
            leB ((Int.toNat (IntKind.wrap .i64 (rdAU [.agg s, .int .i64 (a)] + IntKind.wrap .i64 (rdVU [.agg s, .int .i64 (a)])))) - (Int.toNat (IntKind.wrap .i64 (IntKind.wrap .i64 (rdAU [.agg s, .int .i64 (a)] + IntKind.wrap .i64 (rdVU [.agg s, .int .i64 (a)])) - IntKind.wrap .i64 (rdVU [.agg s, .int .i64 (a)]))))) (140737488355328) = true ∧
            R (.tup [.slice false (.rw 3) (0) ((Int.toNat (IntKind.wrap .i64 (rdAU [.agg s, .int .i64 (a)] + IntKind.wrap .i64 (rdVU [.agg s, .int .i64 (a)])))) - (Int.toNat (IntKind.wrap .i64 (IntKind.wrap .i64 (rdAU [.agg s, .int .i64 (a)] + IntKind.wrap .i64 (rdVU [.agg s, .int .i64 (a)])) - IntKind.wrap .i64 (rdVU [.agg s, .int .i64 (a)]))))), .int .i64 (0)]) [some ⟨1, ([.slice false (.rw 1) (0) (n), .int .i64 (IntKind.wrap .i64 (rdAU [.agg s, .int .i64 (a)] + IntKind.wrap .i64 (rdVU [.agg s, .int .i64 (a)])))] : List AV)⟩, some ⟨1, s⟩, none, some ⟨1, (subL s (Int.toNat (IntKind.wrap .i64 (IntKind.wrap .i64 (rdAU [.agg s, .int .i64 (a)] + IntKind.wrap .i64 (rdVU [.agg s, .int .i64 (a)])) - IntKind.wrap .i64 (rdVU [.agg s, .int .i64 (a)])))) ((Int.toNat (IntKind.wrap .i64 (rdAU [.agg s, .int .i64 (a)] + IntKind.wrap .i64 (rdVU [.agg s, .int .i64 (a)])))) - (Int.toNat (IntKind.wrap .i64 (IntKind.wrap .i64 (rdAU [.agg s, .int .i64 (a)] + IntKind.wrap .i64 (rdVU [.agg s, .int .i64 (a)])) - IntKind.wrap .i64 (rdVU [.agg s, .int .i64 (a)]))))))⟩]))) ∧
      (((rdEU [.agg s, .int .i64 (a)] : Int) == 0) = false →
        (!(((rdEU [.agg s, .int .i64 (a)] : Int) == 0))) = true ∧
        (!(((rdEU [.agg s, .int .i64 (a)] : Int) == 0))) = true ∧
        (!(((rdEU [.agg s, .int .i64 (a)] : Int) == 0))) = true ∧
        R (.tup [.nils, .int .i64 (rdEU [.agg s, .int .i64 (a)])]) [some ⟨1, ([.slice false (.rw 1) (0) (n), .int .i64 (a)] : List AV)⟩, some ⟨1, s⟩]))) := by kernel_rfl
def rfOk (l : List AV) (a : Nat) : Bool := decide (a < l.length) && decide (getI l a ≤ 1)
def rfVU (xs : List AV) : Bool := match xs with
  | [.agg l, .int _ a] => rfOk l a.toNat && (getI l a.toNat == 1)
  | _ => false
def rfEU (xs : List AV) : Int := match xs with
  | [.agg l, .int _ a] => if rfOk l a.toNat then 0 else 4
  | _ => 4
def rfAU (xs : List AV) : Int := match xs with
  | [.agg l, .int _ a] => if rfOk l a.toNat then a + 1 else a
  | _ => 0
theorem flag23 (G : Nat → List AV) (B : Nat) (s : List AV) (n : Nat) (a : Int) (h : okRdU [.agg s, .ptr (.rw 0) n, .int .i64 a] = true) : ACalls (⟨Try.prog, G, B⟩ : Ctx) 23 [.ptr (.rw 0) 0] [some ⟨1, [.slice false (.rw 1) 0 n, .int .i64 a]⟩, some ⟨1, s⟩]
    fun v' H' => v' = .tup [.bool (rfVU [.agg s, .int .i64 a]), .int .i64 (rfEU [.agg s, .int .i64 a])] ∧ H' = [some ⟨1, [.slice false (.rw 1) 0 n, .int .i64 (rfAU [.agg s, .int .i64 a])]⟩, some ⟨1, s⟩] := by
  have ok := okRd_iff.1 h
  have hf : ∀ j, bnds j s = true := fun j => u8s_flat (b8s_u8 ok.b)
  have hp := ok.pos
  have hle := ok.le
  have hbig := ok.big
  have hlen := ok.len
  have key := dcall_ok (C := (⟨Try.prog, G, B⟩ : Ctx)) (fn := Try.f23) (f := 23) (R := fun v' H' => v' = .tup [.bool (rfVU [.agg s, .int .i64 a]), .int .i64 (rfEU [.agg s, .int .i64 a])] ∧ H' = [some ⟨1, [.slice false (.rw 1) 0 n, .int .i64 (rfAU [.agg s, .int .i64 a])]⟩, some ⟨1, s⟩])
    (dgQ G B) (by kernel_rfl) (by kernel_rfl) (by kernel_rfl) (fuel := 200) (n0 := 10) (keep := 2) (args := [.ptr (.rw 0) (.lit 0)]) (H := [some ⟨1, .of [.slice false (.rw 1) (.lit 0) (.var 4 n), .int .i64 (.var 5 a)]⟩, some ⟨1, .var 6 s⟩]) (by
    rw [t23]
    have w1 : IntKind.wrap .i64 (((n : Nat) : Int) - a) = (n : Int) - a := i64_in (by omega)
    have w2 : IntKind.wrap .i64 (a + 1) = a + 1 := i64_in (by omega)
    have w3 : IntKind.wrap .i64 (a + 1 - 1) = a := by rw [i64_in (by omega)]; omega
    rw [w1, w2, w3]
    refine ⟨fun h0 => ?_, fun h0 => ?_⟩
    · have h0 := eq_of_beq h0
      have : rfOk s a.toNat = false := by simp [rfOk]; omega
      simp [rfVU, rfEU, rfAU, this]
    · have h0 := ne_of_beq_false h0
      have hl : a.toNat < s.length := by omega
      obtain ⟨g1, g2, g3⟩ := b8s_get ok.b hl
      have p0 : decide ((0 : Int) ≤ a) = true := decide_eq_true (by omega)
      have p1 : decide (a < ((n : Nat) : Int)) = true := decide_eq_true (by omega)
      refine ⟨p0, p1, g1, fun hc => ?_, fun hc => ⟨p0, p1, g1, ?_⟩⟩
      · have hc := of_decide_eq_true hc
        have : rfOk s a.toNat = false := by simp [rfOk]; omega
        simp [rfVU, rfEU, rfAU, this]
      · have hc := of_decide_eq_false hc
        have : rfOk s a.toNat = true := by simp [rfOk]; omega
        simp [rfVU, rfEU, rfAU, this])
  exact ACalls.keep (H := [some ⟨1, [.slice false (.rw 1) 0 n, .int .i64 a]⟩, some ⟨1, s⟩]) key (by simp) (by simp [hpB, bnds, bnd, hf]) (by simp [bnd, bnds]) (by simp)
/-- a reader's call: its own block and its bytes -/
theorem DOut.reader {C : Ctx} {f : FuncId} {H : DHp} {i m : Nat} {n : EN} {a a' : EI} {l : EL} {rest : List EV} {v : EV} (him : i ≠ m) (hi : H[i]? = some (some ⟨1, .of [.slice false (.rw m) (.lit 0) n, .int .i64 a]⟩)) (hm : H[m]? = some (some ⟨1, l⟩))
    (hf : ∀ j, bnds j (vL C.G l) = true) (hr : bnds 0 (vVs C.G rest) = true) (hv : bnd 0 (vV C.G v) = true)
    (key : ACalls C f (.ptr (.rw 0) 0 :: vVs C.G rest) [some ⟨1, [.slice false (.rw 1) 0 (vN C.G n), .int .i64 (vI C.G a)]⟩, some ⟨1, vL C.G l⟩] fun v' H' => v' = vV C.G v ∧ H' = [some ⟨1, [.slice false (.rw 1) 0 (vN C.G n), .int .i64 (vI C.G a')]⟩, some ⟨1, vL C.G l⟩]) :
    DOut C f (.ptr (.rw i) (.lit 0) :: rest) H v [.set i ⟨1, .of [.slice false (.rw m) (.lit 0) n, .int .i64 a']⟩] := by
  refine DOut.fr (θ := [i, m]) (by simp [him]) rfl (fun k b hk => ?_) (by simp only [bnds, bnd, Bool.and_eq_true]; exact ⟨by simp, bnds_mono (Nat.zero_le _) _ hr⟩) (by simp only [vVs, vV, vR, vN, rens, ren, rens_flat _ _ hr]; rfl) key (by simp) (bnd_mono (Nat.zero_le _) _ hv) (by simp [hpB, hf, bnds, bnd]) (ren_flat _ _ hv).symm ?_
  · match k with
    | 0 => simp at hk; subst hk; exact ⟨_, rfl, by simp [bnds, bnd], by simpa [renB, vBlk, vL, vVs, vV, vR, vN, rens, ren] using vHp_some (G := C.G) hi⟩
    | 1 => simp at hk; subst hk; exact ⟨_, rfl, hf _, by simpa [renB, vBlk, rens_flat _ _ (hf 0)] using vHp_some (G := C.G) hm⟩
    | k + 2 => simp at hk
  · have hs := vHp_set_same (G := C.G) hm
    simp only [vBlk] at hs
    simp only [List.map_cons, List.map_nil, acts, Hop.act, vHop, vBlk, merge, lay, renO, renB, Option.map_some, rens_flat _ _ (hf 0), List.length_cons, List.length_nil, List.drop_succ_cons, List.drop_nil, List.append_nil, vL, vVs, vV, vR, vN, vI]
    rw [List.set_comm _ _ him, hs]
    simp [rens, ren, wide]
def flagR : DSum := fun xs H => match xs with
  | [.ptr (.rw i) (.lit 0)] => match H[i]? with
    | some (some ⟨1, .of [.slice false (.rw m) (.lit 0) n, .int .i64 a]⟩) => match H[m]? with
      | some (some ⟨1, l⟩) => match Nat.beq i m with
        | true => none
        | false => some (.chk (.uf 1120 okRdU [.agg l, .ptr (.rw 0) n, .int .i64 a]) (.one (.tup [.bool (.uf 1125 rfVU [.agg l, .int .i64 a]), .int .i64 (.uf 1126 rfEU [.agg l, .int .i64 a])]) [.set i ⟨1, .of [.slice false (.rw m) (.lit 0) n, .int .i64 (.uf 1127 rfAU [.agg l, .int .i64 a])]⟩]))
      | _ => none
    | _ => none
  | _ => none
theorem flagR_ok (G : Nat → List AV) (B : Nat) : DSumOk (⟨Try.prog, G, B⟩ : Ctx) 23 flagR := by
  intro xs H o ho
  simp only [flagR] at ho
  split at ho
  · rename_i i
    split at ho
    · rename_i m n a hi
      split at ho
      · rename_i l hm
        split at ho
        · simp at ho
        · rename_i him
          have him : i ≠ m := fun h => by rw [h, Nat.beq_refl] at him; simp at him
          simp only [Option.some.injEq] at ho
          subst ho
          intro h1
          simp only [vB, vVs, vV, vR, vN] at h1
          refine DOut.reader (C := (⟨Try.prog, G, B⟩ : Ctx)) (rest := []) him hi hm (fun j => u8s_flat (b8s_u8 (okRd_iff.1 h1).b)) rfl (by simp [vV, vVs, bnd, bnds]) ?_
          simp only [vVs, vV, vB, vI]
          exact flag23 G B (vL G l) (vN G n) (vI G a) h1
      · simp at ho
    · simp at ho
  · simp at ho
/-! bytes are read -/
theorem wrdF_len {s : List AV} {t : Nat} : ∀ (f k v j : Nat), wrdF s t f k = some (v, j) → t + k + j ≤ s.length
  | 0, _, _, _, h => by simp [wrdF] at h
  | f + 1, k, v, j, h => by
    rw [wrdF] at h
    split at h
    · rename_i hl
      split at h
      · simp at h
      · split at h
        · simp at h; omega
        · cases hr : wrdF s t f (k + 1) with
          | none => rw [hr] at h; simp at h
          | some p =>
            rw [hr] at h
            have := wrdF_len f (k + 1) p.1 p.2 hr
            simp at h
            omega
    · simp at h
theorem rd_bound {l : List AV} {n : Nat} {k : IntKind} {a : Int} (h : RdOk l n a) (h0 : rdEU [.agg l, .int k a] = 0) : 0 ≤ rdVU [.agg l, .int k a] ∧ a ≤ rdAU [.agg l, .int k a] ∧ rdAU [.agg l, .int k a] ≤ n := by
  have hp := h.pos
  have hl := h.len
  simp only [rdEU, rdVU, rdAU] at h0 ⊢
  cases hw : wrd l a.toNat with
  | none => rw [hw] at h0; simp at h0
  | some p =>
    obtain ⟨v, j⟩ := p
    have := wrdF_len _ _ _ _ hw
    simp only [hw]
    omega
def rbOk (l : List AV) (n : Nat) (a m : Int) : Bool := decide (rdEU [.agg l, .int .i64 a] = 0) && (decide (rdVU [.agg l, .int .i64 a] ≤ m) && decide (rdVU [.agg l, .int .i64 a] ≤ (n : Int) - rdAU [.agg l, .int .i64 a]))
def rbEU (xs : List AV) : Int := match xs with
  | [.agg l, .ptr _ n, .int _ a, .int _ m] => if rdEU [.agg l, .int .i64 a] = 0 then (if rdVU [.agg l, .int .i64 a] ≤ m then (if rdVU [.agg l, .int .i64 a] ≤ (n : Int) - rdAU [.agg l, .int .i64 a] then 0 else 4) else 3) else rdEU [.agg l, .int .i64 a]
  | _ => 4
def rbNU (xs : List AV) : Nat := match xs with
  | [.agg l, .ptr _ n, .int _ a, .int _ m] => if rbOk l n a m then (rdVU [.agg l, .int .i64 a]).toNat else 0
  | _ => 0
def rbCU (xs : List AV) : List AV := match xs with
  | [.agg l, .ptr _ n, .int _ a, .int _ m] => if rbOk l n a m then subL l (rdAU [.agg l, .int .i64 a]).toNat (rdVU [.agg l, .int .i64 a]).toNat else []
  | _ => []
def rbAU (xs : List AV) : Int := match xs with
  | [.agg l, .ptr _ n, .int _ a, .int _ m] => if rbOk l n a m then rdAU [.agg l, .int .i64 a] + rdVU [.agg l, .int .i64 a] else a
  | _ => 0
theorem bytes22a (G : Nat → List AV) (B : Nat) (s : List AV) (n : Nat) (a m : Int) (h : okRdU [.agg s, .ptr (.rw 0) n, .int .i64 a] = true) (h40 : n ≤ 1099511627776) (hm : 0 ≤ m ∧ m ≤ 9223372036854775807) : ACalls (⟨Try.prog, G, B⟩ : Ctx) 22 [.ptr (.rw 0) 0, .int .i64 m] [some ⟨1, [.slice false (.rw 1) 0 n, .int .i64 a]⟩, some ⟨1, s⟩]
    fun v' H' => (rbOk s n a m = false ∧ v' = .tup [.nils, .int .i64 (rbEU [.agg s, .ptr (.rw 0) n, .int .i64 a, .int .i64 m])] ∧ H'.take 4 = [some ⟨1, [.slice false (.rw 1) 0 n, .int .i64 a]⟩, some ⟨1, s⟩]) ∨
      (rbOk s n a m = true ∧ v' = .tup [.slice false (.rw 3) 0 (rbNU [.agg s, .ptr (.rw 0) n, .int .i64 a, .int .i64 m]), .int .i64 0] ∧ H'.take 4 = [some ⟨1, [.slice false (.rw 1) 0 n, .int .i64 (rbAU [.agg s, .ptr (.rw 0) n, .int .i64 a, .int .i64 m])]⟩, some ⟨1, s⟩, none, some ⟨1, rbCU [.agg s, .ptr (.rw 0) n, .int .i64 a, .int .i64 m]⟩]) := by
  have ok := okRd_iff.1 h
  have hp := ok.pos
  have hle := ok.le
  have hlen := ok.len
  exact dcall_ok (C := (⟨Try.prog, G, B⟩ : Ctx)) (fn := Try.f22) (f := 22) (R := fun v' H' => (rbOk s n a m = false ∧ v' = .tup [.nils, .int .i64 (rbEU [.agg s, .ptr (.rw 0) n, .int .i64 a, .int .i64 m])] ∧ H' = [some ⟨1, [.slice false (.rw 1) 0 n, .int .i64 a]⟩, some ⟨1, s⟩]) ∨
      (rbOk s n a m = true ∧ v' = .tup [.slice false (.rw 3) 0 (rbNU [.agg s, .ptr (.rw 0) n, .int .i64 a, .int .i64 m]), .int .i64 0] ∧ H' = [some ⟨1, [.slice false (.rw 1) 0 n, .int .i64 (rbAU [.agg s, .ptr (.rw 0) n, .int .i64 a, .int .i64 m])]⟩, some ⟨1, s⟩, none, some ⟨1, rbCU [.agg s, .ptr (.rw 0) n, .int .i64 a, .int .i64 m]⟩]))
    (dgQ G B) (by kernel_rfl) (by kernel_rfl) (by kernel_rfl) (fuel := 200) (n0 := 10) (keep := 4) (args := [.ptr (.rw 0) (.lit 0), .int .i64 (.var 7 m)]) (H := [some ⟨1, .of [.slice false (.rw 1) (.lit 0) (.var 4 n), .int .i64 (.var 5 a)]⟩, some ⟨1, .var 6 s⟩]) (by
    rw [t22]
    have wm : IntKind.wrap .u64 m = m := u64_in (by omega)
    rw [wm]
    refine ⟨fun h0 => absurd (of_decide_eq_true h0) (by omega), fun _ => ⟨h, fun he => ?_, fun he => ?_⟩⟩
    · have he := eq_of_beq he
      obtain ⟨b1, b2, b3⟩ := rd_bound (k := .i64) ok he
      refine ⟨fun hv => ?_, fun hv => ⟨by rw [he]; rfl, ?_⟩⟩
      · have hv := of_decide_eq_true hv
        exact .inl ⟨by simp [rbOk]; omega, by simp only [rbEU, he, if_true]; rw [if_neg (by omega)], rfl⟩
      · have hv := of_decide_eq_false hv
        have w1 : IntKind.wrap .i64 (rdVU [.agg s, .int .i64 a]) = rdVU [.agg s, .int .i64 a] := i64_in (by omega)
        have w2 : IntKind.wrap .i64 ((n : Int) - rdAU [.agg s, .int .i64 a]) = (n : Int) - rdAU [.agg s, .int .i64 a] := i64_in (by omega)
        rw [w1, w2]
        refine ⟨fun hc => ?_, fun hc => ?_⟩
        · have hc := of_decide_eq_true hc
          exact .inl ⟨by simp [rbOk]; omega, by simp only [rbEU, he, if_true]; rw [if_pos (by omega), if_neg (by omega)], rfl⟩
        · have hc := of_decide_eq_false hc
          have w3 : IntKind.wrap .i64 (rdAU [.agg s, .int .i64 a] + rdVU [.agg s, .int .i64 a]) = rdAU [.agg s, .int .i64 a] + rdVU [.agg s, .int .i64 a] := i64_in (by omega)
          have w4 : IntKind.wrap .i64 (rdAU [.agg s, .int .i64 a] + rdVU [.agg s, .int .i64 a] - rdVU [.agg s, .int .i64 a]) = rdAU [.agg s, .int .i64 a] := by rw [i64_in (by omega)]; omega
          have w5 : (rdAU [.agg s, .int .i64 a] + rdVU [.agg s, .int .i64 a]).toNat - (rdAU [.agg s, .int .i64 a]).toNat = (rdVU [.agg s, .int .i64 a]).toNat := by omega
          have hok : rbOk s n a m = true := by simp [rbOk, he]; omega
          rw [w3, w4, w5]
          exact ⟨decide_eq_true (by omega), decide_eq_true (by omega), decide_eq_true (by omega), leB_iff.2 (by omega), u8s_cells (by have := b8s_u8 ok.b; simp only [u8s, List.all_eq_true, subL] at this ⊢; exact fun v hv => this v (List.mem_of_mem_drop (List.mem_of_mem_take hv))), leB_iff.2 (by omega), .inr ⟨hok, by simp [rbNU, hok], by simp [rbAU, rbCU, hok]⟩⟩
    · have he := ne_of_beq_false he
      have hb : (rdEU [.agg s, .int .i64 a] == 0) = false := by simp [he]
      rw [hb]
      exact ⟨rfl, rfl, rfl, .inl ⟨by simp [rbOk, he], by simp [rbEU, he], rfl⟩⟩)
theorem rbC_flat {xs : List AV} (h : ∀ l r n k a k' m, xs = [.agg l, .ptr r n, .int k a, .int k' m] → u8s l = true) (j : Nat) : bnds j (rbCU xs) = true := by
  unfold rbCU
  split
  · rename_i l r n k a k' m
    have hl := h l r n k a k' m rfl
    split
    · refine u8s_flat ?_
      simp only [u8s, List.all_eq_true, subL] at hl ⊢
      exact fun v hv => hl v (List.mem_of_mem_drop (List.mem_of_mem_take hv))
    · rfl
  · rfl
theorem bytes22 (G : Nat → List AV) (B : Nat) (s : List AV) (n : Nat) (a m : Int) (h : okRdU [.agg s, .ptr (.rw 0) n, .int .i64 a] = true) (h40 : n ≤ 1099511627776) (hm : 0 ≤ m ∧ m ≤ 9223372036854775807) : ACalls (⟨Try.prog, G, B⟩ : Ctx) 22 [.ptr (.rw 0) 0, .int .i64 m] [some ⟨1, [.slice false (.rw 1) 0 n, .int .i64 a]⟩, some ⟨1, s⟩]
    fun v' H' => v' = .tup [.slice true (.rw 2) 0 (rbNU [.agg s, .ptr (.rw 0) n, .int .i64 a, .int .i64 m]), .int .i64 (rbEU [.agg s, .ptr (.rw 0) n, .int .i64 a, .int .i64 m])] ∧ H' = [some ⟨1, [.slice false (.rw 1) 0 n, .int .i64 (rbAU [.agg s, .ptr (.rw 0) n, .int .i64 a, .int .i64 m])]⟩, some ⟨1, s⟩, some ⟨1, rbCU [.agg s, .ptr (.rw 0) n, .int .i64 a, .int .i64 m]⟩] := by
  have ok := okRd_iff.1 h
  have hs := b8s_u8 ok.b
  have hf : ∀ j, bnds j s = true := fun j => u8s_flat hs
  have hc : ∀ j, bnds j (rbCU [.agg s, .ptr (.rw 0) n, .int .i64 a, .int .i64 m]) = true := fun j => rbC_flat (fun l r n' k a' k' m' he => by simp at he; rw [← he.1]; exact hs) j
  have h1 := (bytes22a G B s n a m h h40 hm).view (K' := fun v' H' => (rbOk s n a m = false ∧ v' = .tup [.nils, .int .i64 (rbEU [.agg s, .ptr (.rw 0) n, .int .i64 a, .int .i64 m])] ∧ H' = [some ⟨1, [.slice false (.rw 1) 0 n, .int .i64 a]⟩, some ⟨1, s⟩]) ∨
      (rbOk s n a m = true ∧ v' = .tup [.slice false (.rw 2) 0 (rbNU [.agg s, .ptr (.rw 0) n, .int .i64 a, .int .i64 m]), .int .i64 0] ∧ H' = [some ⟨1, [.slice false (.rw 1) 0 n, .int .i64 (rbAU [.agg s, .ptr (.rw 0) n, .int .i64 a, .int .i64 m])]⟩, some ⟨1, s⟩, some ⟨1, rbCU [.agg s, .ptr (.rw 0) n, .int .i64 a, .int .i64 m]⟩])) (fun v H' hk => by
    rcases hk with ⟨g1, rfl, g3⟩ | ⟨g1, rfl, g3⟩
    · refine ⟨_, _, .inl ⟨g1, rfl, rfl⟩, ?_⟩
      have e : H' = [some ⟨1, [.slice false (.rw 1) 0 n, .int .i64 a]⟩, some ⟨1, s⟩] ++ H'.drop 4 := by
        have := List.take_append_drop 4 H'
        rw [g3] at this
        exact this.symm
      rw [e]
      exact View.same (by simp) (by simp [hpB, bnds, bnd, hf]) ⟨⟨by simp [bnd, bnds], rfl⟩, trivial⟩
    · refine ⟨_, _, .inr ⟨g1, rfl, rfl⟩, ?_⟩
      have e : H' = some ⟨1, [.slice false (.rw 1) 0 n, .int .i64 (rbAU [.agg s, .ptr (.rw 0) n, .int .i64 a, .int .i64 m])]⟩ :: some ⟨1, s⟩ :: none :: some ⟨1, rbCU [.agg s, .ptr (.rw 0) n, .int .i64 a, .int .i64 m]⟩ :: H'.drop 4 := by
        have := List.take_append_drop 4 H'
        rw [g3] at this
        exact this.symm
      rw [e]
      exact View.renM (θ := [0, 1, 3]) (by simp) fixes2 (by decide) ⟨⟨by simp [bnds, bnd], by simp [rens, ren]⟩, ⟨hf _, by rw [rens_flat _ _ (hf 0)]; rfl⟩, ⟨hc _, by rw [rens_flat _ _ (hc 0)]; rfl⟩, trivial⟩ (by simp [bnds, bnd]) (by simp [rens, ren, wk]))
  have h2 := h1.nil (K' := fun v' H' => ∃ b, v' = .tup [.slice b (.rw 2) 0 (rbNU [.agg s, .ptr (.rw 0) n, .int .i64 a, .int .i64 m]), .int .i64 (rbEU [.agg s, .ptr (.rw 0) n, .int .i64 a, .int .i64 m])] ∧ H' = [some ⟨1, [.slice false (.rw 1) 0 n, .int .i64 (rbAU [.agg s, .ptr (.rw 0) n, .int .i64 a, .int .i64 m])]⟩, some ⟨1, s⟩, some ⟨1, rbCU [.agg s, .ptr (.rw 0) n, .int .i64 a, .int .i64 m]⟩]) 1 (fun v H' hk => by
    rcases hk with ⟨g1, rfl, rfl⟩ | ⟨g1, rfl, rfl⟩
    · refine .inr ⟨_, ⟨true, rfl, ?_⟩, nilH_refl _, ?_⟩
      · simp [rbAU, rbCU, g1]
      · have : rbNU [.agg s, .ptr (.rw 0) n, .int .i64 a, .int .i64 m] = 0 := by simp [rbNU, g1]
        rw [this]
        exact ⟨.inr ⟨rfl, rfl⟩, .inl rfl, trivial⟩
    · have : rbEU [.agg s, .ptr (.rw 0) n, .int .i64 a, .int .i64 m] = 0 := by
        simp only [rbOk, Bool.and_eq_true, decide_eq_true_eq] at g1
        simp only [rbEU, g1.1, if_true]
        rw [if_pos g1.2.1, if_pos g1.2.2]
      exact .inl ⟨false, by rw [this], rfl⟩)
  refine h2.conv fun v H' hk => ?_
  obtain ⟨b, rfl, rfl⟩ := hk
  refine ⟨_, ⟨rfl, rfl⟩, fun ρ cv hv => ?_⟩
  simp only [VR] at hv
  obtain ⟨vs, e, hs⟩ := hv
  simp only [VRs] at hs
  obtain ⟨x, ys, e1, e2, e3⟩ := hs
  simp only [VR, VRs]
  exact ⟨vs, e, x, ys, e1, by have := VR_may (ρ := ρ) (v := x) (mb := b) (by simpa only [VR] using e2); simpa only [VR] using this, e3⟩
def bytesR : DSum := fun xs H => match xs with
  | [.ptr (.rw i) (.lit 0), .int .i64 m'] => match H[i]? with
    | some (some ⟨1, .of [.slice false (.rw m) (.lit 0) n, .int .i64 a]⟩) => match H[m]? with
      | some (some ⟨1, l⟩) => match Nat.beq i m with
        | true => none
        | false => some (.chk (.uf 1120 okRdU [.agg l, .ptr (.rw 0) n, .int .i64 a]) (.chk (.leN n (.lit 1099511627776)) (.chk (.cmp .leq (.lit 0) m') (.chk (.cmp .leq m' (.lit 9223372036854775807))
          (.one (.tup [.slice true (.rw H.length) (.lit 0) (.uf 1129 rbNU [.agg l, .ptr (.rw 0) n, .int .i64 a, .int .i64 m']), .int .i64 (.uf 1128 rbEU [.agg l, .ptr (.rw 0) n, .int .i64 a, .int .i64 m'])]) [.set i ⟨1, .of [.slice false (.rw m) (.lit 0) n, .int .i64 (.uf 1131 rbAU [.agg l, .ptr (.rw 0) n, .int .i64 a, .int .i64 m'])]⟩, .new ⟨1, .uf 1130 rbCU [.agg l, .ptr (.rw 0) n, .int .i64 a, .int .i64 m']⟩])))))
      | _ => none
    | _ => none
  | _ => none
theorem bytesR_ok (G : Nat → List AV) (B : Nat) : DSumOk (⟨Try.prog, G, B⟩ : Ctx) 22 bytesR := by
  intro xs H o ho
  simp only [bytesR] at ho
  split at ho
  · rename_i i m'
    split at ho
    · rename_i m n a hi
      split at ho
      · rename_i l hm
        split at ho
        · simp at ho
        · rename_i him
          have him : i ≠ m := fun h => by rw [h, Nat.beq_refl] at him; simp at him
          simp only [Option.some.injEq] at ho
          subst ho
          intro h1 h2 h3 h4
          simp only [vB, vVs, vV, vR, vN, cmpI, decide_eq_true_eq, vI] at h1 h2 h3 h4
          have hu := b8s_u8 (okRd_iff.1 h1).b
          have hf : ∀ j, bnds j (vL G l) = true := fun j => u8s_flat hu
          have key := bytes22 G B (vL G l) (vN G n) (vI G a) (vI G m') h1 (leB_iff.1 h2) ⟨of_decide_eq_true h3, of_decide_eq_true h4⟩
          have hc : ∀ j, bnds j (rbCU [.agg (vL G l), .ptr (.rw 0) (vN G n), .int .i64 (vI G a), .int .i64 (vI G m')]) = true := fun j => rbC_flat (fun l' r n' k a' k' m' he => by simp at he; rw [← he.1]; exact hu) j
          refine DOut.fr (θ := [i, m]) (by simp [him]) rfl (fun k b hk => ?_) (by simp [bnds, bnd]) (by simp [vVs, vV, vR, vN, rens, ren]) key (by simp) (by simp [bnd, bnds]) (by simp [hpB, hf, hc, bnds, bnd]) (by simp [vV, vVs, vR, vN, vI, ren, rens, wide]) ?_
          · match k with
            | 0 => simp at hk; subst hk; exact ⟨_, rfl, by simp [bnds, bnd], by simpa [renB, vBlk, vL, vVs, vV, vR, vN, rens, ren] using vHp_some (G := G) hi⟩
            | 1 => simp at hk; subst hk; exact ⟨_, rfl, hf _, by simpa [renB, vBlk, rens_flat _ _ (hf 0)] using vHp_some (G := G) hm⟩
            | k + 2 => simp at hk
          · have hs := vHp_set_same (G := G) hm
            simp only [vBlk] at hs
            simp only [List.map_cons, List.map_nil, acts, Hop.act, vHop, vBlk, merge, lay, renO, renB, Option.map_some, rens_flat _ _ (hf 0), rens_flat _ _ (hc 0), List.length_cons, List.length_nil, List.drop_succ_cons, List.drop_zero, vL, vVs, vV, vR, vN, vI]
            rw [List.set_comm _ _ him, hs]
            simp [rens, ren, wide]
      · simp at ho
    · simp at ho
  · simp at ho
end Go.Am
