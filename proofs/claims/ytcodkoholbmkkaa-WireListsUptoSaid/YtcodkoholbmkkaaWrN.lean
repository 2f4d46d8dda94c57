/-
  WireLists: the loops and the run.
-/
import Derived.Test.YtcodkoholbmkkaaWrM
import Derived.Test.YtcodkoholbmkkaaWrF
namespace Go.Am
open Go.Proofs
set_option maxRecDepth 100000
theorem put27 (G : Nat → List AV) (B : Nat) (l : List AV) (m : Nat) (h : okPU [.agg l, .ptr (.rw 0) m] = true) (hm : m ≤ 1099511627776) : ACalls (⟨Try.prog, G, B⟩ : Ctx) 27 [.slice true (.rw 0) 0 m, .func 28 []] [some ⟨2, l⟩]
    fun v' H' => v' = .tup [.slice false (.rw 1) 0 (nform m ++ fcatU [.agg l, .ptr (.rw 0) m]).length, .int .i64 0] ∧ H' = [some ⟨2, l⟩] ++ [some ⟨1, bytesL (nform m ++ fcatU [.agg l, .ptr (.rw 0) m])⟩] := by
  have h' := h
  simp only [okPU, Bool.and_eq_true] at h'
  obtain ⟨g1, g2⟩ := cells_u64 h'.1
  have hf : ∀ j, bnds j l = true := fun j => by rw [g1]; exact u64L_flat _ _
  have hb : ∀ j a, bnds j (bytesL a) = true := fun j a => bytesL_flat _ _
  have key := dcall_ok (C := (⟨Try.prog, G, B⟩ : Ctx)) (fn := Try.f27) (f := 27) (R := fun v' H' => v' = .tup [.slice false (.rw 1) 0 (nform m ++ fcatU [.agg l, .ptr (.rw 0) m]).length, .int .i64 0] ∧ H' = [some ⟨2, l⟩] ++ [some ⟨1, bytesL (nform m ++ fcatU [.agg l, .ptr (.rw 0) m])⟩])
    (dgP27 G B) (by kernel_rfl) (by kernel_rfl) (by kernel_rfl) (fuel := 300) (n0 := 30) (keep := 2) (args := [.slice true (.rw 0) (.lit 0) (.var 1 m), .func 28 []]) (H := [some ⟨2, .var 5 l⟩]) (by
    rw [t27]
    have w : IntKind.wrap .u64 (m : Int) = (m : Int) := u64_in (by omega)
    rw [w, nformU_nat]
    exact ⟨inU_nat (by omega), h, leB_iff.2 hm, Nat.beq_refl _, Nat.beq_refl _, leB_iff.2 (nform_len _), rfl, rfl⟩)
  exact ACalls.keep (H := [some ⟨2, l⟩]) (H1 := [some ⟨2, l⟩] ++ [some ⟨1, bytesL (nform m ++ fcatU [.agg l, .ptr (.rw 0) m])⟩]) key (by simp) (by simp [hpB, hf, hb]) (by simp [bnd, bnds]) (by simp)
def putP : DSum := fun xs H => match xs with
  | [.slice true (.rw j) (.lit 0) m, .func 28 []] => match H[j]? with
    | some (some ⟨2, l⟩) => some (.chk (.uf 1145 okPU [.agg l, .ptr (.rw 0) m]) (.chk (.leN m (.lit 1099511627776)) (.namL (.bytes (.app (.uf 1104 nformU [.int .u64 (.ofN m)]) (.uf 1144 fcatU [.agg l, .ptr (.rw 0) m]))) fun L => .one (.tup [.slice false (.rw H.length) (.lit 0) (.len L), .int .i64 (.lit 0)]) [.new ⟨1, L⟩])))
    | _ => none
  | _ => none
theorem putP_ok (G : Nat → List AV) (B : Nat) : DSumOk (⟨Try.prog, G, B⟩ : Ctx) 27 putP := by
  intro xs H o ho
  simp only [putP] at ho
  split at ho
  · rename_i j m
    split at ho
    · rename_i l hj
      simp only [Option.some.injEq] at ho
      subst ho
      intro h1 h2 jj
      simp only [vB, vVs, vV, vR, vN, vL] at h1 h2
      have h' := h1
      simp only [okPU, Bool.and_eq_true] at h'
      obtain ⟨g1, g2⟩ := cells_u64 h'.1
      have hf : ∀ j, bnds j (vL G l) = true := fun j => by rw [g1]; exact u64L_flat _ _
      have key := put27 G B (vL G l) (vN G m) h1 (leB_iff.1 h2)
      refine DOut.newN (C := (⟨Try.prog, G, B⟩ : Ctx)) (θ := [j]) (b := ⟨1, .var jj (vL G (.bytes (.app (.uf 1104 nformU [.int .u64 (.ofN m)]) (.uf 1144 fcatU [.agg l, .ptr (.rw 0) m]))))⟩) (v0 := .tup [.slice false (.rw 1) 0 (nform (vN G m) ++ fcatU [.agg (vL G l), .ptr (.rw 0) (vN G m)]).length, .int .i64 0]) (H0 := [some ⟨2, vL G l⟩]) (by simp) rfl (fun k b hk => ?_) (by simp [bnds, bnd]) (args0 := [.slice true (.rw 0) 0 (vN G m), .func 28 []]) (by simp [vVs, vV, vR, vN, rens, ren]) ?_ (by simp only [vL]; exact bytesL_flat _ _) (by simp [bnd, bnds]) (by simp [vV, vVs, vR, vN, vS, vI, vL, ren, rens, wide, nformU_nat, bytesL_length])
      · match k with
        | 0 => simp at hk; subst hk; exact ⟨_, rfl, hf _, by simpa [renB, vBlk, rens_flat _ _ (hf 0)] using vHp_some (G := G) hj⟩
        | k + 1 => simp at hk
      · simp only [vBlk, vL, vS, vVs, vV, vI, vR, vN, nformU_nat]
        exact key
    · simp at ho
  · simp at ho
def rpOk (l : List AV) (a m : Int) : Bool := decide (rdEU [.agg l, .int .i64 a] = 0) && (decide (rdVU [.agg l, .int .i64 a] ≤ m) && nrOkU [.agg l, .int .i64 (rdAU [.agg l, .int .i64 a]), .int .i64 (rdVU [.agg l, .int .i64 a] * 2)])
def rpEU (xs : List AV) : Int := match xs with
  | [.agg l, .ptr _ _, .int _ a, .int _ m] => if rpOk l a m then 0 else if rdEU [.agg l, .int .i64 a] = 0 ∧ ¬ rdVU [.agg l, .int .i64 a] ≤ m then 3 else 4
  | _ => 4
def rpNU (xs : List AV) : Nat := match xs with
  | [.agg l, .ptr _ _, .int _ a, .int _ m] => if rpOk l a m then (rdVU [.agg l, .int .i64 a]).toNat else 0
  | _ => 0
def rpLU (xs : List AV) : List AV := match xs with
  | [.agg l, .ptr _ _, .int _ a, .int _ m] => if rpOk l a m then nrLU [.agg l, .int .i64 (rdAU [.agg l, .int .i64 a]), .int .i64 (rdVU [.agg l, .int .i64 a] * 2)] else []
  | _ => []
def rpAU (xs : List AV) : Int := match xs with
  | [.agg l, .ptr _ _, .int _ a, .int _ m] => if rpOk l a m then nrAU [.agg l, .int .i64 (rdAU [.agg l, .int .i64 a]), .int .i64 (rdVU [.agg l, .int .i64 a] * 2)] else a
  | _ => 0
theorem rpL_flat (xs : List AV) (j : Nat) : bnds j (rpLU xs) = true := by
  unfold rpLU
  split
  · split
    · exact nrL_flat _ _
    · rfl
  · rfl
/-- a nil result, or a list: as a list of its own, of cells of any size -/
theorem merge_nil2 {C : Ctx} {f : FuncId} {args : List AV} {H0 H1 H2 : Hp} {k z : Nat} {ok : Bool} {N : Nat} {E : Int} {cs : List AV} {mb : Bool} (h : ACalls C f args H0 fun v' H' => (ok = false ∧ v' = .tup [.nils, .int .i64 E] ∧ ∃ r, H'.take k = H1 ++ r) ∨ (ok = true ∧ v' = .tup [.slice mb (.rw H2.length) 0 N, .int .i64 0] ∧ H'.take k = H2 ++ [some ⟨z, cs⟩]))
    (h1 : H0.length ≤ H1.length) (b1 : hpB H1.length H1 = true) (h2 : H0.length ≤ H2.length + 1) (b2 : hpB (H2.length + 1) (H2 ++ [some ⟨z, cs⟩]) = true) (hE : ok = true → E = 0) (hN : ok = false → N = 0 ∧ cs = [] ∧ H2 = H1) :
    ACalls C f args H0 fun v' H' => v' = .tup [.slice true (.rw H2.length) 0 N, .int .i64 E] ∧ H' = H2 ++ [some ⟨z, cs⟩] := by
  have g1 := h.view (K' := fun v' H' => (ok = false ∧ v' = .tup [.nils, .int .i64 E] ∧ H' = H1) ∨ (ok = true ∧ v' = .tup [.slice mb (.rw H2.length) 0 N, .int .i64 0] ∧ H' = H2 ++ [some ⟨z, cs⟩])) (fun v H' hk => by
    rcases hk with ⟨g1, rfl, r, g3⟩ | ⟨g1, rfl, g3⟩
    · refine ⟨_, _, .inl ⟨g1, rfl, rfl⟩, ?_⟩
      have e : H' = H1 ++ (r ++ H'.drop k) := by rw [← List.append_assoc, ← g3, List.take_append_drop]
      rw [e]
      exact View.same h1 b1 ⟨⟨by simp [bnd, bnds], rfl⟩, trivial⟩
    · refine ⟨_, _, .inr ⟨g1, rfl, rfl⟩, ?_⟩
      have e : H' = (H2 ++ [some ⟨z, cs⟩]) ++ H'.drop k := by rw [← g3, List.take_append_drop]
      rw [e]
      exact View.same (by simpa using h2) (by simpa using b2) ⟨⟨by simp [bnd, bnds], rfl⟩, trivial⟩)
  have g2 := g1.nil (K' := fun v' H' => ∃ b, v' = .tup [.slice b (.rw H2.length) 0 N, .int .i64 E] ∧ H' = H2 ++ [some ⟨z, cs⟩]) z (fun v H' hk => by
    rcases hk with ⟨q1, rfl, q3⟩ | ⟨q1, rfl, q3⟩
    · obtain ⟨e1, e2, e3⟩ := hN q1
      refine .inr ⟨_, ⟨true, rfl, by rw [e2, e3, q3]⟩, nilH_refl _, ?_⟩
      rw [e1, e3, q3]
      exact ⟨.inr ⟨rfl, rfl⟩, .inl rfl, trivial⟩
    · exact .inl ⟨mb, by rw [hE q1], q3⟩)
  refine g2.conv fun v H' hk => ?_
  obtain ⟨b, rfl, rfl⟩ := hk
  refine ⟨_, ⟨rfl, rfl⟩, fun ρ cv hv => ?_⟩
  simp only [VR] at hv
  obtain ⟨vs, e, hs⟩ := hv
  simp only [VRs] at hs
  obtain ⟨x, ys, e1, e2, e3⟩ := hs
  simp only [VR, VRs]
  exact ⟨vs, e, x, ys, e1, by have := VR_may (ρ := ρ) (v := x) (mb := b) (by simpa only [VR] using e2); simpa only [VR] using this, e3⟩
theorem take29 (G : Nat → List AV) (B : Nat) (s : List AV) (n : Nat) (a m : Int) (h : okRdU [.agg s, .ptr (.rw 0) n, .int .i64 a] = true) (h40 : n ≤ 1099511627776) (hm : 0 ≤ m ∧ m ≤ 4611686018427387903) : ACalls (⟨Try.prog, G, B⟩ : Ctx) 29 [.ptr (.rw 0) 0, .int .i64 m, .func 30 []] [some ⟨1, [.slice false (.rw 1) 0 n, .int .i64 a]⟩, some ⟨1, s⟩]
    fun v' H' => v' = .tup [.slice true (.rw 2) 0 (rpNU [.agg s, .ptr (.rw 0) n, .int .i64 a, .int .i64 m]), .int .i64 (rpEU [.agg s, .ptr (.rw 0) n, .int .i64 a, .int .i64 m])] ∧ H' = [some ⟨1, [.slice false (.rw 1) 0 n, .int .i64 (rpAU [.agg s, .ptr (.rw 0) n, .int .i64 a, .int .i64 m])]⟩, some ⟨1, s⟩] ++ [some ⟨2, rpLU [.agg s, .ptr (.rw 0) n, .int .i64 a, .int .i64 m]⟩] := by
  have ok := okRd_iff.1 h
  have hp := ok.pos
  have hle := ok.le
  have hlen := ok.len
  have hf : ∀ j, bnds j s = true := fun j => u8s_flat (b8s_u8 ok.b)
  refine merge_nil2 (k := 3) (ok := rpOk s a m) (H1 := [some ⟨1, [.slice false (.rw 1) 0 n, .int .i64 a]⟩, some ⟨1, s⟩]) (H2 := [some ⟨1, [.slice false (.rw 1) 0 n, .int .i64 (rpAU [.agg s, .ptr (.rw 0) n, .int .i64 a, .int .i64 m])]⟩, some ⟨1, s⟩]) (mb := false) ?_ (by simp) (by simp [hpB, bnds, bnd, hf]) (by simp) (by simp [hpB, bnds, bnd, hf, rpL_flat]) (fun h => by simp [rpEU, h]) (fun h => by simp [rpLU, rpNU, rpAU, h])
  exact dcall_ok (C := (⟨Try.prog, G, B⟩ : Ctx)) (fn := Try.f29) (f := 29) (R := fun v' H' => (rpOk s a m = false ∧ v' = .tup [.nils, .int .i64 (rpEU [.agg s, .ptr (.rw 0) n, .int .i64 a, .int .i64 m])] ∧ ∃ r, H' = [some ⟨1, [.slice false (.rw 1) 0 n, .int .i64 a]⟩, some ⟨1, s⟩] ++ r) ∨
      (rpOk s a m = true ∧ v' = .tup [.slice false (.rw 2) 0 (rpNU [.agg s, .ptr (.rw 0) n, .int .i64 a, .int .i64 m]), .int .i64 0] ∧ H' = [some ⟨1, [.slice false (.rw 1) 0 n, .int .i64 (rpAU [.agg s, .ptr (.rw 0) n, .int .i64 a, .int .i64 m])]⟩, some ⟨1, s⟩] ++ [some ⟨2, rpLU [.agg s, .ptr (.rw 0) n, .int .i64 a, .int .i64 m]⟩]))
    (dgF29 G B) (by kernel_rfl) (by kernel_rfl) (by kernel_rfl) (fuel := 300) (n0 := 20) (keep := 3) (args := [.ptr (.rw 0) (.lit 0), .int .i64 (.var 7 m), .func 30 []]) (H := [some ⟨1, .of [.slice false (.rw 1) (.lit 0) (.var 4 n), .int .i64 (.var 5 a)]⟩, some ⟨1, .var 6 s⟩]) (by
    rw [t29]
    have wm : IntKind.wrap .u64 m = m := u64_in (by omega)
    rw [wm]
    refine ⟨fun h0 => absurd (of_decide_eq_true h0) (by omega), fun _ => ⟨h, fun he => ?_, fun he => ?_⟩⟩
    · have he := eq_of_beq he
      obtain ⟨b1, b2, b3⟩ := rd_bound (k := .i64) ok he
      refine ⟨fun hv => ?_, fun hv => ⟨by rw [he]; rfl, rfl, ?_⟩⟩
      · have hv := of_decide_eq_true hv
        have hk : rpOk s a m = false := by simp [rpOk]; omega
        exact ⟨rfl, .inl ⟨hk, by simp only [rpEU, hk, he]; simp; omega, _, rfl⟩⟩
      · have hv := of_decide_eq_false hv
        have w1 : IntKind.wrap .i64 (rdVU [.agg s, .int .i64 a]) = rdVU [.agg s, .int .i64 a] := i64_in (by omega)
        have w2 : IntKind.wrap .i64 (rdVU [.agg s, .int .i64 a] * 2) = rdVU [.agg s, .int .i64 a] * 2 := i64_in (by omega)
        rw [w1, w2]
        have ok2 : okRdU [.agg s, .ptr (.rw 0) n, .int .i64 (rdAU [.agg s, .int .i64 a])] = true := okRd_iff.2 ⟨ok.b, ok.len, ok.big, by omega, by omega⟩
        refine ⟨ok2, leB_iff.2 h40, decide_eq_true (by omega), decide_eq_true (by omega), fun hr => ?_, fun hr _ _ => ?_⟩
        · have hk : rpOk s a m = true := by simp only [rpOk, hr, he, Bool.and_true, Bool.and_eq_true, decide_eq_true_eq, true_and]; omega
          exact .inr ⟨hk, by simp [rpNU, hk], by simp [rpLU, rpAU, hk]⟩
        · have hk : rpOk s a m = false := by simp only [rpOk, hr, Bool.and_false]
          exact .inl ⟨hk, by simp only [rpEU, hk, he]; simp; omega, _, rfl⟩
    · have he := ne_of_beq_false he
      have hb : (rdEU [.agg s, .int .i64 a] == 0) = false := by simp [he]
      have hk : rpOk s a m = false := by simp [rpOk, he]
      rw [hb]
      refine ⟨rfl, rfl, rfl, .inl ⟨hk, ?_, _, rfl⟩⟩
      simp only [rpEU, hk, he]
      rcases rdE_cases s a .i64 with q | q
      · exact absurd q he
      · rw [q]; simp)
def takeP : DSum := fun xs H => match xs with
  | [.ptr (.rw i) (.lit 0), .int .i64 m', .func 30 []] => match H[i]? with
    | some (some ⟨1, .of [.slice false (.rw m) (.lit 0) n, .int .i64 a]⟩) => match H[m]? with
      | some (some ⟨1, l⟩) => match Nat.beq i m with
        | true => none
        | false => some (.chk (.uf 1120 okRdU [.agg l, .ptr (.rw 0) n, .int .i64 a]) (.chk (.leN n (.lit 1099511627776)) (.chk (.cmp .leq (.lit 0) m') (.chk (.cmp .leq m' (.lit 4611686018427387903))
          (.one (.tup [.slice true (.rw H.length) (.lit 0) (.uf 1146 rpNU [.agg l, .ptr (.rw 0) n, .int .i64 a, .int .i64 m']), .int .i64 (.uf 1147 rpEU [.agg l, .ptr (.rw 0) n, .int .i64 a, .int .i64 m'])]) [.set i ⟨1, .of [.slice false (.rw m) (.lit 0) n, .int .i64 (.uf 1148 rpAU [.agg l, .ptr (.rw 0) n, .int .i64 a, .int .i64 m'])]⟩, .new ⟨2, .uf 1149 rpLU [.agg l, .ptr (.rw 0) n, .int .i64 a, .int .i64 m']⟩])))))
      | _ => none
    | _ => none
  | _ => none
theorem takeP_ok (G : Nat → List AV) (B : Nat) : DSumOk (⟨Try.prog, G, B⟩ : Ctx) 29 takeP := by
  intro xs H o ho
  simp only [takeP] at ho
  split at ho
  · rename_i i m'
    split at ho
    · rename_i m n a hi
      split at ho
      · rename_i l hm
        split at ho
        · simp at ho
        · rename_i him
          have him : i ≠ m := fun h => by rw [h, Nat.beq_refl] at him; simp at him
          simp only [Option.some.injEq] at ho
          subst ho
          intro h1 h2 h3 h4
          simp only [vB, vVs, vV, vR, vN, cmpI, decide_eq_true_eq, vI] at h1 h2 h3 h4
          have hu := b8s_u8 (okRd_iff.1 h1).b
          have hf : ∀ j, bnds j (vL G l) = true := fun j => u8s_flat hu
          have key := take29 G B (vL G l) (vN G n) (vI G a) (vI G m') h1 (leB_iff.1 h2) ⟨of_decide_eq_true h3, of_decide_eq_true h4⟩
          have hc := fun j => rpL_flat [.agg (vL G l), .ptr (.rw 0) (vN G n), .int .i64 (vI G a), .int .i64 (vI G m')] j
          refine DOut.fr (θ := [i, m]) (by simp [him]) rfl (fun k b hk => ?_) (by simp [bnds, bnd]) (by simp [vVs, vV, vR, vN, rens, ren]) key (by simp) (by simp [bnd, bnds]) (by simp [hpB, hf, hc, bnds, bnd]) (by simp [vV, vVs, vR, vN, vI, vL, ren, rens, wide]) ?_
          · match k with
            | 0 => simp at hk; subst hk; exact ⟨_, rfl, by simp [bnds, bnd], by simpa [renB, vBlk, vL, vVs, vV, vR, vN, rens, ren] using vHp_some (G := G) hi⟩
            | 1 => simp at hk; subst hk; exact ⟨_, rfl, hf _, by simpa [renB, vBlk, rens_flat _ _ (hf 0)] using vHp_some (G := G) hm⟩
            | k + 2 => simp at hk
          · have hs := vHp_set_same (G := G) hm
            simp only [vBlk] at hs
            simp only [List.map_cons, List.map_nil, acts, Hop.act, vHop, vBlk, merge, lay, renO, renB, Option.map_some, rens_flat _ _ (hf 0), rens_flat _ _ (hc 0), List.length_cons, List.length_nil, List.drop_succ_cons, List.drop_zero, vL, vVs, vV, vR, vN, vI, List.cons_append, List.nil_append]
            rw [List.set_comm _ _ him, hs]
            simp [rens, ren, wide]
      · simp at ho
    · simp at ho
  · simp at ho
def progP : List (Nat × DSum) := [(27, putP), (29, takeP), (12, numS true), (18, trueW)]
theorem progP_ok (G : Nat → List AV) (B : Nat) : DSumsOk (⟨Try.prog, G, B⟩ : Ctx) progP := .cons (putP_ok G B) (.cons (takeP_ok G B) (.cons (numS_ok (num12 G B)) (.cons (trueW_ok fun G B => known_call G B) .nil)))
end Go.Am
