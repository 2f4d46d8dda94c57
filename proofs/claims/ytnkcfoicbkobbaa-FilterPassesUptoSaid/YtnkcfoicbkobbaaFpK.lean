/-
  Filters: FilterPasses: the law's run.
-/
import Derived.Test.YtnkcfoicbkobbaaFpJ
namespace Go.Am
open Go.Proofs
set_option maxRecDepth 100000
-- names: (.uf 1904 (rw0) [x]) (.uf 1905 (rt) [x]) (.uf 1906 (rp) [x])
theorem fp_run (G : Nat → List AV) (rw0 rp rt : List AV → Bool) (k n k2 m gw wn g kc : Nat) (lw : Int) (Q : Ex → List AV → Hp → Prop) (R : AV → Hp → Prop) : vT G Q R (dlaw (Dc Try.prog [] [(8, knownS), (25, sAt 1906 rp (.one (.func 37 [.ptr (.rw 5) (.lit 0), .ptr (.rw 4) (.lit 0)]) [.new ⟨1, .of [.slice true (.ro (.var 20 kc)) (.lit 0) (.var 2 n)]⟩, .new ⟨1, .of [.slice true (.ro (.var 9 g)) (.lit 0) (.var 4 m)]⟩]))] [DLat 1904 (rw0) 0 115 [0, 4, 5, 6, 7, 8] (.one (.exit 0) [.slice true (.ro (.var 1 k)) (.lit 0) (.var 2 n), .ptr (.rw 0) (.lit 0), .ptr (.rw 1) (.lit 0), .ptr (.rw 2) (.lit 0), .ptr (.rw 3) (.lit 0), .undef] [some ⟨1, .of [.slice true (.ro (.var 3 k2)) (.lit 0) (.var 4 m)]⟩, some ⟨1, .of [.int .i64 (.var 11 lw)]⟩, some ⟨1, .of [.bool (.lit false)]⟩, some ⟨1, .of [.slice true (.ro (.var 10 gw)) (.lit 0) (.var 12 wn)]⟩]), DLat 1905 (rt) 2 115 [4, 5, 6, 7, 9, 10] (.one (.exit 2) [.undef, .undef, .ptr (.rw 2) (.lit 0), .undef, .undef, .undef] (HTd (.var 3 k2) (.var 4 m) (.var 10 gw) (.var 12 wn) (.var 20 kc) (.var 2 n) (.var 9 g) (.var 11 lw) (.lit 2)))] 0) 400 20 Try.f7 [.slice true (.ro (.var 1 k)) (.lit 0) (.var 2 n), .slice true (.ro (.var 3 k2)) (.lit 0) (.var 4 m), .int .i64 (.var 11 lw)] []) = (
    (decide ((((n : Nat) : Int) : Int) > 40) = true →
      R (.bool (true)) []) ∧
    (decide ((((n : Nat) : Int) : Int) > 40) = false →
      (decide ((((m : Nat) : Int) : Int) > 40) = true →
        R (.bool (true)) []) ∧
      (decide ((((m : Nat) : Int) : Int) > 40) = false →
        (rw0) [.agg ([.slice true (.ro (k)) (0) (n), .ptr (.rw 0) (0), .ptr (.rw 1) (0), .ptr (.rw 2) (0), .ptr (.rw 3) (0), .int .i64 (0)] : List AV), .agg ([.tup [.int .i64 (1), .agg ([.slice true (.ro (k2)) (0) (m)] : List AV)], .tup [.int .i64 (1), .agg ([.int .i64 (lw)] : List AV)], .tup [.int .i64 (1), .agg ([.bool (false)] : List AV)], .tup [.int .i64 (1), .agg ([.nils] : List AV)]] : List AV)] = true ∧
        (rp) [.agg ([.slice true (.ro (k)) (0) (n), .slice true (.ro (k2)) (0) (m)] : List AV), .agg ([.tup [.int .i64 (1), .agg ([.slice true (.ro (k2)) (0) (m)] : List AV)], .tup [.int .i64 (1), .agg ([.int .i64 (lw)] : List AV)], .tup [.int .i64 (1), .agg ([.bool (false)] : List AV)], .tup [.int .i64 (1), .agg ([.slice true (.ro (gw)) (0) (wn)] : List AV)]] : List AV)] = true ∧
        (rt) [.agg ([.ptr (.rw 0) (0), .ptr (.rw 1) (0), .ptr (.rw 2) (0), .ptr (.rw 3) (0), .func 37 [.ptr (.rw 5) (0), .ptr (.rw 4) (0)], .ptr (.rw 6) (0)] : List AV), .agg ([.tup [.int .i64 (1), .agg ([.slice true (.ro (k2)) (0) (m)] : List AV)], .tup [.int .i64 (1), .agg ([.int .i64 (lw)] : List AV)], .tup [.int .i64 (1), .agg ([.bool (false)] : List AV)], .tup [.int .i64 (1), .agg ([.slice true (.ro (gw)) (0) (wn)] : List AV)], .tup [.int .i64 (1), .agg ([.slice true (.ro (kc)) (0) (n)] : List AV)], .tup [.int .i64 (1), .agg ([.slice true (.ro (g)) (0) (m)] : List AV)], .tup [.int .i64 (1), .agg ([.int .i64 (0)] : List AV)]] : List AV)] = true ∧
        R (.bool (true)) []))) := by kernel_rfl
theorem matchB_n0 {cs ds ps : List AV} {m : Nat} : matchB cs 0 ps m = matchB ds 0 ps m := by
  rw [← matchB_take (cs := cs), ← matchB_take (cs := ds)]; rfl
theorem mtF_clK {G : Nat → List AV} {k n k2 e : Nat} : mtF G (clK k n e) n k2 = mtF G k n k2 := by
  funext i
  unfold mtF clK
  split
  · rename_i h; subst h; exact matchB_n0
  · rfl
theorem okI_clK {G : Nat → List AV} {k n e : Nat} (hk : okI .i64 (G k) 0 (n * 3) = true) : okI .i64 (G (clK k n e)) 0 (n * 3) = true := by
  unfold clK
  split
  · rename_i h; subst h; rfl
  · exact hk
theorem p25_call (G : Nat → List AV) (B : Nat) (k n k2 m e g : Nat) (hE : G e = []) (hg : G g = wkC (G k2) e m) (hp : pksB G (G k2) m = true) (hm : m ≤ 40) (hn : n ≤ 40) (hc : clC 3 (G k) n = true) (H : Hp) :
    ACalls (⟨Try.prog, G, B⟩ : Ctx) 25 [.slice true (.ro k) 0 n, .slice true (.ro k2) 0 m] H fun v H' => v = .func 37 [.ptr (.rw (H.length + 1)) 0, .ptr (.rw H.length) 0] ∧ H' = H ++ [some ⟨1, [.slice true (.ro (clK k n e)) 0 n]⟩, some ⟨1, [.slice true (.ro g) 0 m]⟩] := by
  have h := dcall_ok (C := (⟨Try.prog, G, B⟩ : Ctx)) (fuel := 300) (n0 := 20) (f := 25) (fn := Try.f25) (args := [.slice true (.ro (.var 1 k)) (.lit 0) (.var 2 n), .slice true (.ro (.var 3 k2)) (.lit 0) (.var 4 m)]) (H := []) (keep := 2)
    (R := fun v H => v = .func 37 [.ptr (.rw 1) 0, .ptr (.rw 0) 0] ∧ H = [some ⟨1, [.slice true (.ro (clK k n e)) 0 n]⟩, some ⟨1, [.slice true (.ro g) 0 m]⟩])
    (dgood (mixF G B) (by kernel_rfl) (progCl_ok G B e hE) (.cast (.cons (i := 0) (by kernel_rfl) rfl (pL_ok G B k n k2 m e g hE hg) .nil) (by kernel_rfl))) (by kernel_rfl) (by kernel_rfl) (by kernel_rfl) (by
    rw [t25]
    refine ⟨rfl, leB_iff.2 (by omega), hc, ?_, rfl, rfl⟩
    exact stQ_refl (by simp only [Bool.and_eq_true]; exact ⟨hp, Nat.ble_eq_true_of_le hm⟩) rfl rfl)
  have h : ACalls (⟨Try.prog, G, B⟩ : Ctx) 25 [.slice true (.ro k) 0 n, .slice true (.ro k2) 0 m] [] fun v H' => v = .func 37 [.ptr (.rw 1) 0, .ptr (.rw 0) 0] ∧ H'.take 2 = [some ⟨1, [.slice true (.ro (clK k n e)) 0 n]⟩, some ⟨1, [.slice true (.ro g) 0 m]⟩] := h
  have h2 := ACalls.keep (k := 2) h (by simp) (by simp [hpB, bnds, bnd]) (by simp [bnd, bnds]) (by simp)
  have h3 := frame_call h2 [] rfl (by simp) (fun i b hb => by simp at hb) (H := H) (by simp [bnds, bnd]) (fun v H' ⟨q1, q2⟩ => by
    subst q1 q2
    refine ⟨by simp, by simp [bnd, bnds], fun i b hb => ?_⟩
    match i, hb with
    | 0, hb => simp at hb; subst hb; simp [bnds, bnd]
    | 1, hb => simp at hb; subst hb; simp [bnds, bnd]
    | i + 2, hb => simp at hb)
  refine h3.monoK ?_
  rintro v H' ⟨v0, H0, ⟨rfl, rfl⟩, rfl, rfl⟩
  refine ⟨?_, ?_⟩
  · simp [wide, ren, rens, List.range_succ]
  · simp [merge, lay, renO, renB, rens, ren]
theorem DLat_no {C : Ctx} {M : Nat} {c : Code} {j ex N : Nat} {live : List Nat} {o : LOut} : DLoopOk C M c (DLat j (fun _ => false) ex N live o) := by
  intro m vs H o' hm ho n Q hQ
  simp only [DLat, Option.some.injEq] at ho
  subst ho
  exact absurd hQ.1 (by simp [vB])
theorem sAt_no {C : Ctx} {f j : Nat} {o : Outs} : DSumOk C f (sAt j (fun _ => false) o) := by
  intro args H o' ho
  simp only [sAt, Option.some.injEq] at ho
  subst ho
  intro h; exact absurd h (by simp [vB])
theorem loops7 : loopsOf (bodyOf Try.f7) = [loopN Try.f7 0, loopN Try.f7 1, loopN Try.f7 2] := by kernel_rfl
theorem fp_call (G : Nat → List AV) (B : Nat) (k n k2 m e g gw wn : Nat) (lw : Int) (hE : G e = []) (hg : G g = wkC (G k2) e m) (hp : pksB G (G k2) m = true) (hk : okI .i64 (G k) 0 (n * 3) = true) (hc : clC 3 (G k) n = true) (hw : wn = cntB (mtF G k n k2) m) (hgw : G gw = wantL (mtF G k n k2) m) :
    ACalls (⟨Try.prog, G, B⟩ : Ctx) 7 [.slice true (.ro k) 0 n, .slice true (.ro k2) 0 m, .int .i64 lw] [] fun v _ => v = .bool true := by
  by_cases hn : n ≤ 40 ∧ m ≤ 40
  · obtain ⟨hn, hm⟩ := hn
    have l0 : DLoopOk (⟨Try.prog, G, B⟩ : Ctx) 0 (loopN Try.f7 0) (DLat 0x770 (isSt [.slice true (.ro k) 0 n, .ptr (.rw 0) 0, .ptr (.rw 1) 0, .ptr (.rw 2) 0, .ptr (.rw 3) 0, .int .i64 0] [some ⟨1, [.slice true (.ro k2) 0 m]⟩, some ⟨1, [.int .i64 lw]⟩, some ⟨1, [.bool false]⟩, some ⟨1, [.nils]⟩]) 0 115 [0, 4, 5, 6, 7, 8] (.one (.exit 0) [.slice true (.ro (.var 1 k)) (.lit 0) (.var 2 n), .ptr (.rw 0) (.lit 0), .ptr (.rw 1) (.lit 0), .ptr (.rw 2) (.lit 0), .ptr (.rw 3) (.lit 0), .undef] [some ⟨1, .of [.slice true (.ro (.var 3 k2)) (.lit 0) (.var 4 m)]⟩, some ⟨1, .of [.int .i64 (.var 11 lw)]⟩, some ⟨1, .of [.bool (.lit false)]⟩, some ⟨1, .of [.slice true (.ro (.var 10 gw)) (.lit 0) (.var 12 wn)]⟩])) := DLat_okC rfl (w_loop G B k2 m gw wn k n lw hp hk hm hw hgw)
    have h6 : DLoopOk (⟨Try.prog, G, B⟩ : Ctx) 6 (loopN Try.f7 1) (DLat 0x771 (isSt [.ptr (.rw 0) 0, .ptr (.rw 1) 0, .ptr (.rw 2) 0, .ptr (.rw 3) 0, .func 37 [.ptr (.rw 5) 0, .ptr (.rw 4) 0], .ptr (.rw 6) 0] (vHp G (HTd (.var 3 k2) (.var 4 m) (.var 10 gw) (.var 12 wn) (.var 20 (clK k n e)) (.var 2 n) (.var 9 g) (.var 11 lw) (.var 13 0)))) 2 115 [4, 5, 6, 7, 9, 10] (.one (.exit 2) [.undef, .undef, .ptr (.rw 2) (.lit 0), .undef, .undef, .undef] (HTd (.var 3 k2) (.var 4 m) (.var 10 gw) (.var 12 wn) (.var 20 (clK k n e)) (.var 2 n) (.var 9 g) (.var 11 lw) (.lit 2)))) :=
      DLat_okC rfl (t_loop G B k2 m gw wn (clK k n e) n g e lw hg hE hp (okI_clK hk) hm (by rw [mtF_clK]; exact hw) (by rw [mtF_clK]; exact hgw))
    have lt : DLoopOk (⟨Try.prog, G, B⟩ : Ctx) 0 (loopN Try.f7 1) (DLat 0x771 (isSt [.ptr (.rw 0) 0, .ptr (.rw 1) 0, .ptr (.rw 2) 0, .ptr (.rw 3) 0, .func 37 [.ptr (.rw 5) 0, .ptr (.rw 4) 0], .ptr (.rw 6) 0] (vHp G (HTd (.var 3 k2) (.var 4 m) (.var 10 gw) (.var 12 wn) (.var 20 (clK k n e)) (.var 2 n) (.var 9 g) (.var 11 lw) (.var 13 0)))) 2 115 [4, 5, 6, 7, 9, 10] (.one (.exit 2) [.undef, .undef, .ptr (.rw 2) (.lit 0), .undef, .undef, .undef] (HTd (.var 3 k2) (.var 4 m) (.var 10 gw) (.var 12 wn) (.var 20 (clK k n e)) (.var 2 n) (.var 9 g) (.var 11 lw) (.lit 2)))) := fun m vs H o hm => h6 m vs H o (by omega)
    have sp : DSumOk (⟨Try.prog, G, B⟩ : Ctx) 25 (sAt 0x772 (isSt [.slice true (.ro k) 0 n, .slice true (.ro k2) 0 m] [some ⟨1, [.slice true (.ro k2) 0 m]⟩, some ⟨1, [.int .i64 lw]⟩, some ⟨1, [.bool false]⟩, some ⟨1, [.slice true (.ro gw) 0 wn]⟩]) (.one (.func 37 [.ptr (.rw 5) (.lit 0), .ptr (.rw 4) (.lit 0)]) [.new ⟨1, .of [.slice true (.ro (.var 20 (clK k n e))) (.lit 0) (.var 2 n)]⟩, .new ⟨1, .of [.slice true (.ro (.var 9 g)) (.lit 0) (.var 4 m)]⟩])) := sAt_ok rfl ((p25_call G B k n k2 m e g hE hg hp hm hn hc _).monoK fun v H' ⟨q1, q2⟩ => ⟨q1, q2⟩)
    have dg : DGood (⟨Try.prog, G, B⟩ : Ctx) (Dc Try.prog [] [(8, knownS), (25, sAt 0x772 (isSt [.slice true (.ro k) 0 n, .slice true (.ro k2) 0 m] [some ⟨1, [.slice true (.ro k2) 0 m]⟩, some ⟨1, [.int .i64 lw]⟩, some ⟨1, [.bool false]⟩, some ⟨1, [.slice true (.ro gw) 0 wn]⟩]) (.one (.func 37 [.ptr (.rw 5) (.lit 0), .ptr (.rw 4) (.lit 0)]) [.new ⟨1, .of [.slice true (.ro (.var 20 (clK k n e))) (.lit 0) (.var 2 n)]⟩, .new ⟨1, .of [.slice true (.ro (.var 9 g)) (.lit 0) (.var 4 m)]⟩]))] [DLat 0x770 (isSt [.slice true (.ro k) 0 n, .ptr (.rw 0) 0, .ptr (.rw 1) 0, .ptr (.rw 2) 0, .ptr (.rw 3) 0, .int .i64 0] [some ⟨1, [.slice true (.ro k2) 0 m]⟩, some ⟨1, [.int .i64 lw]⟩, some ⟨1, [.bool false]⟩, some ⟨1, [.nils]⟩]) 0 115 [0, 4, 5, 6, 7, 8] (.one (.exit 0) [.slice true (.ro (.var 1 k)) (.lit 0) (.var 2 n), .ptr (.rw 0) (.lit 0), .ptr (.rw 1) (.lit 0), .ptr (.rw 2) (.lit 0), .ptr (.rw 3) (.lit 0), .undef] [some ⟨1, .of [.slice true (.ro (.var 3 k2)) (.lit 0) (.var 4 m)]⟩, some ⟨1, .of [.int .i64 (.var 11 lw)]⟩, some ⟨1, .of [.bool (.lit false)]⟩, some ⟨1, .of [.slice true (.ro (.var 10 gw)) (.lit 0) (.var 12 wn)]⟩]), DLat 0x771 (isSt [.ptr (.rw 0) 0, .ptr (.rw 1) 0, .ptr (.rw 2) 0, .ptr (.rw 3) 0, .func 37 [.ptr (.rw 5) 0, .ptr (.rw 4) 0], .ptr (.rw 6) 0] (vHp G (HTd (.var 3 k2) (.var 4 m) (.var 10 gw) (.var 12 wn) (.var 20 (clK k n e)) (.var 2 n) (.var 9 g) (.var 11 lw) (.var 13 0)))) 2 115 [4, 5, 6, 7, 9, 10] (.one (.exit 2) [.undef, .undef, .ptr (.rw 2) (.lit 0), .undef, .undef, .undef] (HTd (.var 3 k2) (.var 4 m) (.var 10 gw) (.var 12 wn) (.var 20 (clK k n e)) (.var 2 n) (.var 9 g) (.var 11 lw) (.lit 2)))] 0) (loopsOf (bodyOf Try.f7)) := by
      rw [loops7]
      exact dgood (mixF G B) (by kernel_rfl) (.cons (knownS_ok G B) (.cons sp .nil)) (.cons (i := 0) (by kernel_rfl) rfl l0 (.cons (i := 2) (by kernel_rfl) rfl lt (.skip (by kernel_rfl) .nil)))
    refine dlaw_ok (C := (⟨Try.prog, G, B⟩ : Ctx)) (fuel := 400) (n0 := 20) (f := 7) (fn := Try.f7) (args := [.slice true (.ro (.var 1 k)) (.lit 0) (.var 2 n), .slice true (.ro (.var 3 k2)) (.lit 0) (.var 4 m), .int .i64 (.var 11 lw)]) (H := []) (R := fun v _ => v = .bool true) dg (by kernel_rfl) (by kernel_rfl) (by kernel_rfl) ?_
    have := fp_run G (isSt [.slice true (.ro k) 0 n, .ptr (.rw 0) 0, .ptr (.rw 1) 0, .ptr (.rw 2) 0, .ptr (.rw 3) 0, .int .i64 0] [some ⟨1, [.slice true (.ro k2) 0 m]⟩, some ⟨1, [.int .i64 lw]⟩, some ⟨1, [.bool false]⟩, some ⟨1, [.nils]⟩]) (isSt [.slice true (.ro k) 0 n, .slice true (.ro k2) 0 m] [some ⟨1, [.slice true (.ro k2) 0 m]⟩, some ⟨1, [.int .i64 lw]⟩, some ⟨1, [.bool false]⟩, some ⟨1, [.slice true (.ro gw) 0 wn]⟩]) (isSt [.ptr (.rw 0) 0, .ptr (.rw 1) 0, .ptr (.rw 2) 0, .ptr (.rw 3) 0, .func 37 [.ptr (.rw 5) 0, .ptr (.rw 4) 0], .ptr (.rw 6) 0] (vHp G (HTd (.var 3 k2) (.var 4 m) (.var 10 gw) (.var 12 wn) (.var 20 (clK k n e)) (.var 2 n) (.var 9 g) (.var 11 lw) (.var 13 0)))) k n k2 m gw wn g (clK k n e) lw (fun _ _ _ => False) (fun v _ => v = .bool true)
    refine Eq.mpr this ⟨fun _ => rfl, fun _ => ⟨fun _ => rfl, fun _ => ⟨isSt_refl, isSt_refl, isSt_refl, rfl⟩⟩⟩
  · have dg : DGood (⟨Try.prog, G, B⟩ : Ctx) (Dc Try.prog [] [(8, knownS), (25, sAt 0x772 (fun _ => false) (.one (.func 37 [.ptr (.rw 5) (.lit 0), .ptr (.rw 4) (.lit 0)]) [.new ⟨1, .of [.slice true (.ro (.var 20 k)) (.lit 0) (.var 2 n)]⟩, .new ⟨1, .of [.slice true (.ro (.var 9 g)) (.lit 0) (.var 4 m)]⟩]))] [DLat 0x770 (fun _ => false) 0 115 [0, 4, 5, 6, 7, 8] (.one (.exit 0) [.slice true (.ro (.var 1 k)) (.lit 0) (.var 2 n), .ptr (.rw 0) (.lit 0), .ptr (.rw 1) (.lit 0), .ptr (.rw 2) (.lit 0), .ptr (.rw 3) (.lit 0), .undef] [some ⟨1, .of [.slice true (.ro (.var 3 k2)) (.lit 0) (.var 4 m)]⟩, some ⟨1, .of [.int .i64 (.var 11 lw)]⟩, some ⟨1, .of [.bool (.lit false)]⟩, some ⟨1, .of [.slice true (.ro (.var 10 gw)) (.lit 0) (.var 12 wn)]⟩]), DLat 0x771 (fun _ => false) 2 115 [4, 5, 6, 7, 9, 10] (.one (.exit 2) [.undef, .undef, .ptr (.rw 2) (.lit 0), .undef, .undef, .undef] (HTd (.var 3 k2) (.var 4 m) (.var 10 gw) (.var 12 wn) (.var 20 k) (.var 2 n) (.var 9 g) (.var 11 lw) (.lit 2)))] 0) (loopsOf (bodyOf Try.f7)) := by
      rw [loops7]
      exact dgood (mixF G B) (by kernel_rfl) (.cons (knownS_ok G B) (.cons sAt_no .nil)) (.cons (i := 0) (by kernel_rfl) rfl DLat_no (.cons (i := 2) (by kernel_rfl) rfl DLat_no (.skip (by kernel_rfl) .nil)))
    refine dlaw_ok (C := (⟨Try.prog, G, B⟩ : Ctx)) (fuel := 400) (n0 := 20) (f := 7) (fn := Try.f7) (args := [.slice true (.ro (.var 1 k)) (.lit 0) (.var 2 n), .slice true (.ro (.var 3 k2)) (.lit 0) (.var 4 m), .int .i64 (.var 11 lw)]) (H := []) (R := fun v _ => v = .bool true) dg (by kernel_rfl) (by kernel_rfl) (by kernel_rfl) ?_
    have := fp_run G (fun _ => false) (fun _ => false) (fun _ => false) k n k2 m gw wn g k lw (fun _ _ _ => False) (fun v _ => v = .bool true)
    refine Eq.mpr this ⟨fun _ => rfl, fun h1 => ⟨fun _ => rfl, fun h2 => ?_⟩⟩
    have h1 := of_decide_eq_false h1
    have h2 := of_decide_eq_false h2
    exact absurd ⟨by omega, by omega⟩ hn
end Go.Am
