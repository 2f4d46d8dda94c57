/-
  The document's sets: Take and Child.
-/
import Derived.Test.YtopenjkaifbnmaaSgR
namespace Go.Am
open Go.Proofs Crc
set_option maxRecDepth 100000
theorem tkP_hd (p : Sg) : (tkP p).hd = p.hd := by unfold tkP; split <;> rfl
def zT : List AV := [.int .i64 0, .bool false, .int .u32 0]
def tT (p : Sg) : List AV := [.int .i64 (tkSig p), .bool (tkEnds p), .int .u32 (tkAt p)]
theorem rt_loop (G : Nat → List AV) (B : Nat) (p : Sg) : AWp (⟨Try.prog, G, B⟩ : Ctx) 1 (.loop (loopN Try.f37 0)) (fl 56 [0, 2, 3, 4] [.ptr (.rw 0) 0, .ptr (.rw 1) 0, .bool false, .int .i64 1]) [some ⟨1, encR p⟩, some ⟨1, zT⟩]
    (lv 56 [0, 2, 3, 4] fun e vs H => (tkN p = 0 ∧ e = .exit 0 ∧ wk [.ptr (.rw 0) 0, .ptr (.rw 1) 0, .bool false, .undef] vs ∧ H = [some ⟨1, encR p⟩, some ⟨1, zT⟩]) ∨
      (tkN p ≠ 0 ∧ e = .ret ∧ wk [.ptr (.rw 0) 0, .ptr (.rw 1) 0, .bool (tkOk p), .undef] vs ∧ H = [some ⟨1, encR (tkP p)⟩, some ⟨1, tT p⟩])) := by
  let x : W := p.wt &&& ~~~ p.hd
  refine aloop_lv (fun j vs H => ∃ i : Nat, 1 ≤ i ∧ i ≤ 16 ∧ j = 16 - i ∧ lowFrom x (16 - i) i = tkN p ∧ vs = [.ptr (.rw 0) 0, .ptr (.rw 1) 0, .bool false, .int .i64 (i : Int)] ∧ H = [some ⟨1, encR p⟩, some ⟨1, zT⟩]) 15
    ⟨1, by omega, by omega, rfl, rfl, rfl, rfl⟩ ?_
  rintro j vs H ⟨i, hi1, hi2, rfl, hlow, rfl, rfl⟩
  refine dloop_ok (C := (⟨Try.prog, G, B⟩ : Ctx)) (dg0 G B) (fuel := 200) (n0 := 10) (m := 1) (c := loopN Try.f37 0) (vs := [.ptr (.rw 0) (.lit 0), .ptr (.rw 1) (.lit 0), .bool (.lit false), .int .i64 (.var 2 (i : Int))]) (H := [some ⟨1, .var 1 (encR p)⟩, some ⟨1, .of [.int .i64 (.lit 0), .bool (.lit false), .int .u32 (.lit 0)]⟩]) (by simp) ?_
  rw [b37]
  refine ⟨fun h => ?_, fun h => ?_⟩
  · have h := of_decide_eq_true h
    have a1 : decide ((0 : Int) ≤ (i : Int)) = true := decide_eq_true (by omega)
    have a2 : decide ((i : Int) < 16) = true := decide_eq_true (by omega)
    have hx : x.getLsbD i = (p.wt.getLsbD i && !p.hd.getLsbD i) := by
      show (p.wt &&& ~~~ p.hd).getLsbD i = _
      rw [BitVec.getLsbD_and, BitVec.getLsbD_not, decide_eq_true (show i < 32 by omega), Bool.true_and]
    have hstep : 16 - i = (15 - i) + 1 := by omega
    rw [hstep, lowFrom_succ, hx] at hlow
    have hnext : (p.wt.getLsbD i && !p.hd.getLsbD i) = false → lowFrom x (16 - (i + 1)) (i + 1) = tkN p := fun hb => by
      rw [hb, if_neg (by simp)] at hlow
      rw [show 16 - (i + 1) = 15 - i by omega]; exact hlow
    have e1 : IntKind.wrap .i64 ((i : Int) + 1) = ((i + 1 : Nat) : Int) := by rw [i64_in (by omega)]; rfl
    rw [Int.toNat_natCast, r_getW p (by omega), r_getH p (by omega), e1]
    refine ⟨a1, a2, r_isW p (by omega), fun hw => ⟨a1, a2, r_isH p (by omega), fun hh => ?_, fun hh => ?_⟩, fun hw => ?_⟩
    · exact ⟨16 - (i + 1), by omega, .inl ⟨i + 1, by omega, by omega, rfl, hnext (by rw [hw, hh]; rfl), rfl, rfl⟩⟩
    · rw [hw, hh, if_pos (by simp)] at hlow
      have hn : tkN p = i := hlow.symm
      have hs : setPart (encR p) i (.bool false) = encR (tkP p) := r_take p i hn (by omega) (by omega)
      rw [hs, r_getA _ (by omega), tkP_at]
      have a3 := r_isA (tkP p) (show i < 16 by omega)
      have hb : Nat.beq (tkN p) 0 = false := by
        rw [hn]; cases i with
        | zero => omega
        | succ n => rfl
      refine ⟨a1, a2, leB_encR p _ (by omega), a1, a2, a3, fun h1 => ?_, fun h1 => ⟨a1, a2, a3, a1, a2, a3, ?_⟩⟩
      · have h1 : p.at_ i = 1#32 := by
          have := congrArg w32 (eq_of_beq h1)
          rw [w32_u] at this
          exact this
        have hok : tkOk p = false := by simp [tkOk, hn, h1]
        refine .inr ⟨by omega, rfl, by rw [hok]; simp [wk], ?_⟩
        simp only [tT, tkSig, tkEnds, tkAt, hok, Bool.false_and, Bool.false_eq_true, if_false]
      · have h1 : (p.at_ i == 1#32) = false := by
          rw [beq_eq_false_iff_ne]
          intro h
          rw [h] at h1
          cases h1
        have hok : tkOk p = true := by
          rw [hn] at hb
          simp only [tkOk, hn, h1, hb]; rfl
        have he : (u (p.at_ i) == 0) = (p.at_ i == 0#32) := u_beq (p.at_ i) 0#32
        refine .inr ⟨by omega, rfl, by rw [hok]; simp [wk], ?_⟩
        simp only [tT, tkSig, tkEnds, tkAt, hok, Bool.true_and, if_true, hn, he]
    · exact ⟨16 - (i + 1), by omega, .inl ⟨i + 1, by omega, by omega, rfl, hnext (by rw [hw]; rfl), rfl, rfl⟩⟩
  · have h := of_decide_eq_false h
    have : i = 16 := by omega
    subst this
    refine .inl ⟨?_, rfl, by simp [wk], rfl⟩
    rw [← hlow]; rfl
def rtL : DL := ⟨0, 56, [0, 2, 3, 4], fun vs H => match vs, H with
  | [.ptr (.rw 0) (.lit 0), .ptr (.rw 1) (.lit 0), .bool (.lit false), .int .i64 (.lit 1)], [some ⟨1, l⟩, some ⟨1, .of [.int .i64 (.lit 0), .bool (.lit false), .int .u32 (.lit 0)]⟩] => match sideR.get l with
    | some (b, d) => some (.chk b (.tst (.cmp .eql (.uf 1030 tkNU [.agg d]) (.lit 0))
        (.one (.exit 0) [.ptr (.rw 0) (.lit 0), .ptr (.rw 1) (.lit 0), .bool (.lit false), .undef] [some ⟨1, l⟩, some ⟨1, .of [.int .i64 (.lit 0), .bool (.lit false), .int .u32 (.lit 0)]⟩])
        (.one .ret [.ptr (.rw 0) (.lit 0), .ptr (.rw 1) (.lit 0), .bool (.uf 1019 tkOkU [.agg d]), .undef] [some ⟨1, sideR.put (.uf 1015 tkU [.agg d])⟩, some ⟨1, .of [.int .i64 (.uf 1016 tkSigU [.agg d]), .bool (.uf 1017 tkEndsU [.agg d]), .int .u32 (.uf 1018 tkAtU [.agg d])]⟩])))
    | none => none
  | _, _ => none⟩
theorem rtL_ok (G : Nat → List AV) (B : Nat) : DLoopOk (⟨Try.prog, G, B⟩ : Ctx) 1 (loopN Try.f37 0) rtL := by
  refine .of fun vs H o ho n Q hQ => ?_
  simp only [rtL] at ho
  split at ho
  · rename_i l
    split at ho
    · rename_i b d hg
      simp only [Option.some.injEq] at ho
      subst ho
      obtain ⟨h1, h2, h3⟩ := hQ
      obtain ⟨p, e1, e2⟩ := (sideR_ok G).get l b d hg h1
      have hd : vB G (.cmp .eql (.uf 1030 tkNU [.agg d]) (.lit 0)) = ((tkN p : Int) == 0) := by
        simp only [vB, vI, cmpI, vVs, vV, e1, tkNU_enc]
      rw [hd] at h2 h3
      simp only [rtL, vVs, vV, vR, vN, vI, vB, vL, vHp, List.map_cons, List.map_nil, Option.map_some, vBlk]
      rw [e2]
      have key := rt_loop G B p
      refine key.lmono ?_
      rintro e vs'' H'' (⟨g0, rfl, g2, rfl⟩ | ⟨g0, rfl, g2, rfl⟩)
      · refine .inl ⟨_, g2, ?_⟩
        have := h2 (by rw [g0]; rfl)
        simp only [lHolds, vVs, vV, vR, vN, vI, vB, vL, vHp, List.map_cons, List.map_nil, Option.map_some, vBlk, e2] at this
        exact this
      · refine .inl ⟨_, g2, ?_⟩
        have := h3 (by rw [beq_eq_false_iff_ne]; omega)
        simp only [lHolds, vVs, vV, vR, vN, vI, vB, vL, vHp, List.map_cons, List.map_nil, Option.map_some, vBlk, e1, tkOkU_enc, tkSigU_enc, tkEndsU_enc, tkAtU_enc] at this
        rw [(sideR_ok G).put _ (tkP p) (by simp only [vL, vVs, vV, e1, tkU_enc])] at this
        exact this
    · simp at ho
  · simp at ho
theorem dgRT (G : Nat → List AV) (B : Nat) : DGood (⟨Try.prog, G, B⟩ : Ctx) (Dc Try.prog [] [] [rtL] 1) (loopsOf (bodyOf Try.f37)) := dgood (mix G B) (by kernel_rfl) .nil (.cast (.cons (i := 0) (by kernel_rfl) rfl (rtL_ok G B) .nil) (by kernel_rfl))
theorem t37 (G : Nat → List AV) (cs : List AV) (Q : Ex → List AV → Hp → Prop) (R : AV → Hp → Prop) : vT G Q R (dcall (Dc Try.prog [] [] [rtL] 1) 200 10 Try.f37 [.ptr (.rw 0) (.lit 0)] [some ⟨1, .uf 1002 encRU [.agg (.var 1 cs)]⟩] 1) = (
    okRU [.agg (encRU [.agg cs]), .agg cs] = true ∧
    (((tkNU [.agg cs] : Int) == 0) = true →
      R (.tup [.agg ([.int .i64 (0), .bool (false), .int .u32 (0)] : List AV), .bool (false)]) [some ⟨1, (encRU [.agg cs])⟩]) ∧
    (((tkNU [.agg cs] : Int) == 0) = false →
      R (.tup [.agg ([.int .i64 (tkSigU [.agg cs]), .bool (tkEndsU [.agg cs]), .int .u32 (tkAtU [.agg cs])] : List AV), .bool (tkOkU [.agg cs])]) [some ⟨1, (encRU [.agg (tkU [.agg cs])])⟩])) := by kernel_rfl
theorem r_take' (G : Nat → List AV) (B : Nat) : TakeOk (⟨Try.prog, G, B⟩ : Ctx) 37 encR := by
  intro p
  refine Meth.ofR (C := (⟨Try.prog, G, B⟩ : Ctx)) (rest := []) (dgRT G B) (by kernel_rfl) (by kernel_rfl) (by kernel_rfl) (fuel := 200) (n0 := 10) (fn := Try.f37) ?_
  rw [t37, encRU_enc, tkNU_enc, tkOkU_enc, tkSigU_enc, tkEndsU_enc, tkAtU_enc, tkU_enc, encRU_enc]
  refine ⟨okRU_enc p, fun h => ?_, fun h => ⟨rfl, rfl⟩⟩
  have h0 : tkN p = 0 := by have := eq_of_beq h; omega
  refine ⟨by simp [takenV, tkSig, tkEnds, tkAt, tkOk, h0], by simp [tkP, h0]⟩

/-! Child -/
theorem subH (f g : Nat → Bool) (h : Nat → W) : subL (encF f g h) 16 16 = (List.range 16).map fun i => .bool (g i) := by
  unfold subL encF
  rw [List.drop_left' (by rw [mapR_len]), List.take_left' (by rw [mapR_len])]
theorem subA (f g : Nat → Bool) (h : Nat → W) : subL (encF f g h) 32 16 = (List.range 16).map fun i => .int .u32 (u (h i)) := by
  unfold subL encF
  rw [← List.append_assoc, List.drop_left' (by simp), List.take_of_length_le (by simp)]
theorem setH' (f g g' : Nat → Bool) (h : Nat → W) : setPart (encF f g h) 16 (.agg ((List.range 16).map fun i => .bool (g' i))) = encF f g' h := by
  have e1 : (encF f g h).take 16 = (List.range 16).map fun i => AV.bool (f i) := by unfold encF; rw [List.take_left' (by rw [mapR_len])]
  have e2 : (encF f g h).drop 32 = (List.range 16).map fun i => AV.int .u32 (u (h i)) := by unfold encF; rw [← List.append_assoc, List.drop_left' (by simp)]
  simp only [setPart, spl, mapR_len, e1]
  rw [e2]; rfl
theorem setA' (f g : Nat → Bool) (h h' : Nat → W) : setPart (encF f g h) 32 (.agg ((List.range 16).map fun i => .int .u32 (u (h' i)))) = encF f g h' := by
  have e1 : (encF f g h).take 32 = ((List.range 16).map fun i => AV.bool (f i)) ++ ((List.range 16).map fun i => AV.bool (g i)) := by unfold encF; rw [← List.append_assoc, List.take_left' (by simp)]
  have e2 : (encF f g h).drop 48 = [] := List.drop_of_length_le (by rw [encF_length]; omega)
  simp only [setPart, spl, mapR_len, e1]
  rw [e2, List.append_nil, List.append_assoc]; rfl
theorem r_child' (G : Nat → List AV) (B : Nat) : NewOk (⟨Try.prog, G, B⟩ : Ctx) 39 encR (fun _ => .ptr (.rw 1) 0) (fun p => encR (setW p 0#32)) := by
  intro p
  refine New.ofR (C := (⟨Try.prog, G, B⟩ : Ctx)) (dg0 G B) (by kernel_rfl) (by kernel_rfl) (by kernel_rfl) (encR_flat _ _) (by simp [bnd]) (by simp) (fuel := 200) (n0 := 10) (fn := Try.f39) ?_
  rw [t39, encRU_enc]
  have z : ∀ l : List AV, l = encF (fun _ => false) (fun _ => false) (fun _ => 0#32) → setPart (setPart l 16 (.agg (subL (encR p) 16 16))) 32 (.agg (subL (encR p) 32 16)) = encR (setW p 0#32) := by
    rintro l rfl
    rw [encR_F, subH, setH', subA, setA', encR_F]
    refine encF_congr (fun j hj => ?_) (fun _ _ => rfl) (fun _ _ => rfl)
    show false = (0#32 &&& 65534#32).getLsbD j
    simp
  refine ⟨leB_encR p _ (by omega), leB_encR p _ (by omega), ?_, ?_, ?_, rfl, ?_⟩
  · rw [encR_F, subH, mapR_len]; rfl
  · rw [encR_F, subA, mapR_len]; rfl
  · refine leB_iff.2 ?_
    rw [encR_F, subH]
    simp [setPart, spl]
  · exact congrArg (fun l => [some (⟨1, encR p⟩ : Blk), some ⟨1, l⟩]) (z _ rfl)
end Go.Am
