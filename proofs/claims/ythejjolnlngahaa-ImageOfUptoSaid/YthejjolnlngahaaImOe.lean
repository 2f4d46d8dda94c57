/-
  ImageOf: the law, joined.
-/
import Derived.Test.YthejjolnlngahaaImOd
namespace Go.Am
open Go.Proofs
set_option maxRecDepth 100000
section
variable {G : Nat → List AV} {B kc n kq m k c kp d h e hp f : Nat} {x y : Int} (I : OfIn G kc n kq m k c kp d h e hp f)
include I
theorem rest_n (hm : may1U [.int .i64 0, .int .i64 0, .int .i64 7, .int .i64 (n : Int), .int .i64 x, .agg (G kq), .int .i64 (m : Int)] = false) :
    AWp (⟨Try.prog, G, B⟩ : Ctx) 0 (sq5 (bodyOf Try.f4)) (fl 133 [0, 1, 5, 6, 7, 8, 9, 10] [.slice true (.ro kc) 0 n, .slice true (.ro kq) 0 m, .ptr (.rw 0) 0, .bool false, .slice false (.rw 1) 0 (n + 1), .slice false (.rw 2) 0 (m + 1), .ptr (.rw 3) 0, .int .i64 2]) [some ⟨1, [.int .i64 x, .slice true (.ro k) 0 c, .slice true (.ro kp) 0 d, .int .i64 y, .slice true (.ro h) 0 e, .slice true (.ro hp) 0 f]⟩, some ⟨1, owL G kc⟩, some ⟨2, spL G kq⟩, some ⟨1, [.int .i64 0, .nils, .nils]⟩] (lv 133 [0, 1, 5, 6, 7, 8, 9, 10] (fun e vs _ => e = .ret ∧ vs[3]? = some (.bool true))) := by
  have hn := I.hn
  have hmm := I.hm
  have dl := I.dl
  have ql := I.ql
  have gc := I.gc
  have gq := I.gq
  obtain ⟨r1, r2, r3, r4⟩ := I.rcs
  have e1 : subL (G kc) 0 n = G kc := subL_all I.dl
  have e2 : subL (G kq) 0 (m * 2) = G kq := subL_all I.ql
  have e3 : subL (owL G kc) 0 (n + 1) = owL G kc := subL_all I.owl
  obtain ⟨v1, v2⟩ := I.get77
  refine dloop_ok (C := (⟨Try.prog, G, B⟩ : Ctx)) (dgY (ls := [(DLat 1771 (znQ G kc n kq m k c kp d h e hp f x y (owL G kc) (spL G kq)) 0 133 [5, 6, 7, 8, 9, 10, 11, 12, 13] (znO G kc n kq m k c kp d h e hp f x y (spL G kq))), (DLat 1773 (wnQ G kc n kq m k c kp d h e hp f x y (spL G kq)) 2 133 [5, 6, 8, 9, 10, 11, 12, 14] (wnO G kc n kq m k c kp d h e hp f x y))]) G B (.cast (.cons (i := 0) (by kernel_rfl) rfl (znL_ok G B kc n kq m k c kp d h e hp f x y (owL G kc) (spL G kq) gc gq) (.cons (i := 2) (by kernel_rfl) rfl (wnL_ok G B kc n kq m k c kp d h e hp f x y (spL G kq) gc gq) .nil)) (by kernel_rfl)) (by kernel_rfl)) (fuel := 600) (n0 := 20) (m := 0)
    (vs := [.slice true (.ro (.var 1 kc)) (.lit 0) (.var 2 n), .slice true (.ro (.var 3 kq)) (.lit 0) (.var 4 m), .ptr (.rw 0) (.lit 0), .bool (.lit false), .slice false (.rw 1) (.lit 0) (.add (.var 2 n) (.lit 1)), .slice false (.rw 2) (.lit 0) (.add (.var 4 m) (.lit 1)), .ptr (.rw 3) (.lit 0), .int .i64 (.lit 2)]) (H := [some ⟨1, .of [.int .i64 (.var 5 x), .slice true (.ro (.var 6 k)) (.lit 0) (.var 7 c), .slice true (.ro (.var 8 kp)) (.lit 0) (.var 9 d), .int .i64 (.var 10 y), .slice true (.ro (.var 11 h)) (.lit 0) (.var 12 e), .slice true (.ro (.var 13 hp)) (.lit 0) (.var 14 f)]⟩, some ⟨1, .var 20 (owL G kc)⟩, some ⟨2, .var 21 (spL G kq)⟩, some ⟨1, .of [.int .i64 (.lit 0), .nils, .nils]⟩]) (Nat.zero_le _) ?_
  rw [rn G kc n kq m k c kp d h e hp f x y (owL G kc) (spL G kq)]
  have z1 : (znQ G kc n kq m k c kp d h e hp f x y (owL G kc) (spL G kq)) [.agg [.ptr (.rw 0) 0, .bool false, .slice false (.rw 1) 0 (n + 1), .slice false (.rw 2) 0 (m + 1), .ptr (.rw 3) 0, .int .i64 2, .ptr (.rw 9) 0, .int .i64 2, .int .i64 0], .agg (encHB [some ⟨1, [.int .i64 x, .slice true (.ro k) 0 c, .slice true (.ro kp) 0 d, .int .i64 y, .slice true (.ro h) 0 e, .slice true (.ro hp) 0 f]⟩, some ⟨1, owL G kc⟩, some ⟨2, spL G kq⟩, some ⟨1, [.int .i64 0, .nils, .nils]⟩, some ⟨1, [.int .i64 0, .nils, .nils]⟩, some ⟨1, subL (G kc) 0 n⟩, some ⟨4, [.int .i64 0, .int .i64 7, .slice true (.rw 5) 0 n, .int .i64 x]⟩, some ⟨2, subL (G kq) 0 (m * 2)⟩, some ⟨1, [.int .i64 0, .slice false (.rw 6) 0 1, .slice true (.rw 7) 0 m]⟩, some ⟨1, [.int .i64 0, .nils, .nils]⟩])] = true := by
    refine stQ_refl ?_ rfl ?_
    · rw [show Nat.beq (owL G kc).length (n + 1) = true by rw [I.owl]; exact Nat.beq_refl _, Nat.ble_eq_true_of_le hn, plain_bnds I.owp, plain_bnds I.spp, r3, r4]; rfl
    · rw [e1, e2]
      simp only [encHB, List.map_cons, List.map_nil, noRcds, noRcd, r1, r2, r3, r4, Bool.and_self]
  have z2 : (wnQ G kc n kq m k c kp d h e hp f x y (spL G kq)) [.agg [.ptr (.rw 0) 0, .bool false, .slice false (.rw 2) 0 (m + 1), .ptr (.rw 3) 0, .int .i64 2, .ptr (.rw 9) 0, .int .i64 2, .int .i64 0], .agg (encHB [some ⟨1, [.int .i64 x, .slice true (.ro k) 0 c, .slice true (.ro kp) 0 d, .int .i64 y, .slice true (.ro h) 0 e, .slice true (.ro hp) 0 f]⟩, none, some ⟨2, spL G kq⟩, some ⟨1, [.int .i64 0, .nils, .nils]⟩, some ⟨1, [.int .i64 0, .nils, .nils]⟩, some ⟨1, subL (G kc) 0 n⟩, some ⟨4, [.int .i64 0, .int .i64 7, .slice true (.rw 5) 0 n, .int .i64 x]⟩, some ⟨2, subL (G kq) 0 (m * 2)⟩, some ⟨1, [.int .i64 0, .slice false (.rw 6) 0 1, .slice true (.rw 7) 0 m]⟩, some ⟨1, [.int .i64 0, .nils, .nils]⟩])] = true := by
    refine stQ_refl ?_ rfl ?_
    · rw [show Nat.beq (spL G kq).length ((m + 1) * 2) = true by rw [I.spl]; exact Nat.beq_refl _, Nat.ble_eq_true_of_le hmm, plain_bnds I.spp, r4]; rfl
    · rw [e1, e2]
      simp only [encHB, List.map_cons, List.map_nil, noRcds, noRcd, r1, r2, r3, r4, Bool.and_self]
  rw [e1, e2] at z1 z2 ⊢
  rw [e3]
  refine ⟨leB_iff.2 (by omega), plain_cells I.pl, leB_iff.2 (by omega), leB_iff.2 (by omega), plain_cells I.qp, leB_iff.2 (by omega), I.pl1, fun q => absurd q (by rw [hm]; simp), fun _ => ⟨leB_iff.2 (by rw [I.owl]; omega), by unfold owL; exact u8s_app I.du rfl, leB_iff.2 (by omega), I.du, leB_iff.2 (by unfold strL; rw [List.length_map]; omega), fun _ => ⟨decide_eq_true (by omega), decide_eq_true (by omega), v1, fun _ => ⟨z1, z2, rfl, I.sOk, I.sOk, fun q => ⟨q, I.sOk1, fun _ => ⟨rfl, rfl⟩, fun q => by rw [sU1] at q; cases q⟩, fun q => ⟨by rw [q]; rfl, I.sOk1, fun _ => ⟨rfl, rfl⟩, fun q => by rw [sU1] at q; cases q⟩⟩, fun q => by rw [v2] at q; cases q⟩, fun q => ?_⟩⟩
  unfold owL at q
  rw [strL_app, beq_eq_false_iff_ne] at q
  exact absurd rfl q
omit I in
theorem of_body : bodyOf Try.f4 = .seq (sq1 (bodyOf Try.f4)) (.seq (sq1 (sq2 (bodyOf Try.f4))) (.seq (sq1 (sq2 (sq2 (bodyOf Try.f4)))) (.seq (sq1 (sq2 (sq2 (sq2 (bodyOf Try.f4))))) (.seq (.region 5 (r5 (bodyOf Try.f4)) true) (sq5 (bodyOf Try.f4)))))) := by kernel_rfl
theorem OfIn.flats : bnds 0 (owL G kc) = true ∧ bnds 0 (spL G kq) = true ∧ bnds 0 (G kq) = true ∧ bnds 0 (G kc) = true := ⟨plain_bnds I.owp, plain_bnds I.spp, plain_bnds I.qp, plain_bnds I.pl⟩
theorem OfIn.cl : cpC m n (spL G kq) (owL G kc) = true := by
  have hn := I.hn
  have hmm := I.hm
  have e1 := I.owl
  have e2 := I.spl
  refine cpC_iff.2 ⟨⟨clOk_iff.2 ⟨⟨leB_iff.2 (by omega), ?_⟩, by omega, plain_bnds I.spp⟩, clOk_iff.2 ⟨⟨leB_iff.2 (by omega), ?_⟩, by omega, plain_bnds I.owp⟩⟩, plain_rcds I.spp, plain_rcds I.owp⟩
  · unfold spL; rw [subL_app I.ql]; exact plain_cells I.qp
  · unfold owL; rw [Nat.mul_one, subL_app I.dl]; exact plain_cells I.pl
theorem of_r5 : AWp (⟨Try.prog, G, B⟩ : Ctx) 0 (.seq (.region 5 (r5 (bodyOf Try.f4)) true) (sq5 (bodyOf Try.f4))) (fl 133 [0, 1, 5, 6, 7, 8] [.slice true (.ro kc) 0 n, .slice true (.ro kq) 0 m, .ptr (.rw 0) 0, .bool false, .slice false (.rw 1) 0 (n + 1), .slice false (.rw 2) 0 (m + 1)]) [some ⟨1, [.int .i64 x, .slice true (.ro k) 0 c, .slice true (.ro kp) 0 d, .int .i64 y, .slice true (.ro h) 0 e, .slice true (.ro hp) 0 f]⟩, some ⟨1, owL G kc⟩, some ⟨2, spL G kq⟩] (lv 133 [0, 1, 5, 6, 7, 8, 9, 10] (fun e vs _ => e = .ret ∧ vs[3]? = some (.bool true))) := by
  obtain ⟨f1, f2, f3, f4⟩ := I.flats
  have e1 : subL (owL G kc) 0 n = G kc := by unfold owL; exact subL_app I.dl
  have e2 : subL (spL G kq) 0 (m * 2) = G kq := by unfold spL; exact subL_app I.ql
  have cp : cpU [.agg (spL G kq), .int .i64 (m : Int), .agg (owL G kc), .int .i64 (n : Int)] = true := by rw [cpU_eq]; exact I.cl
  refine AWp.seq (Nat.zero_le _) ?_
  show AWp (⟨Try.prog, G, B⟩ : Ctx) 0 (.region 5 (r5 (bodyOf Try.f4)) true) (fl 133 [0, 1, 5, 6, 7, 8, 9, 10] [.slice true (.ro kc) 0 n, .slice true (.ro kq) 0 m, .ptr (.rw 0) 0, .bool false, .slice false (.rw 1) 0 (n + 1), .slice false (.rw 2) 0 (m + 1), .undef, .undef]) [some ⟨1, [.int .i64 x, .slice true (.ro k) 0 c, .slice true (.ro kp) 0 d, .int .i64 y, .slice true (.ro h) 0 e, .slice true (.ro hp) 0 f]⟩, some ⟨1, owL G kc⟩, some ⟨2, spL G kq⟩] _
  refine AWp.lvd (live := [0, 1, 5, 6, 7, 8, 9, 10]) (N := 133) (Q := fun ex vs H => ex = .normal ∧
      ((may1U [.int .i64 0, .int .i64 0, .int .i64 7, .int .i64 (n : Int), .int .i64 x, .agg (G kq), .int .i64 (m : Int)] = true ∧ vs = [.slice true (.ro kc) 0 n, .slice true (.ro kq) 0 m, .ptr (.rw 0) 0, .bool false, .slice false (.rw 1) 0 (n + 1), .slice false (.rw 2) 0 (m + 1), .ptr (.rw 6) 0, .int .i64 0] ∧ H = [some ⟨1, [.int .i64 x, .slice true (.ro k) 0 c, .slice true (.ro kp) 0 d, .int .i64 y, .slice true (.ro h) 0 e, .slice true (.ro hp) 0 f]⟩, some ⟨1, owL G kc⟩, some ⟨2, spL G kq⟩, some ⟨4, [.int .i64 0, .int .i64 7, .slice false (.rw 5) 0 n, .int .i64 x]⟩, some ⟨2, G kq⟩, some ⟨1, G kc⟩, some ⟨1, [.int .i64 0, .slice false (.rw 3) 0 1, .slice false (.rw 4) 0 m]⟩]) ∨
       (may1U [.int .i64 0, .int .i64 0, .int .i64 7, .int .i64 (n : Int), .int .i64 x, .agg (G kq), .int .i64 (m : Int)] = true ∧ vs = [.slice true (.ro kc) 0 n, .slice true (.ro kq) 0 m, .ptr (.rw 0) 0, .bool false, .slice false (.rw 1) 0 (n + 1), .slice false (.rw 2) 0 (m + 1), .ptr (.rw 3) 0, .int .i64 0] ∧ H = [some ⟨1, [.int .i64 x, .slice true (.ro k) 0 c, .slice true (.ro kp) 0 d, .int .i64 y, .slice true (.ro h) 0 e, .slice true (.ro hp) 0 f]⟩, some ⟨1, owL G kc⟩, some ⟨2, spL G kq⟩, some ⟨1, [.int .i64 0, .slice false (.rw 4) 0 1, .slice false (.rw 5) 0 m]⟩, some ⟨4, [.int .i64 0, .int .i64 7, .slice false (.rw 6) 0 n, .int .i64 x]⟩, some ⟨2, G kq⟩, some ⟨1, G kc⟩]) ∨
       (may1U [.int .i64 0, .int .i64 0, .int .i64 7, .int .i64 (n : Int), .int .i64 x, .agg (G kq), .int .i64 (m : Int)] = false ∧ vs = [.slice true (.ro kc) 0 n, .slice true (.ro kq) 0 m, .ptr (.rw 0) 0, .bool false, .slice false (.rw 1) 0 (n + 1), .slice false (.rw 2) 0 (m + 1), .ptr (.rw 3) 0, .int .i64 2] ∧ H = [some ⟨1, [.int .i64 x, .slice true (.ro k) 0 c, .slice true (.ro kp) 0 d, .int .i64 y, .slice true (.ro h) 0 e, .slice true (.ro hp) 0 f]⟩, some ⟨1, owL G kc⟩, some ⟨2, spL G kq⟩, some ⟨1, [.int .i64 0, .nils, .nils]⟩]))) ?_ ?_
  · refine dtwo3 (C := (⟨Try.prog, G, B⟩ : Ctx)) (K := Dc Try.prog [] [(17, ofS)] [] 0) (dgood (inl := []) (ls := []) (M := 0) (mixI G B) (by kernel_rfl) (.cons (ofS_ok G B) .nil) .nil) (fuel := 300) (n0 := 20) (m := 0) (i := 11) (j := 15) (vs := [.slice true (.ro (.var 1 kc)) (.lit 0) (.var 2 n), .slice true (.ro (.var 3 kq)) (.lit 0) (.var 4 m), .ptr (.rw 0) (.lit 0), .bool (.lit false), .slice false (.rw 1) (.lit 0) (.add (.var 2 n) (.lit 1)), .slice false (.rw 2) (.lit 0) (.add (.var 4 m) (.lit 1)), .undef, .undef]) (H := [some ⟨1, .of [.int .i64 (.var 5 x), .slice true (.ro (.var 6 k)) (.lit 0) (.var 7 c), .slice true (.ro (.var 8 kp)) (.lit 0) (.var 9 d), .int .i64 (.var 10 y), .slice true (.ro (.var 11 h)) (.lit 0) (.var 12 e), .slice true (.ro (.var 13 hp)) (.lit 0) (.var 14 f)]⟩, some ⟨1, .var 20 (owL G kc)⟩, some ⟨2, .var 21 (spL G kq)⟩]) (Nat.zero_le _) rfl (by kernel_rfl) (by kernel_rfl) ?_ ?_
    · rw [r5a G kc n kq m k c kp d h e hp f x y (owL G kc) (spL G kq), e1, e2]
      exact ⟨decide_eq_true (by omega), decide_eq_true (by omega), decide_eq_true (by omega), decide_eq_true (by omega), cp, I.pl1, fun q => ⟨rfl, .inl ⟨q, rfl, rfl⟩⟩, fun q => ⟨rfl, .inr (.inr ⟨q, rfl, rfl⟩)⟩⟩
    · rw [r5b G kc n kq m k c kp d h e hp f x y (owL G kc) (spL G kq), e1, e2]
      exact ⟨decide_eq_true (by omega), decide_eq_true (by omega), decide_eq_true (by omega), decide_eq_true (by omega), cp, I.pl1, fun q => ⟨rfl, .inr (.inl ⟨q, rfl, rfl⟩)⟩, fun q => ⟨rfl, .inr (.inr ⟨q, rfl, rfl⟩)⟩⟩
  · rintro ex vs H ⟨rfl, q⟩
    show AWp (⟨Try.prog, G, B⟩ : Ctx) 0 (sq5 (bodyOf Try.f4)) (fl 133 [0, 1, 5, 6, 7, 8, 9, 10] vs) H (lv 133 [0, 1, 5, 6, 7, 8, 9, 10] (fun e vs _ => e = .ret ∧ vs[3]? = some (.bool true)))
    rcases q with ⟨q, rfl, rfl⟩ | ⟨q, rfl, rfl⟩ | ⟨q, rfl, rfl⟩
    · exact rest_y I q
    · refine AWp.pre (rest_y (x := x) (y := y) I q) ?_
      refine View.frames (θ := [0, 1, 2, 4, 5, 6, 3]) (by simp) ⟨⟨by simp [bnds, bnd], by simp [rens, ren]⟩, ⟨bnds_mono (Nat.zero_le _) _ f1, by rw [rens_flat _ _ f1]; rfl⟩, ⟨bnds_mono (Nat.zero_le _) _ f2, by rw [rens_flat _ _ f2]; rfl⟩, ⟨by simp [bnds, bnd], by simp [rens, ren]⟩, ⟨bnds_mono (Nat.zero_le _) _ f3, by rw [rens_flat _ _ f3]; rfl⟩, ⟨bnds_mono (Nat.zero_le _) _ f4, by rw [rens_flat _ _ f4]; rfl⟩, ⟨by simp [bnds, bnd], by simp [rens, ren]⟩, trivial⟩ rfl rfl (by simp [bnds, bnd]) (by simp [rens, ren])
    · exact rest_n I q
theorem of_r4 : AWp (⟨Try.prog, G, B⟩ : Ctx) 0 (.seq (sq1 (sq2 (sq2 (sq2 (bodyOf Try.f4))))) (.seq (.region 5 (r5 (bodyOf Try.f4)) true) (sq5 (bodyOf Try.f4)))) (fl 133 [0, 1, 5, 6, 7] [.slice true (.ro kc) 0 n, .slice true (.ro kq) 0 m, .ptr (.rw 0) 0, .bool false, .slice false (.rw 1) 0 (n + 1)]) [some ⟨1, [.int .i64 x, .slice true (.ro k) 0 c, .slice true (.ro kp) 0 d, .int .i64 y, .slice true (.ro h) 0 e, .slice true (.ro hp) 0 f]⟩, some ⟨1, owL G kc⟩] (lv 133 [0, 1, 5, 6, 7, 8, 9, 10] (fun e vs _ => e = .ret ∧ vs[3]? = some (.bool true))) := by
  obtain ⟨f1, f2, f3, f4⟩ := I.flats
  have hmm := I.hm
  have ql := I.ql
  have e2 : subL (G kq) 0 (m * 2) = G kq := subL_all I.ql
  refine AWp.seq (Nat.zero_le _) ?_
  show AWp (⟨Try.prog, G, B⟩ : Ctx) 0 (sq1 (sq2 (sq2 (sq2 (bodyOf Try.f4))))) (fl 133 [0, 1, 5, 6, 7, 8] [.slice true (.ro kc) 0 n, .slice true (.ro kq) 0 m, .ptr (.rw 0) 0, .bool false, .slice false (.rw 1) 0 (n + 1), .undef]) [some ⟨1, [.int .i64 x, .slice true (.ro k) 0 c, .slice true (.ro kp) 0 d, .int .i64 y, .slice true (.ro h) 0 e, .slice true (.ro hp) 0 f]⟩, some ⟨1, owL G kc⟩] _
  refine AWp.lvd (live := [0, 1, 5, 6, 7, 8]) (N := 133) (Q := fun ex vs H => ex = .normal ∧ vs = [.slice true (.ro kc) 0 n, .slice true (.ro kq) 0 m, .ptr (.rw 0) 0, .bool false, .slice false (.rw 1) 0 (n + 1), .slice true (.rw 4) 0 (m + 1)] ∧ H = [some ⟨1, [.int .i64 x, .slice true (.ro k) 0 c, .slice true (.ro kp) 0 d, .int .i64 y, .slice true (.ro h) 0 e, .slice true (.ro hp) 0 f]⟩, some ⟨1, owL G kc⟩, none, some ⟨2, [.int .i64 77, .bool false]⟩, some ⟨2, spL G kq⟩]) ?_ ?_
  · refine dloop_ok (C := (⟨Try.prog, G, B⟩ : Ctx)) (dgL G B (by kernel_rfl)) (fuel := 300) (n0 := 20) (m := 0) (vs := [.slice true (.ro (.var 1 kc)) (.lit 0) (.var 2 n), .slice true (.ro (.var 3 kq)) (.lit 0) (.var 4 m), .ptr (.rw 0) (.lit 0), .bool (.lit false), .slice false (.rw 1) (.lit 0) (.add (.var 2 n) (.lit 1)), .undef]) (H := [some ⟨1, .of [.int .i64 (.var 5 x), .slice true (.ro (.var 6 k)) (.lit 0) (.var 7 c), .slice true (.ro (.var 8 kp)) (.lit 0) (.var 9 d), .int .i64 (.var 10 y), .slice true (.ro (.var 11 h)) (.lit 0) (.var 12 e), .slice true (.ro (.var 13 hp)) (.lit 0) (.var 14 f)]⟩, some ⟨1, .var 20 (owL G kc)⟩]) (Nat.zero_le _) ?_
    rw [p4 G kc n kq m k c kp d h e hp f x y (owL G kc), e2]
    exact ⟨leB_iff.2 (by omega), plain_cells I.qp, leB_iff.2 (by omega), leB_iff.2 (by omega), by rw [ql]; exact Nat.beq_refl _, rfl, rfl, rfl⟩
  · rintro ex vs H ⟨rfl, rfl, rfl⟩
    show AWp (⟨Try.prog, G, B⟩ : Ctx) 0 (.seq (.region 5 (r5 (bodyOf Try.f4)) true) (sq5 (bodyOf Try.f4))) (fl 133 [0, 1, 5, 6, 7, 8] [.slice true (.ro kc) 0 n, .slice true (.ro kq) 0 m, .ptr (.rw 0) 0, .bool false, .slice false (.rw 1) 0 (n + 1), .slice true (.rw 4) 0 (m + 1)]) _ (lv 133 [0, 1, 5, 6, 7, 8, 9, 10] (fun e vs _ => e = .ret ∧ vs[3]? = some (.bool true)))
    refine AWp.tell [.slice true (.ro kc) 0 n, .slice true (.ro kq) 0 m, .ptr (.rw 0) 0, .bool false, .slice false (.rw 1) 0 (n + 1), .slice false (.rw 4) 0 (m + 1)] rfl ⟨fun _ _ h => h, fun _ _ h => h, fun _ _ h => h, fun _ _ h => h, fun _ _ h => h, fun _ _ h => VR_pos h, trivial⟩ ?_
    refine AWp.pre (of_r5 (x := x) (y := y) I) ?_
    refine View.frames (θ := [0, 1, 4]) (by simp) ⟨⟨by simp [bnds, bnd], by simp [rens, ren]⟩, ⟨bnds_mono (Nat.zero_le _) _ f1, by rw [rens_flat _ _ f1]; rfl⟩, ⟨bnds_mono (Nat.zero_le _) _ f2, by rw [rens_flat _ _ f2]; rfl⟩, trivial⟩ rfl rfl (by simp [bnds, bnd]) (by simp [rens, ren])
theorem of_r3 : AWp (⟨Try.prog, G, B⟩ : Ctx) 0 (.seq (sq1 (sq2 (sq2 (bodyOf Try.f4)))) (.seq (sq1 (sq2 (sq2 (sq2 (bodyOf Try.f4))))) (.seq (.region 5 (r5 (bodyOf Try.f4)) true) (sq5 (bodyOf Try.f4))))) (fl 133 [0, 1, 5, 6] [.slice true (.ro kc) 0 n, .slice true (.ro kq) 0 m, .ptr (.rw 0) 0, .bool false]) [some ⟨1, [.int .i64 x, .slice true (.ro k) 0 c, .slice true (.ro kp) 0 d, .int .i64 y, .slice true (.ro h) 0 e, .slice true (.ro hp) 0 f]⟩] (lv 133 [0, 1, 5, 6, 7, 8, 9, 10] (fun e vs _ => e = .ret ∧ vs[3]? = some (.bool true))) := by
  obtain ⟨f1, f2, f3, f4⟩ := I.flats
  have hn := I.hn
  have dl := I.dl
  have e2 : subL (G kc) 0 n = G kc := subL_all I.dl
  refine AWp.seq (Nat.zero_le _) ?_
  show AWp (⟨Try.prog, G, B⟩ : Ctx) 0 (sq1 (sq2 (sq2 (bodyOf Try.f4)))) (fl 133 [0, 1, 5, 6, 7] [.slice true (.ro kc) 0 n, .slice true (.ro kq) 0 m, .ptr (.rw 0) 0, .bool false, .undef]) [some ⟨1, [.int .i64 x, .slice true (.ro k) 0 c, .slice true (.ro kp) 0 d, .int .i64 y, .slice true (.ro h) 0 e, .slice true (.ro hp) 0 f]⟩] _
  refine AWp.lvd (live := [0, 1, 5, 6, 7]) (N := 133) (Q := fun ex vs H => ex = .normal ∧ vs = [.slice true (.ro kc) 0 n, .slice true (.ro kq) 0 m, .ptr (.rw 0) 0, .bool false, .slice true (.rw 3) 0 (n + 1)] ∧ H = [some ⟨1, [.int .i64 x, .slice true (.ro k) 0 c, .slice true (.ro kp) 0 d, .int .i64 y, .slice true (.ro h) 0 e, .slice true (.ro hp) 0 f]⟩, none, some ⟨1, [.int .u8 119]⟩, some ⟨1, owL G kc⟩]) ?_ ?_
  · refine dloop_ok (C := (⟨Try.prog, G, B⟩ : Ctx)) (dgL G B (by kernel_rfl)) (fuel := 300) (n0 := 20) (m := 0) (vs := [.slice true (.ro (.var 1 kc)) (.lit 0) (.var 2 n), .slice true (.ro (.var 3 kq)) (.lit 0) (.var 4 m), .ptr (.rw 0) (.lit 0), .bool (.lit false), .undef]) (H := [some ⟨1, .of [.int .i64 (.var 5 x), .slice true (.ro (.var 6 k)) (.lit 0) (.var 7 c), .slice true (.ro (.var 8 kp)) (.lit 0) (.var 9 d), .int .i64 (.var 10 y), .slice true (.ro (.var 11 h)) (.lit 0) (.var 12 e), .slice true (.ro (.var 13 hp)) (.lit 0) (.var 14 f)]⟩]) (Nat.zero_le _) ?_
    rw [p3 G kc n kq m k c kp d h e hp f x y, e2]
    exact ⟨leB_iff.2 (by omega), plain_cells I.pl, leB_iff.2 (by omega), leB_iff.2 (by omega), by rw [dl]; exact Nat.beq_refl _, rfl, rfl, rfl⟩
  · rintro ex vs H ⟨rfl, rfl, rfl⟩
    show AWp (⟨Try.prog, G, B⟩ : Ctx) 0 (.seq (sq1 (sq2 (sq2 (sq2 (bodyOf Try.f4))))) (.seq (.region 5 (r5 (bodyOf Try.f4)) true) (sq5 (bodyOf Try.f4)))) (fl 133 [0, 1, 5, 6, 7] [.slice true (.ro kc) 0 n, .slice true (.ro kq) 0 m, .ptr (.rw 0) 0, .bool false, .slice true (.rw 3) 0 (n + 1)]) _ (lv 133 [0, 1, 5, 6, 7, 8, 9, 10] (fun e vs _ => e = .ret ∧ vs[3]? = some (.bool true)))
    refine AWp.tell [.slice true (.ro kc) 0 n, .slice true (.ro kq) 0 m, .ptr (.rw 0) 0, .bool false, .slice false (.rw 3) 0 (n + 1)] rfl ⟨fun _ _ h => h, fun _ _ h => h, fun _ _ h => h, fun _ _ h => h, fun _ _ h => VR_pos h, trivial⟩ ?_
    refine AWp.pre (of_r4 (x := x) (y := y) I) ?_
    refine View.frames (θ := [0, 3]) (by simp) ⟨⟨by simp [bnds, bnd], by simp [rens, ren]⟩, ⟨bnds_mono (Nat.zero_le _) _ f1, by rw [rens_flat _ _ f1]; rfl⟩, trivial⟩ rfl rfl (by simp [bnds, bnd]) (by simp [rens, ren])
end
end Go.Am
