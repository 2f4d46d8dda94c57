/-
  ImageOf: the law behind its drawn region: what comes out.
-/
import Derived.Test.YthejjolnlngahaaImOc
namespace Go.Am
open Go.Proofs
set_option maxRecDepth 100000
def owL (G : Nat → List AV) (kc : Nat) : List AV := G kc ++ [.int .u8 119]
def spL (G : Nat → List AV) (kq : Nat) : List AV := G kq ++ [.int .i64 77, .bool false]
/-- what is handed in: code, places, two images -/
structure OfIn (G : Nat → List AV) (kc n kq m k c kp d h e hp f : Nat) : Prop where
  dl : (G kc).length = n
  du : u8s (G kc) = true
  ql : (G kq).length = m * 2
  qo : plsOk (G kq) m = true
  qp : (G kq).all plA = true
  i1 : imOk G k c kp d
  i2 : imOk G h e hp f
  hn : n ≤ 20000
  hm : m ≤ 1000
  hc : c ≤ 20 ∧ d ≤ 1000
  he : e ≤ 20 ∧ f ≤ 1000
section
variable {G : Nat → List AV} {B kc n kq m k c kp d h e hp f : Nat} {x y : Int} (I : OfIn G kc n kq m k c kp d h e hp f)
include I
theorem OfIn.pl : (G kc).all plA = true := u8_plain I.du
theorem OfIn.gc : bnds 0 (subL (G kc) 0 n) = true := by rw [subL_all I.dl]; exact plain_bnds I.pl
theorem OfIn.gq : bnds 0 (subL (G kq) 0 (m * 2)) = true := by rw [subL_all I.ql]; exact plain_bnds I.qp
theorem OfIn.owp : (owL G kc).all plA = true := by unfold owL; rw [List.all_append, I.pl]; rfl
theorem OfIn.spp : (spL G kq).all plA = true := by unfold spL; rw [List.all_append, I.qp]; rfl
theorem OfIn.owl : (owL G kc).length = n + 1 := by unfold owL; rw [List.length_append, I.dl]; rfl
theorem OfIn.spl : (spL G kq).length = (m + 1) * 2 := by unfold spL; rw [List.length_append, I.ql]; show m * 2 + 2 = _; omega
theorem OfIn.pl1 : pl1U [.agg (G kq), .int .i64 (m : Int)] = true := by
  have h1 : plsU [.agg (G kq), .int .i64 (m : Int)] = true := plsU_iff.2 ⟨I.qo, by have := I.hm; omega⟩
  show (plsU [.agg (G kq), .int .i64 (m : Int)] && (bnds 0 (G kq) && noros (G kq))) = true
  rw [h1, plain_bnds I.qp, plain_noros I.qp]; rfl
theorem OfIn.sOk : sameOk G [.int .i64 x, .agg (G k), .int .i64 (c : Int), .agg (G kp), .int .i64 (d : Int), .int .i64 y, .agg (G h), .int .i64 (e : Int), .agg (G hp), .int .i64 (f : Int)] = true := by
  obtain ⟨a1, a2⟩ := im_sec I.i1 I.hc.1 I.hc.2
  obtain ⟨b1, b2⟩ := im_sec I.i2 I.he.1 I.he.2
  exact sameOk_iff.2 ⟨⟨a1, b1⟩, a2, b2⟩
theorem OfIn.sOk1 : sameOk G [.int .i64 x, .agg (G k), .int .i64 (c : Int), .agg (G kp), .int .i64 (d : Int), .int .i64 x, .agg (G k), .int .i64 (c : Int), .agg (G kp), .int .i64 (d : Int)] = true := by
  obtain ⟨a1, a2⟩ := im_sec I.i1 I.hc.1 I.hc.2
  exact sameOk_iff.2 ⟨⟨a1, a1⟩, a2, a2⟩
omit I in
theorem sU1 : sameU G [.int .i64 x, .agg (G k), .int .i64 (c : Int), .agg (G kp), .int .i64 (d : Int), .int .i64 x, .agg (G k), .int .i64 (c : Int), .agg (G kp), .int .i64 (d : Int)] = true := by rw [sameU_eq, sameI_refl]
theorem OfIn.datB : datB (G kc) n = true := by
  unfold Go.Am.datB
  rw [subL_all I.dl, I.du, plain_bnds I.pl, plain_noros I.pl, leB_iff.2 (by have := I.dl; omega)]; rfl
theorem OfIn.plsB : plsB (G kq) m = true := by
  unfold Go.Am.plsB plsOkB
  rw [I.qo, plain_bnds I.qp, plain_noros I.qp, Nat.ble_eq_true_of_le (by have := I.hm; omega)]; rfl
theorem OfIn.rcs : noRcds (G kc) = true ∧ noRcds (G kq) = true ∧ noRcds (owL G kc) = true ∧ noRcds (spL G kq) = true := ⟨plain_rcds I.pl, plain_rcds I.qp, plain_rcds I.owp, plain_rcds I.spp⟩
theorem OfIn.get77 : isI .i64 (spL G kq) (m * 2) = true ∧ (getI (spL G kq) (m * 2) == 77) = true := by
  have h1 : (spL G kq)[m * 2]? = some (.int .i64 77) := by unfold spL; rw [List.getElem?_append_right (by have := I.ql; omega), I.ql, Nat.sub_self]; rfl
  unfold isI getI
  rw [h1]; exact ⟨rfl, rfl⟩
theorem rest_y (hm : may1U [.int .i64 0, .int .i64 0, .int .i64 7, .int .i64 (n : Int), .int .i64 x, .agg (G kq), .int .i64 (m : Int)] = true) :
    AWp (⟨Try.prog, G, B⟩ : Ctx) 0 (sq5 (bodyOf Try.f4)) (fl 133 [0, 1, 5, 6, 7, 8, 9, 10] [.slice true (.ro kc) 0 n, .slice true (.ro kq) 0 m, .ptr (.rw 0) 0, .bool false, .slice false (.rw 1) 0 (n + 1), .slice false (.rw 2) 0 (m + 1), .ptr (.rw 6) 0, .int .i64 0]) [some ⟨1, [.int .i64 x, .slice true (.ro k) 0 c, .slice true (.ro kp) 0 d, .int .i64 y, .slice true (.ro h) 0 e, .slice true (.ro hp) 0 f]⟩, some ⟨1, owL G kc⟩, some ⟨2, spL G kq⟩, some ⟨4, [.int .i64 0, .int .i64 7, .slice false (.rw 5) 0 n, .int .i64 x]⟩, some ⟨2, G kq⟩, some ⟨1, G kc⟩, some ⟨1, [.int .i64 0, .slice false (.rw 3) 0 1, .slice false (.rw 4) 0 m]⟩] (lv 133 [0, 1, 5, 6, 7, 8, 9, 10] (fun e vs _ => e = .ret ∧ vs[3]? = some (.bool true))) := by
  have hn := I.hn
  have hmm := I.hm
  have dl := I.dl
  have ql := I.ql
  have gc := I.gc
  have gq := I.gq
  obtain ⟨r1, r2, r3, r4⟩ := I.rcs
  have e1 : subL (G kc) 0 n = G kc := subL_all I.dl
  have e2 : subL (G kq) 0 (m * 2) = G kq := subL_all I.ql
  have e3 : subL (owL G kc) 0 (n + 1) = owL G kc := subL_all I.owl
  obtain ⟨v1, v2⟩ := I.get77
  refine dloop_ok (C := (⟨Try.prog, G, B⟩ : Ctx)) (dgY (ls := [(DLat 1770 (zyQ G kc n kq m k c kp d h e hp f x y (owL G kc) (spL G kq) (G kq) (G kc)) 0 133 [5, 6, 7, 8, 9, 10, 11, 12, 13] (zyO G kc n kq m k c kp d h e hp f x y (spL G kq) (G kq) (G kc))), (DLat 1772 (wyQ G kc n kq m k c kp d h e hp f x y (spL G kq) (G kq) (G kc)) 2 133 [5, 6, 8, 9, 10, 11, 12, 14] (wyO G kc n kq m k c kp d h e hp f x y (G kq) (G kc)))]) G B (.cast (.cons (i := 0) (by kernel_rfl) rfl (zyL_ok G B kc n kq m k c kp d h e hp f x y (owL G kc) (spL G kq) (G kq) (G kc) gc gq) (.cons (i := 2) (by kernel_rfl) rfl (wyL_ok G B kc n kq m k c kp d h e hp f x y (spL G kq) (G kq) (G kc) gc gq) .nil)) (by kernel_rfl)) (by kernel_rfl)) (fuel := 600) (n0 := 20) (m := 0)
    (vs := [.slice true (.ro (.var 1 kc)) (.lit 0) (.var 2 n), .slice true (.ro (.var 3 kq)) (.lit 0) (.var 4 m), .ptr (.rw 0) (.lit 0), .bool (.lit false), .slice false (.rw 1) (.lit 0) (.add (.var 2 n) (.lit 1)), .slice false (.rw 2) (.lit 0) (.add (.var 4 m) (.lit 1)), .ptr (.rw 6) (.lit 0), .int .i64 (.lit 0)]) (H := [some ⟨1, .of [.int .i64 (.var 5 x), .slice true (.ro (.var 6 k)) (.lit 0) (.var 7 c), .slice true (.ro (.var 8 kp)) (.lit 0) (.var 9 d), .int .i64 (.var 10 y), .slice true (.ro (.var 11 h)) (.lit 0) (.var 12 e), .slice true (.ro (.var 13 hp)) (.lit 0) (.var 14 f)]⟩, some ⟨1, .var 20 (owL G kc)⟩, some ⟨2, .var 21 (spL G kq)⟩, some ⟨4, .of [.int .i64 (.lit 0), .int .i64 (.lit 7), .slice false (.rw 5) (.lit 0) (.var 2 n), .int .i64 (.var 5 x)]⟩, some ⟨2, .var 22 (G kq)⟩, some ⟨1, .var 23 (G kc)⟩, some ⟨1, .of [.int .i64 (.lit 0), .slice false (.rw 3) (.lit 0) (.lit 1), .slice false (.rw 4) (.lit 0) (.var 4 m)]⟩]) (Nat.zero_le _) ?_
  rw [ry G kc n kq m k c kp d h e hp f x y (owL G kc) (spL G kq) (G kq) (G kc)]
  have z1 : (zyQ G kc n kq m k c kp d h e hp f x y (owL G kc) (spL G kq) (G kq) (G kc)) [.agg [.ptr (.rw 0) 0, .bool false, .slice false (.rw 1) 0 (n + 1), .slice false (.rw 2) 0 (m + 1), .ptr (.rw 6) 0, .int .i64 0, .ptr (.rw 12) 0, .int .i64 0, .int .i64 0], .agg (encHB [some ⟨1, [.int .i64 x, .slice true (.ro k) 0 c, .slice true (.ro kp) 0 d, .int .i64 y, .slice true (.ro h) 0 e, .slice true (.ro hp) 0 f]⟩, some ⟨1, owL G kc⟩, some ⟨2, spL G kq⟩, some ⟨4, [.int .i64 0, .int .i64 7, .slice false (.rw 5) 0 n, .int .i64 x]⟩, some ⟨2, G kq⟩, some ⟨1, G kc⟩, some ⟨1, [.int .i64 0, .slice false (.rw 3) 0 1, .slice false (.rw 4) 0 m]⟩, some ⟨1, [.int .i64 0, .slice false (.rw 9) 0 1, .slice true (.rw 10) 0 m]⟩, some ⟨1, subL (G kc) 0 n⟩, some ⟨4, [.int .i64 0, .int .i64 7, .slice true (.rw 8) 0 n, .int .i64 x]⟩, some ⟨2, subL (G kq) 0 (m * 2)⟩, some ⟨1, [.int .i64 0, .slice false (.rw 9) 0 1, .slice true (.rw 10) 0 m]⟩, some ⟨1, [.int .i64 0, .slice false (.rw 9) 0 1, .slice true (.rw 10) 0 m]⟩])] = true := by
    refine stQ_refl ?_ rfl ?_
    · rw [show Nat.beq (owL G kc).length (n + 1) = true by rw [I.owl]; exact Nat.beq_refl _, Nat.ble_eq_true_of_le hn, plain_bnds I.owp, plain_bnds I.spp, plain_bnds I.qp, plain_bnds I.pl, r1, r2, r3, r4]; rfl
    · rw [e1, e2]
      simp only [encHB, List.map_cons, List.map_nil, noRcds, noRcd, r1, r2, r3, r4, Bool.and_self]
  have z2 : (wyQ G kc n kq m k c kp d h e hp f x y (spL G kq) (G kq) (G kc)) [.agg [.ptr (.rw 0) 0, .bool false, .slice false (.rw 2) 0 (m + 1), .ptr (.rw 6) 0, .int .i64 0, .ptr (.rw 12) 0, .int .i64 0, .int .i64 0], .agg (encHB [some ⟨1, [.int .i64 x, .slice true (.ro k) 0 c, .slice true (.ro kp) 0 d, .int .i64 y, .slice true (.ro h) 0 e, .slice true (.ro hp) 0 f]⟩, none, some ⟨2, spL G kq⟩, some ⟨4, [.int .i64 0, .int .i64 7, .slice false (.rw 5) 0 n, .int .i64 x]⟩, some ⟨2, G kq⟩, some ⟨1, G kc⟩, some ⟨1, [.int .i64 0, .slice false (.rw 3) 0 1, .slice false (.rw 4) 0 m]⟩, some ⟨1, [.int .i64 0, .slice false (.rw 9) 0 1, .slice true (.rw 10) 0 m]⟩, some ⟨1, subL (G kc) 0 n⟩, some ⟨4, [.int .i64 0, .int .i64 7, .slice true (.rw 8) 0 n, .int .i64 x]⟩, some ⟨2, subL (G kq) 0 (m * 2)⟩, some ⟨1, [.int .i64 0, .slice false (.rw 9) 0 1, .slice true (.rw 10) 0 m]⟩, some ⟨1, [.int .i64 0, .slice false (.rw 9) 0 1, .slice true (.rw 10) 0 m]⟩])] = true := by
    refine stQ_refl ?_ rfl ?_
    · rw [show Nat.beq (spL G kq).length ((m + 1) * 2) = true by rw [I.spl]; exact Nat.beq_refl _, Nat.ble_eq_true_of_le hmm, plain_bnds I.spp, plain_bnds I.qp, plain_bnds I.pl, r1, r2, r4]; rfl
    · rw [e1, e2]
      simp only [encHB, List.map_cons, List.map_nil, noRcds, noRcd, r1, r2, r3, r4, Bool.and_self]
  rw [e1, e2] at z1 z2 ⊢
  rw [e3]
  have s1 : same1U [.int .i64 0, .int .i64 0, .int .i64 7, .agg (G kc), .int .i64 (n : Int), .int .i64 x, .agg (G kq), .int .i64 (m : Int), .int .i64 0, .int .i64 0, .int .i64 7, .agg (G kc), .int .i64 (n : Int), .int .i64 x, .agg (G kq), .int .i64 (m : Int)] = true := by rw [same1U_eq, same1I_refl]
  refine ⟨leB_iff.2 (by omega), plain_cells I.pl, leB_iff.2 (by omega), leB_iff.2 (by omega), plain_cells I.qp, leB_iff.2 (by omega), I.pl1, fun _ => ⟨leB_iff.2 (by rw [I.owl]; omega), by unfold owL; exact u8s_app I.du rfl, leB_iff.2 (by omega), I.du, leB_iff.2 (by unfold strL; rw [List.length_map]; omega), fun _ => ⟨decide_eq_true (by omega), decide_eq_true (by omega), v1, fun _ => ⟨z1, z2, same1Ok_iff.2 ⟨⟨I.datB, I.plsB⟩, I.datB, I.plsB⟩, fun _ => ⟨I.sOk, I.sOk, fun q => ⟨q, I.sOk1, fun _ => ⟨rfl, rfl⟩, fun q => by rw [sU1] at q; cases q⟩, fun q => ⟨by rw [q]; rfl, I.sOk1, fun _ => ⟨rfl, rfl⟩, fun q => by rw [sU1] at q; cases q⟩⟩, fun q => by rw [s1] at q; cases q⟩, fun q => by rw [v2] at q; cases q⟩, fun q => ?_⟩, fun q => by rw [hm] at q; cases q⟩
  unfold owL at q
  rw [strL_app, beq_eq_false_iff_ne] at q
  exact absurd rfl q
end
end Go.Am
