/-
  ImageOf: the law, called.
-/
import Derived.Test.YthejjolnlngahaaImOe
namespace Go.Am
open Go.Proofs
set_option maxRecDepth 100000
theorem of_call (G : Nat → List AV) (B : Nat) (kc n kq m k c kp d h e hp f : Nat) (x y : Int) (h1 : (G kc).length = n) (h2 : u8s (G kc) = true) (h3 : (G kq).length = m * 2) (h4 : plsOk (G kq) m = true) (h5 : (G kq).all plA = true) (h6 : imOk G k c kp d) (h7 : imOk G h e hp f) :
    ACalls (⟨Try.prog, G, B⟩ : Ctx) 4 [.slice true (.ro kc) 0 n, .slice true (.ro kq) 0 m, .agg [.int .i64 x, .slice true (.ro k) 0 c, .slice true (.ro kp) 0 d, .int .i64 y, .slice true (.ro h) 0 e, .slice true (.ro hp) 0 f]] [] fun v _ => v = .bool true := by
  refine acalls_of (fn := Try.f4) (c := bodyOf Try.f4) (by kernel_rfl) (by kernel_rfl) (by kernel_rfl) ?_
  have fin : ∀ F (H : Hp), chk (Nat.beq F.length 133) ((rdF [6] F)[0]? = some (.bool true)) → retK (⟨Try.prog, G, B⟩ : Ctx) Try.f4 (fun v _ => v = .bool true) .ret F H := by
    intro F H hq
    obtain ⟨_, hq⟩ := chk_true hq
    have hg : F.getD 6 .undef = .bool true := by simpa [rdF] using hq
    have hr : Try.f4.results.toList = [ResultVar.tmp 6] := by kernel_rfl
    unfold retK resA
    rw [hr]
    simp only [resAll, resOne, hg]
    exact rfl
  show AWp (⟨Try.prog, G, B⟩ : Ctx) 0 (bodyOf Try.f4) _ _ _
  refine AWp.rd (N := 133) [0, 1, 2] (by kernel_rfl) ?_
  rw [of_body]
  refine AWp.seq (Nat.zero_le _) ?_
  show AWp (⟨Try.prog, G, B⟩ : Ctx) 0 (sq1 (bodyOf Try.f4)) (fl 133 [0, 1, 2, 5, 6] [.slice true (.ro kc) 0 n, .slice true (.ro kq) 0 m, .agg [.int .i64 x, .slice true (.ro k) 0 c, .slice true (.ro kp) 0 d, .int .i64 y, .slice true (.ro h) 0 e, .slice true (.ro hp) 0 f], .undef, .undef]) [] _
  refine AWp.lvd (live := [0, 1, 2, 5, 6]) (N := 133) (Q := fun ex vs H => ex = .normal ∧ vs = [.slice true (.ro kc) 0 n, .slice true (.ro kq) 0 m, .agg [.int .i64 x, .slice true (.ro k) 0 c, .slice true (.ro kp) 0 d, .int .i64 y, .slice true (.ro h) 0 e, .slice true (.ro hp) 0 f], .ptr (.rw 0) 0, .bool false] ∧ H = [some ⟨1, [.int .i64 x, .slice true (.ro k) 0 c, .slice true (.ro kp) 0 d, .int .i64 y, .slice true (.ro h) 0 e, .slice true (.ro hp) 0 f]⟩]) ?_ ?_
  · refine dloop_ok (C := (⟨Try.prog, G, B⟩ : Ctx)) (dgL G B (by kernel_rfl)) (fuel := 300) (n0 := 20) (m := 0) (vs := [.slice true (.ro (.var 1 kc)) (.lit 0) (.var 2 n), .slice true (.ro (.var 3 kq)) (.lit 0) (.var 4 m), .agg (.of [.int .i64 (.var 5 x), .slice true (.ro (.var 6 k)) (.lit 0) (.var 7 c), .slice true (.ro (.var 8 kp)) (.lit 0) (.var 9 d), .int .i64 (.var 10 y), .slice true (.ro (.var 11 h)) (.lit 0) (.var 12 e), .slice true (.ro (.var 13 hp)) (.lit 0) (.var 14 f)]), .undef, .undef]) (H := []) (Nat.zero_le _) ?_
    rw [p0 G kc n kq m k c kp d h e hp f x y]
    exact ⟨rfl, rfl, rfl⟩
  rintro ex vs H ⟨rfl, rfl, rfl⟩
  show AWp (⟨Try.prog, G, B⟩ : Ctx) 0 (.seq (sq1 (sq2 (bodyOf Try.f4))) (.seq (sq1 (sq2 (sq2 (bodyOf Try.f4)))) (.seq (sq1 (sq2 (sq2 (sq2 (bodyOf Try.f4))))) (.seq (.region 5 (r5 (bodyOf Try.f4)) true) (sq5 (bodyOf Try.f4)))))) (fl 133 [0, 1, 2, 5, 6] [.slice true (.ro kc) 0 n, .slice true (.ro kq) 0 m, .agg [.int .i64 x, .slice true (.ro k) 0 c, .slice true (.ro kp) 0 d, .int .i64 y, .slice true (.ro h) 0 e, .slice true (.ro hp) 0 f], .ptr (.rw 0) 0, .bool false]) [some ⟨1, [.int .i64 x, .slice true (.ro k) 0 c, .slice true (.ro kp) 0 d, .int .i64 y, .slice true (.ro h) 0 e, .slice true (.ro hp) 0 f]⟩] _
  refine AWp.rd [0, 1, 5, 6] fl_length ?_
  show AWp (⟨Try.prog, G, B⟩ : Ctx) 0 (.seq (sq1 (sq2 (bodyOf Try.f4))) (.seq (sq1 (sq2 (sq2 (bodyOf Try.f4)))) (.seq (sq1 (sq2 (sq2 (sq2 (bodyOf Try.f4))))) (.seq (.region 5 (r5 (bodyOf Try.f4)) true) (sq5 (bodyOf Try.f4)))))) (fl 133 [0, 1, 5, 6] [.slice true (.ro kc) 0 n, .slice true (.ro kq) 0 m, .ptr (.rw 0) 0, .bool false]) [some ⟨1, [.int .i64 x, .slice true (.ro k) 0 c, .slice true (.ro kp) 0 d, .int .i64 y, .slice true (.ro h) 0 e, .slice true (.ro hp) 0 f]⟩] _
  refine AWp.seq (Nat.zero_le _) ?_
  refine AWp.lvd (live := [0, 1, 5, 6]) (N := 133) (Q := fun ex vs H => (ex = .ret ∧ vs[3]? = some (.bool true)) ∨ (ex = .normal ∧ vs = [.slice true (.ro kc) 0 n, .slice true (.ro kq) 0 m, .ptr (.rw 0) 0, .bool false] ∧ H = [some ⟨1, [.int .i64 x, .slice true (.ro k) 0 c, .slice true (.ro kp) 0 d, .int .i64 y, .slice true (.ro h) 0 e, .slice true (.ro hp) 0 f]⟩] ∧ OfIn G kc n kq m k c kp d h e hp f)) ?_ ?_
  · refine dloop_ok (C := (⟨Try.prog, G, B⟩ : Ctx)) (by rw [show loopsOf (sq1 (sq2 (bodyOf Try.f4))) = [] by kernel_rfl]; exact dgood (inl := []) (ls := []) (M := 0) (mixI G B) (by kernel_rfl) (.cons (muchS_ok G B) (.cons (trueS_ok G B) .nil)) .nil) (fuel := 300) (n0 := 20) (m := 0) (vs := [.slice true (.ro (.var 1 kc)) (.lit 0) (.var 2 n), .slice true (.ro (.var 3 kq)) (.lit 0) (.var 4 m), .ptr (.rw 0) (.lit 0), .bool (.lit false)]) (H := [some ⟨1, .of [.int .i64 (.var 5 x), .slice true (.ro (.var 6 k)) (.lit 0) (.var 7 c), .slice true (.ro (.var 8 kp)) (.lit 0) (.var 9 d), .int .i64 (.var 10 y), .slice true (.ro (.var 11 h)) (.lit 0) (.var 12 e), .slice true (.ro (.var 13 hp)) (.lit 0) (.var 14 f)]⟩]) (Nat.zero_le _) ?_
    rw [p1 G kc n kq m k c kp d h e hp f x y, muchU_eq, muchU_eq]
    refine ⟨fun _ => .inl ⟨rfl, rfl⟩, fun q1 => ⟨fun _ => .inl ⟨rfl, rfl⟩, fun q2 => ⟨h6.1, fun _ => .inl ⟨rfl, rfl⟩, fun q3 => ⟨h7.1, fun _ => .inl ⟨rfl, rfl⟩, fun q4 => .inr ⟨rfl, rfl, rfl, ?_⟩⟩⟩⟩⟩
    have q1 := of_decide_eq_false q1
    have q2 := of_decide_eq_false q2
    exact ⟨h1, h2, h3, h4, h5, h6, h7, by omega, by omega, much_no q3, much_no q4⟩
  rintro ex vs H (⟨rfl, q⟩ | ⟨rfl, rfl, rfl, I⟩)
  · refine fin _ H ?_
    rw [fl_length]
    match vs, q with
    | [_, _, _, v], q =>
      simp at q; subst q
      show (rdF [6] (fl 133 [0, 1, 5, 6] [_, _, _, AV.bool true]))[0]? = _
      rfl
    | _ :: _ :: _ :: v :: w :: l, q =>
      simp at q; subst q
      show (rdF [6] (fl 133 [0, 1, 5, 6] (_ :: _ :: _ :: AV.bool true :: w :: l)))[0]? = _
      rfl
  · refine AWp.lvd (of_r3 (x := x) (y := y) I) ?_
    rintro ex vs H ⟨rfl, q⟩
    refine fin _ H ?_
    rw [fl_length]
    match vs, q with
    | _ :: _ :: _ :: v :: l, q =>
      simp at q; subst q
      show (rdF [6] (fl 133 [0, 1, 5, 6, 7, 8, 9, 10] (_ :: _ :: _ :: AV.bool true :: l)))[0]? = _
      rfl
end Go.Am
