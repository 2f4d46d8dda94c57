/-
  Processes: the program's End: what it does, its loops.
-/
import Derived.Test.YtkabjomhnddnoaaPrL
namespace Go.Am
open Go.Proofs Crc
set_option maxRecDepth 100000
theorem V_get {p : Nat → AV} {s : Ptb} {n k : Nat} (hn : n < 13) (hk : k < 7) : (encV p s)[n * 7 + (k + 1)]? = some (fcell (s.at_ n) (p n) k) := by
  unfold encV
  rw [show n * 7 + (k + 1) = (n * 7 + k) + 1 by omega, List.getElem?_cons_succ, tabL_get hn hk]
theorem V_num {p : Nat → AV} {s : Ptb} {n : Nat} (hn : n < 13) : isI .i64 (encV p s) (n * 7 + 1) = true ∧ getI (encV p s) (n * 7 + 1) = (s.at_ n).num := by simp [isI, getI, V_get (p := p) (s := s) (k := 0) hn (by omega), fcell]
theorem V_en {p : Nat → AV} {s : Ptb} {n : Nat} (hn : n < 13) : isB (encV p s) (n * 7 + 5) = true ∧ getB (encV p s) (n * 7 + 5) = (s.at_ n).en := by simp [isB, getB, V_get (p := p) (s := s) (k := 4) hn (by omega), fcell]
def parU (s : Ptb) (c : Nat) : Ptb := updC s c { s.at_ c with par := 1 }
def parL (s : Ptb) : List Nat → Ptb := fun l => l.foldl parU s
def endU (s : Ptb) (c : Nat) : Ptb := if (s.at_ c).en = true then freeX s c else s
def endL (s : Ptb) : List Nat → Ptb := fun l => l.foldl endU s
theorem take_snoc {l : List Nat} {i : Nat} (hi : i < l.length) : l.take (i + 1) = l.take i ++ [l[i]] := by
  rw [List.take_add_one, List.getElem?_eq_getElem hi]; rfl
theorem parL_step {s : Ptb} {l : List Nat} {i : Nat} (hi : i < l.length) : parL s (l.take (i + 1)) = parU (parL s (l.take i)) l[i] := by
  unfold parL; rw [take_snoc hi, List.foldl_append]; rfl
theorem endL_step {s : Ptb} {l : List Nat} {i : Nat} (hi : i < l.length) : endL s (l.take (i + 1)) = endU (endL s (l.take i)) l[i] := by
  unfold endL; rw [take_snoc hi, List.foldl_append]; rfl
theorem V_par {s : Ptb} {q c : Nat} : setPart (encV (ptC s q) s) (c * 7 + 2) (.int .i64 1) = encV (ptC (parU s c) q) (parU s c) :=
  V_set (p := ptC s q) (n := c) (k := 1) (s := s) (x := { s.at_ c with par := 1 }) (by omega) (by intro l h; cases h) fun j hj => by
    match j, hj with
    | 0, _ | 1, _ | 2, _ | 3, _ | 4, _ | 5, _ => rfl
theorem V_free {s : Ptb} {q c : Nat} (hc : c < 13) : setPart (encV (ptC s q) s) (c * 7 + 1) (.agg (rowT zc .nilp)) = encV (ptC (freeX s c) q) (freeX s c) := by
  rw [V_row hc]
  show encV _ _ = encV _ _
  unfold encV
  congr 1
  refine tabL_congr fun a j _ _ => ?_
  show fcell (if a = c then zc else s.at_ a) (if a = c then .nilp else ptC s q a) j = fcell (if a = c then zc else s.at_ a) (ptC (freeX s c) q a) j
  congr 1
  unfold ptC
  show _ = match (if a = c then none else s.sg a) with | none => AV.nilp | some _ => _
  by_cases e : a = c
  · simp only [if_pos e]
  · simp only [if_neg e]
    cases s.sg a <;> rfl
theorem e0_loop (G : Nat → List AV) (B : Nat) (s : Ptb) (q : Nat) (sl z : List AV) (ks : List Nat) (hk : ∀ x ∈ ks, x < 13) (hl : ks.length ≤ 13) : AWp (⟨Try.prog, G, B⟩ : Ctx) 14 (.loop (loopN Try.f27 0)) (fl 82 [0, 6, 44, 45, 46] [.ptr (.rw 0) 0, .int .i64 0, .slice true (.rw 15) 0 ks.length, .int .i64 (ks.length : Int), .int .i64 0]) (vHp G [some ⟨1, .var 1 (encV (ptC s q) s)⟩, some ⟨1, .row (.var 2 sl) (.lit 0)⟩, some ⟨1, .row (.var 2 sl) (.lit 1)⟩, some ⟨1, .row (.var 2 sl) (.lit 2)⟩, some ⟨1, .row (.var 2 sl) (.lit 3)⟩, some ⟨1, .row (.var 2 sl) (.lit 4)⟩, some ⟨1, .row (.var 2 sl) (.lit 5)⟩, some ⟨1, .row (.var 2 sl) (.lit 6)⟩, some ⟨1, .row (.var 2 sl) (.lit 7)⟩, some ⟨1, .row (.var 2 sl) (.lit 8)⟩, some ⟨1, .row (.var 2 sl) (.lit 9)⟩, some ⟨1, .row (.var 2 sl) (.lit 10)⟩, some ⟨1, .row (.var 2 sl) (.lit 11)⟩, some ⟨1, .row (.var 2 sl) (.lit 12)⟩, some ⟨1, .var 23 z⟩, some ⟨1, .var 22 (nl ks)⟩]) (lv 82 [0, 6, 44, 45, 46] (LOut.post G 14 (.one (.exit 0) [.ptr (.rw 0) (.lit 0), .int .i64 (.lit 0), .undef, .undef, .undef] [some ⟨1, .var 21 (encV (ptC (parL s ks) q) (parL s ks))⟩, some ⟨1, .row (.var 2 sl) (.lit 0)⟩, some ⟨1, .row (.var 2 sl) (.lit 1)⟩, some ⟨1, .row (.var 2 sl) (.lit 2)⟩, some ⟨1, .row (.var 2 sl) (.lit 3)⟩, some ⟨1, .row (.var 2 sl) (.lit 4)⟩, some ⟨1, .row (.var 2 sl) (.lit 5)⟩, some ⟨1, .row (.var 2 sl) (.lit 6)⟩, some ⟨1, .row (.var 2 sl) (.lit 7)⟩, some ⟨1, .row (.var 2 sl) (.lit 8)⟩, some ⟨1, .row (.var 2 sl) (.lit 9)⟩, some ⟨1, .row (.var 2 sl) (.lit 10)⟩, some ⟨1, .row (.var 2 sl) (.lit 11)⟩, some ⟨1, .row (.var 2 sl) (.lit 12)⟩, some ⟨1, .var 23 z⟩, some ⟨1, .var 22 (nl ks)⟩]))) := by
  refine scan ks.length (fun i => [.ptr (.rw 0) 0, .int .i64 0, .slice true (.rw 15) 0 ks.length, .int .i64 (ks.length : Int), .int .i64 (i : Int)]) (fun i => vHp G [some ⟨1, .var 1 (encV (ptC (parL s (ks.take i)) q) (parL s (ks.take i)))⟩, some ⟨1, .row (.var 2 sl) (.lit 0)⟩, some ⟨1, .row (.var 2 sl) (.lit 1)⟩, some ⟨1, .row (.var 2 sl) (.lit 2)⟩, some ⟨1, .row (.var 2 sl) (.lit 3)⟩, some ⟨1, .row (.var 2 sl) (.lit 4)⟩, some ⟨1, .row (.var 2 sl) (.lit 5)⟩, some ⟨1, .row (.var 2 sl) (.lit 6)⟩, some ⟨1, .row (.var 2 sl) (.lit 7)⟩, some ⟨1, .row (.var 2 sl) (.lit 8)⟩, some ⟨1, .row (.var 2 sl) (.lit 9)⟩, some ⟨1, .row (.var 2 sl) (.lit 10)⟩, some ⟨1, .row (.var 2 sl) (.lit 11)⟩, some ⟨1, .row (.var 2 sl) (.lit 12)⟩, some ⟨1, .var 23 z⟩, some ⟨1, .var 22 (nl ks)⟩]) fun i hi => ?_
  refine dloop_ok (C := (⟨Try.prog, G, B⟩ : Ctx)) (K := Dc Try.prog [] [] [] 0) (dgood (mix G B) (by kernel_rfl) .nil .nil) (fuel := 300) (n0 := 40) (m := 14) (c := loopN Try.f27 0)
    (vs := [.ptr (.rw 0) (.lit 0), .int .i64 (.lit 0), .slice true (.rw 15) (.lit 0) (.var 6 ks.length), .int .i64 (.ofN (.var 6 ks.length)), .int .i64 (.ofN (.var 8 i))]) (H := [some ⟨1, .var 1 (encV (ptC (parL s (ks.take i)) q) (parL s (ks.take i)))⟩, some ⟨1, .row (.var 2 sl) (.lit 0)⟩, some ⟨1, .row (.var 2 sl) (.lit 1)⟩, some ⟨1, .row (.var 2 sl) (.lit 2)⟩, some ⟨1, .row (.var 2 sl) (.lit 3)⟩, some ⟨1, .row (.var 2 sl) (.lit 4)⟩, some ⟨1, .row (.var 2 sl) (.lit 5)⟩, some ⟨1, .row (.var 2 sl) (.lit 6)⟩, some ⟨1, .row (.var 2 sl) (.lit 7)⟩, some ⟨1, .row (.var 2 sl) (.lit 8)⟩, some ⟨1, .row (.var 2 sl) (.lit 9)⟩, some ⟨1, .row (.var 2 sl) (.lit 10)⟩, some ⟨1, .row (.var 2 sl) (.lit 11)⟩, some ⟨1, .row (.var 2 sl) (.lit 12)⟩, some ⟨1, .var 23 z⟩, some ⟨1, .var 22 (nl ks)⟩]) (by simp) ?_
  rw [e_l0]
  refine ⟨fun h => ?_, fun h => ?_⟩
  · have hlt : i < ks.length := by have := of_decide_eq_true h; omega
    obtain ⟨k1, k2⟩ := nl_getI (l := ks) hlt
    have hc := hk _ (List.getElem_mem hlt)
    rw [k2, Int.toNat_natCast, V_par, i64_in (by omega)]
    refine ⟨decide_eq_true (by omega), h, k1, decide_eq_true (by omega), decide_eq_true (by omega), leB_iff.2 (by rw [encV_len]; omega), hlt, .inl ⟨rfl, ?_⟩⟩
    rw [parL_step hlt]; rfl
  · have he : i = ks.length := by have := of_decide_eq_false h; omega
    subst he
    refine ⟨rfl, .inl ⟨by simp [wk, vVs, vV, vR, vN, vI], ?_⟩⟩
    rw [List.take_length]; rfl
theorem e2_loop (G : Nat → List AV) (B : Nat) (s : Ptb) (q : Nat) (sl z ys : List AV) (ks : List Nat) (hk : ∀ x ∈ ks, x < 13) (hl : ks.length ≤ 13) : AWp (⟨Try.prog, G, B⟩ : Ctx) 14 (.loop (loopN Try.f27 1)) (fl 82 [0, 6, 61, 62, 63] [.ptr (.rw 0) 0, .int .i64 0, .slice true (.rw 16) 0 ks.length, .int .i64 (ks.length : Int), .int .i64 0]) (vHp G [some ⟨1, .var 1 (encV (ptC s q) s)⟩, some ⟨1, .row (.var 2 sl) (.lit 0)⟩, some ⟨1, .row (.var 2 sl) (.lit 1)⟩, some ⟨1, .row (.var 2 sl) (.lit 2)⟩, some ⟨1, .row (.var 2 sl) (.lit 3)⟩, some ⟨1, .row (.var 2 sl) (.lit 4)⟩, some ⟨1, .row (.var 2 sl) (.lit 5)⟩, some ⟨1, .row (.var 2 sl) (.lit 6)⟩, some ⟨1, .row (.var 2 sl) (.lit 7)⟩, some ⟨1, .row (.var 2 sl) (.lit 8)⟩, some ⟨1, .row (.var 2 sl) (.lit 9)⟩, some ⟨1, .row (.var 2 sl) (.lit 10)⟩, some ⟨1, .row (.var 2 sl) (.lit 11)⟩, some ⟨1, .row (.var 2 sl) (.lit 12)⟩, some ⟨1, .var 23 z⟩, some ⟨1, .var 22 ys⟩, some ⟨1, .var 25 (nl ks)⟩]) (lv 82 [0, 6, 61, 62, 63] (LOut.post G 14 (.one (.exit 2) [.ptr (.rw 0) (.lit 0), .int .i64 (.lit 0), .undef, .undef, .undef] [some ⟨1, .var 26 (encV (ptC (endL s ks) q) (endL s ks))⟩, some ⟨1, .row (.var 2 sl) (.lit 0)⟩, some ⟨1, .row (.var 2 sl) (.lit 1)⟩, some ⟨1, .row (.var 2 sl) (.lit 2)⟩, some ⟨1, .row (.var 2 sl) (.lit 3)⟩, some ⟨1, .row (.var 2 sl) (.lit 4)⟩, some ⟨1, .row (.var 2 sl) (.lit 5)⟩, some ⟨1, .row (.var 2 sl) (.lit 6)⟩, some ⟨1, .row (.var 2 sl) (.lit 7)⟩, some ⟨1, .row (.var 2 sl) (.lit 8)⟩, some ⟨1, .row (.var 2 sl) (.lit 9)⟩, some ⟨1, .row (.var 2 sl) (.lit 10)⟩, some ⟨1, .row (.var 2 sl) (.lit 11)⟩, some ⟨1, .row (.var 2 sl) (.lit 12)⟩, some ⟨1, .var 23 z⟩, some ⟨1, .var 22 ys⟩, some ⟨1, .var 25 (nl ks)⟩]))) := by
  refine scan ks.length (fun i => [.ptr (.rw 0) 0, .int .i64 0, .slice true (.rw 16) 0 ks.length, .int .i64 (ks.length : Int), .int .i64 (i : Int)]) (fun i => vHp G [some ⟨1, .var 1 (encV (ptC (endL s (ks.take i)) q) (endL s (ks.take i)))⟩, some ⟨1, .row (.var 2 sl) (.lit 0)⟩, some ⟨1, .row (.var 2 sl) (.lit 1)⟩, some ⟨1, .row (.var 2 sl) (.lit 2)⟩, some ⟨1, .row (.var 2 sl) (.lit 3)⟩, some ⟨1, .row (.var 2 sl) (.lit 4)⟩, some ⟨1, .row (.var 2 sl) (.lit 5)⟩, some ⟨1, .row (.var 2 sl) (.lit 6)⟩, some ⟨1, .row (.var 2 sl) (.lit 7)⟩, some ⟨1, .row (.var 2 sl) (.lit 8)⟩, some ⟨1, .row (.var 2 sl) (.lit 9)⟩, some ⟨1, .row (.var 2 sl) (.lit 10)⟩, some ⟨1, .row (.var 2 sl) (.lit 11)⟩, some ⟨1, .row (.var 2 sl) (.lit 12)⟩, some ⟨1, .var 23 z⟩, some ⟨1, .var 22 ys⟩, some ⟨1, .var 25 (nl ks)⟩]) fun i hi => ?_
  refine dloop_ok (C := (⟨Try.prog, G, B⟩ : Ctx)) (K := Dc Try.prog [] [] [] 0) (dgood (mix G B) (by kernel_rfl) .nil .nil) (fuel := 300) (n0 := 40) (m := 14) (c := loopN Try.f27 1)
    (vs := [.ptr (.rw 0) (.lit 0), .int .i64 (.lit 0), .slice true (.rw 16) (.lit 0) (.var 6 ks.length), .int .i64 (.ofN (.var 6 ks.length)), .int .i64 (.ofN (.var 8 i))]) (H := [some ⟨1, .var 1 (encV (ptC (endL s (ks.take i)) q) (endL s (ks.take i)))⟩, some ⟨1, .row (.var 2 sl) (.lit 0)⟩, some ⟨1, .row (.var 2 sl) (.lit 1)⟩, some ⟨1, .row (.var 2 sl) (.lit 2)⟩, some ⟨1, .row (.var 2 sl) (.lit 3)⟩, some ⟨1, .row (.var 2 sl) (.lit 4)⟩, some ⟨1, .row (.var 2 sl) (.lit 5)⟩, some ⟨1, .row (.var 2 sl) (.lit 6)⟩, some ⟨1, .row (.var 2 sl) (.lit 7)⟩, some ⟨1, .row (.var 2 sl) (.lit 8)⟩, some ⟨1, .row (.var 2 sl) (.lit 9)⟩, some ⟨1, .row (.var 2 sl) (.lit 10)⟩, some ⟨1, .row (.var 2 sl) (.lit 11)⟩, some ⟨1, .row (.var 2 sl) (.lit 12)⟩, some ⟨1, .var 23 z⟩, some ⟨1, .var 22 ys⟩, some ⟨1, .var 25 (nl ks)⟩]) (by simp) ?_
  rw [e_l2]
  refine ⟨fun h => ?_, fun h => ?_⟩
  · have hlt : i < ks.length := by have := of_decide_eq_true h; omega
    obtain ⟨k1, k2⟩ := nl_getI (l := ks) hlt
    have hc := hk _ (List.getElem_mem hlt)
    have e5 := V_en (p := ptC (endL s (ks.take i)) q) (s := endL s (ks.take i)) hc
    have ef := V_free (s := endL s (ks.take i)) (q := q) hc
    unfold rowT zc at ef
    rw [k2, Int.toNat_natCast, e5.2, ef, i64_in (by omega)]
    refine ⟨decide_eq_true (by omega), h, k1, decide_eq_true (by omega), decide_eq_true (by omega), e5.1, fun he => ⟨decide_eq_true (by omega), decide_eq_true (by omega), leB_iff.2 (by rw [encV_len]; omega), hlt, .inl ⟨rfl, ?_⟩⟩, fun he => ⟨hlt, .inl ⟨rfl, ?_⟩⟩⟩
    · rw [endL_step hlt, show endU (endL s (ks.take i)) ks[i] = freeX (endL s (ks.take i)) ks[i] from if_pos he]; rfl
    · rw [endL_step hlt, show endU (endL s (ks.take i)) ks[i] = endL s (ks.take i) from if_neg (by rw [he]; simp)]; rfl
  · have he : i = ks.length := by have := of_decide_eq_false h; omega
    subst he
    refine ⟨rfl, .inl ⟨by simp [wk, vVs, vV, vR, vN, vI], ?_⟩⟩
    rw [List.take_length]; rfl
def endS (s : Ptb) (n : Nat) (a : Int) : Ptb := ⟨fun j => if j = n then { s.at_ n with en := true, st := a % 256 } else s.at_ j, fun j => if j = n then some (childOf (sgD s n)) else s.sg j⟩
def endP (s : Ptb) (n : Int) (a : Int) : Ptb := parL (endS s n.toNat a) (kidT s n 13)
def endR (s : Ptb) (n : Int) (a : Int) : Int × Ptb :=
  if live s n = true then (0, if live (endP s n a) 1 = true then endP s n a else endL (endP s n a) (kidT (endP s n a) 1 13)) else (6, s)
theorem Wf.endS {s : Ptb} (h : Wf s) {n : Nat} (hn : (s.at_ n).num ≠ 0) (a : Int) : Wf (endS s n a) := by
  have h1 := h.upd (c := n) (x := { s.at_ n with en := true, st := a % 256 }) hn rfl (h.grp hn) fun e => by
    show (s.at_ n).par = 0
    rw [e]; exact h.one.2
  have h2 := h1.updS (c := n) (p := childOf (sgD s n)) (by
    show (if n = n then _ else s.at_ n).num ≠ 0
    rw [if_pos rfl]; exact hn)
  exact h2
theorem kidT_end {s : Ptb} {n : Nat} {a m : Int} : kidT (endS s n a) m 13 = kidT s m 13 := by
  unfold kidT
  refine List.filter_congr fun c _ => ?_
  unfold kidB
  show (decide (0 < (if c = n then _ else s.at_ c).num) && kidC m (if c = n then _ else s.at_ c).par) = _
  by_cases e : c = n
  · subst e; rw [if_pos rfl]
  · rw [if_neg e]
theorem Wf.parL {s : Ptb} (h : Wf s) : ∀ {l : List Nat}, (∀ c ∈ l, (s.at_ c).num ≠ 0 ∧ c ≠ 1) → Wf (parL s l) := by
  intro l
  induction l generalizing s with
  | nil => intro _; exact h
  | cons c l ih =>
    intro hl
    obtain ⟨h1, h2⟩ := hl c (by simp)
    refine ih (s := parU s c) (h.upd h1 rfl (h.grp h1) fun e => absurd e h2) fun x hx => ?_
    obtain ⟨g1, g2⟩ := hl x (by simp [hx])
    refine ⟨?_, g2⟩
    show (if x = c then _ else s.at_ x).num ≠ 0
    by_cases e : x = c
    · subst e; rw [if_pos rfl]; exact g1
    · rw [if_neg e]; exact g1
theorem Wf.endL {s : Ptb} (h : Wf s) : ∀ {l : List Nat}, (∀ c ∈ l, c ≠ 1) → Wf (endL s l) := by
  intro l
  induction l generalizing s with
  | nil => intro _; exact h
  | cons c l ih =>
    intro hl
    refine ih (s := endU s c) ?_ fun x hx => hl x (by simp [hx])
    unfold endU
    split
    · exact h.free (hl c (by simp))
    · exact h
theorem Wf.endP {s : Ptb} (h : Wf s) {n : Int} (hl : live s n = true) (a : Int) : Wf (endP s n a) := by
  have hl' := live_iff.1 hl
  refine (h.endS (n := n.toNat) (by omega) a).parL fun c hc => ?_
  have h1 := kidT_ne1 h hc
  obtain ⟨_, g2, _, _⟩ := kidT_mem hc
  refine ⟨?_, h1⟩
  show (if c = n.toNat then _ else s.at_ c).num ≠ 0
  by_cases e : c = n.toNat
  · rw [if_pos e, ← e]; show (s.at_ c).num ≠ 0; omega
  · rw [if_neg e]; omega
theorem Wf.endR {s : Ptb} (h : Wf s) (n a : Int) : Wf (endR s n a).2 := by
  unfold Go.Am.endR
  split
  · rename_i hl
    have h2 := h.endP hl a
    show Wf (if live (Go.Am.endP s n a) 1 = true then Go.Am.endP s n a else Go.Am.endL (Go.Am.endP s n a) (kidT (Go.Am.endP s n a) 1 13))
    split
    · exact h2
    · exact h2.endL fun c hc => kidT_ne1 h2 hc
  · exact h
theorem parL_sg {s : Ptb} : ∀ l : List Nat, (parL s l).sg = s.sg := by
  intro l
  induction l generalizing s with
  | nil => rfl
  | cons c l ih => exact ih (s := parU s c)
theorem endL_sg {s : Ptb} : ∀ (l : List Nat) (j : Nat) (p : Sg), (endL s l).sg j = some p → s.sg j = some p := by
  intro l
  induction l generalizing s with
  | nil => intro j p h; exact h
  | cons c l ih =>
    intro j p h
    have := ih (s := endU s c) j p h
    unfold endU at this
    split at this
    · have h2 : (if j = c then none else s.sg j) = some p := this
      split at h2
      · cases h2
      · exact h2
    · exact this
end Go.Am
