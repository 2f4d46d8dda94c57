/-
  Functions that are called in a heap: loops with blocks that stay where they are.
-/
import Derived.Test.YtopenjkaifbnmaaAmLaw
namespace Go.Am
open Go.RowKit

def KiM (C : Ctx) (l : List Nat) (sum : Sums) (loop : Loops) (M : Nat) : Cfg := { C := C, inl := has l, strict := .lazy, unr := false, nm := true, nl := true, sum := sum, loop := loop, M := M }
def LoopOkM (C : Ctx) (M : Nat) (c : Code) (l : Loops) : Prop := ∀ m F H e F' H', m ≤ M → l c F H = some (true, e, F', H') → AWp C m (.loop c) F H fun e' F'' H'' => e' = e ∧ F'' = F' ∧ H'' = H'
def LoopsOkM (C : Ctx) (M : Nat) (cs : List Code) (l : Loops) : Prop := ∀ m c F H e F' H', m ≤ M → c ∈ cs → l c F H = some (true, e, F', H') → AWp C m (.loop c) F H fun e' F'' H'' => e' = e ∧ F'' = F' ∧ H'' = H'
section
variable {C : Ctx} {M : Nat} {sum : Sums} {loop : Loops} {l : List Nat}
theorem LoopsOkM.nil : LoopsOkM C M [] loop := fun m c F H e F' H' _ h => by simp at h
theorem LoopsOkM.cons {c : Code} {cs : List Code} (h1 : LoopOkM C M c loop) (h2 : LoopsOkM C M cs loop) : LoopsOkM C M (c :: cs) loop := by
  intro m c' F H e F' H' hm h h'
  rcases List.mem_cons.1 h with rfl | h
  · exact h1 m F H e F' H' hm h'
  · exact h2 m c' F H e F' H' hm h h'
theorem LoopsOkM.cast {cs ds : List Code} (h : LoopsOkM C M ds loop) (e : cs = ds) : LoopsOkM C M cs loop := by rw [e]; exact h
theorem LoopOkM.left {c : Code} {e : Nat} {a b : Loops} (he : exOf c = some e) (h : LoopOkM C M c a) : LoopOkM C M c (lps e a b) := by
  intro m F H e' F' H' hm h'
  simp only [lps, he, Nat.beq_refl] at h'
  exact h m F H e' F' H' hm h'
theorem LoopOkM.right {c : Code} {e i : Nat} {a b : Loops} (he : exOf c = some i) (hi : Nat.beq i e = false) (h : LoopOkM C M c b) : LoopOkM C M c (lps e a b) := by
  intro m F H e' F' H' hm h'
  simp only [lps, he, hi] at h'
  exact h m F H e' F' H' hm h'
theorem ls_okM {c : Code} {N : Nat} {live : List Nat} {S : List AV → Hp → Option (Bool × Ex × List AV × Hp)}
    (hS : ∀ m vs H e vs' H', m ≤ M → S vs H = some (true, e, vs', H') → AWp C m (.loop c) (fl N live vs) H (lv N live fun e' vs'' H'' => e' = e ∧ wk vs' vs'' ∧ H'' = H')) : LoopOkM C M c (fun _ F H => lsum N live S F H) :=
  fun m _ _ _ _ _ hm h => lsum_sound (fun vs H e vs' H' hs => hS m vs H e vs' H' hm hs) h
theorem goodM {lps : List Code} (hm : C.P.follows .mixedOrders = true) (hs : SumsOk C sum) (hl : LoopsOkM C M lps loop) : Good (KiM C l sum loop M) lps := ⟨hm, hs, hl⟩
theorem wpM (hm : C.P.follows .mixedOrders = true) (hp : plainFs C.P l = true) (hs : SumsOk C sum) {c : Code} (hl : LoopsOkM C M (loopsOf c) loop) (n : Nat) {m : Nat} {F : Fr} {H : Hp} {Q : Post} (hH : m ≤ H.length) (h : vc (KiM C l sum loop M) n m (.code c) F H Q) : AWp C m c F H Q :=
  wp_of_vc (K := KiM C l sum loop M) (goodM hm hs hl) (fun _ => plain_inl hp) n hH (fun _ _ h => h) h
theorem callM (hm : C.P.follows .mixedOrders = true) (hp : plainFs C.P l = true) (hs : SumsOk C sum) {f : FuncId} {fn : Func} {c : Code} (hf : C.P.funcs[f]? = some fn) (hb : fn.body = some c) (hn : (fn.name == "runtime.NumGoroutine") = false)
    (hl : LoopsOkM C M (loopsOf c) loop) (n : Nat) {args : List AV} {H : Hp} {Q : AV → Hp → Prop} (h : vc (KiM C l sum loop M) n H.length (.code c) (frame0 fn args) H (retK C fn Q)) : ACalls C f args H Q :=
  call_of_vc (K := KiM C l sum loop M) (goodM hm hs hl) (fun _ => plain_inl hp) n hf hb hn (fun _ _ h => h) h

theorem noLoopM (C : Ctx) (M : Nat) (cs : List Code) : LoopsOkM C M cs noLoop := fun _ _ _ _ _ _ _ _ _ h => by simp [noLoop] at h

/-- a call that writes one block of its own: in every heap that has it -/
theorem one_block {f : FuncId} {e : Nat} {cs cs' : List AV} {rest : List AV} {v : AV} (h : ACalls C f (.ptr (.rw 0) 0 :: rest) [some ⟨e, cs⟩] fun v' H' => v' = v ∧ H' = [some ⟨e, cs'⟩])
    (hc : bnds 0 cs = true) (hc' : bnds 0 cs' = true) (hr : bnds 0 rest = true) (hv : bnd 0 v = true) {H : Hp} {i : Nat} (hi : H[i]? = some (some ⟨e, cs⟩)) :
    ACalls C f (.ptr (.rw i) 0 :: rest) H fun v' H' => v' = v ∧ H' = H.set i (some ⟨e, cs'⟩) := by
  have hlt : i < H.length := (List.getElem?_eq_some_iff.1 hi).1
  have key := frame_call h [i] rfl (by simp) (fun j b hj => by
    cases j with
    | zero =>
      simp at hj; subst hj
      refine ⟨_, rfl, bnds_mono (Nat.zero_le _) _ hc, ?_⟩
      simp only [renB, rens_flat _ _ hc]
      simpa using hi
    | succ j => simp at hj) (H := H) (by simp only [bnds, bnd, Bool.and_eq_true]; exact ⟨by simp, bnds_mono (Nat.zero_le _) _ hr⟩) (fun v0 H0' hk => by
    obtain ⟨rfl, rfl⟩ := hk
    refine ⟨Nat.le_refl _, bnd_mono (Nat.zero_le _) _ hv, fun j b hj => ?_⟩
    cases j with
    | zero => simp at hj; subst hj; exact bnds_mono (Nat.zero_le _) _ hc'
    | succ j => simp at hj)
  have ea : rens [i] (.ptr (.rw 0) 0 :: rest) = .ptr (.rw i) 0 :: rest := by
    simp only [rens, ren, rens_flat _ _ hr]; rfl
  rw [ea] at key
  refine key.monoK ?_
  rintro v' H' ⟨v0, H0', ⟨rfl, rfl⟩, rfl, rfl⟩
  refine ⟨ren_flat _ _ hv, ?_⟩
  simp only [merge, wide, lay, renO, renB, List.length_cons, List.length_nil, Nat.zero_add, Nat.sub_self, List.range_zero, List.map_nil, List.append_nil, List.drop_succ_cons, List.drop_nil, Option.map_some, rens_flat _ _ hc', List.drop_zero, List.take_succ_cons, List.take_nil]
end

/-- an empty new row, for nil -/
theorem ACalls.nilNew {C : Ctx} {f : FuncId} {args : List AV} {H : Hp} (e : Nat) (h : ACalls C f args H fun v H' => v = .nils ∧ H' = H) : ACalls C f args H fun v H' => v = .slice true (.rw H.length) 0 0 ∧ H' = H ++ [some ⟨e, []⟩] := by
  refine ⟨h.1, fun ρ w cargs hH hv => (h.2 ρ w cargs hH hv).mono ?_⟩
  rintro ex w' ⟨v, cv, ρ', H', rfl, ⟨rfl, rfl⟩, h3, h4, h5, h6⟩
  have hl := h4.len
  have low : ∀ i, i < H'.length → (ρ'.push none).rw[i]? = ρ'.rw[i]? := fun i hi => by simp [Env.push, List.getElem?_append_left (show i < ρ'.rw.length by omega)]
  have none' : ∀ (i : Nat) x, (ρ'.push none).rw[i]? = some (some x) → ρ'.rw[i]? = some (some x) := fun i x hx => by
    rcases push_get ρ' none i _ hx with ⟨_, h⟩ | ⟨_, h⟩
    · exact h
    · simp at h
  have hget : ∀ (i : Nat) b, (H' ++ [some (⟨e, []⟩ : Blk)])[i]? = some (some b) → (i < H'.length ∧ H'[i]? = some (some b)) ∨ (i = H'.length ∧ b = ⟨e, []⟩) := fun i b hb => by
    by_cases hi : i < H'.length
    · rw [List.getElem?_append_left hi] at hb; exact .inl ⟨hi, hb⟩
    · rw [List.getElem?_append_right (by omega)] at hb
      have : i = H'.length := by have := (List.getElem?_eq_some_iff.1 hb).1; simp at this; omega
      subst this
      simp at hb; exact .inr ⟨rfl, hb.symm⟩
  refine ⟨.slice true (.rw H'.length) 0 0, cv, ρ'.push none, H' ++ [some ⟨e, []⟩], rfl, ⟨rfl, rfl⟩, Env.le_trans h3 (Env.le_push ρ' none), ?_, ?_, ?_⟩
  · refine ⟨by simp [Env.push, hl], h4.base, fun i x hx => h4.ents i x (none' i x hx), fun i b hb => ?_, fun i j b b' x x' q1 q2 q3 q4 q5 => ?_, fun i k v hv => h4.ro i k v hv⟩
    · rcases hget i b hb with ⟨hi, hb⟩ | ⟨rfl, rfl⟩
      · rw [low i hi]
        exact (h4.live i b hb).mono (Env.le_push ρ' none) fun _ _ => rfl
      · have : (ρ'.push none).rw[H'.length]? = some none := by simp [Env.push, ← hl]
        rw [this]
        rfl
    · have r3 := none' i x q3
      have r4 := none' j x' q4
      have l3 : i < H'.length := by rw [← hl]; exact (List.getElem?_eq_some_iff.1 r3).1
      have l4 : j < H'.length := by rw [← hl]; exact (List.getElem?_eq_some_iff.1 r4).1
      rw [List.getElem?_append_left l3] at q1
      rw [List.getElem?_append_left l4] at q2
      exact h4.inj i j b b' x x' q1 q2 r3 r4 q5
  · simp only [VR] at h5 ⊢
    subst h5
    exact ⟨none, 0, rfl, Nat.le_refl _, .inl ⟨rfl, rfl, rfl⟩⟩
  · exact ⟨h6.os, h6.tape, h6.output, h6.size, h6.keep, fun i x hx => h6.news i x (none' i x hx), h6.ro⟩
end Go.Am
