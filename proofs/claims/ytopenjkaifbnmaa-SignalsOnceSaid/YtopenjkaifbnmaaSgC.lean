/-
  What is owed of each call on sets of signals: once for the program's sets, once for the document's.
-/
import Derived.Test.YtopenjkaifbnmaaSgS
namespace Go.Am
open Crc
variable {C : Ctx} {s : Side} {enc : Sg → List AV}

theorem fin_set (hs : SideOk C.G s enc) {f : FuncId} {i : Nat} {l0 d : EL} {rest : List EV} {H : DHp} {v : EV} {p p' : Sg} (h0 : vL C.G l0 = enc p) (hi : H[i]? = some (some ⟨1, l0⟩)) (hd : vL C.G d = encP p')
    (h : ACalls C f (.ptr (.rw 0) 0 :: vVs C.G rest) [some ⟨1, enc p⟩] fun v' H' => v' = vV C.G v ∧ H'.take 1 = [some ⟨1, enc p'⟩]) (hr : bnds 0 (vVs C.G rest) = true) (hv : bnd 0 (vV C.G v) = true) (hu : vV C.G v ≠ .undef) :
    oAll C.G (DOut C f (.ptr (.rw i) (.lit 0) :: rest) H) (.one v [.set i ⟨1, s.put d⟩]) :=
  DOut.set1 hi (by rw [h0, hs.put d p' hd]; exact h) (by rw [h0]; exact hs.flat _ _) (by rw [hs.put d p' hd]; exact hs.flat _ _) hr hv hu
theorem fin_get (hs : SideOk C.G s enc) {f : FuncId} {i : Nat} {l0 : EL} {rest : List EV} {H : DHp} {v : EV} {p : Sg} (h0 : vL C.G l0 = enc p) (hi : H[i]? = some (some ⟨1, l0⟩))
    (h : ACalls C f (.ptr (.rw 0) 0 :: vVs C.G rest) [some ⟨1, enc p⟩] fun v' H' => v' = vV C.G v ∧ H'.take 1 = [some ⟨1, enc p⟩]) (hr : bnds 0 (vVs C.G rest) = true) (hv : bnd 0 (vV C.G v) = true) (hu : vV C.G v ≠ .undef) :
    oAll C.G (DOut C f (.ptr (.rw i) (.lit 0) :: rest) H) (.one v []) :=
  DOut.get1 hi (by rw [h0]; exact h) (by rw [h0]; exact hs.flat _ _) hr hv hu

/-- one block, and what is told of it -/
def Meth (C : Ctx) (f : FuncId) (enc : Sg → List AV) (p : Sg) (rest : List AV) (v : AV) (p' : Sg) : Prop :=
  ACalls C f (.ptr (.rw 0) 0 :: rest) [some ⟨1, enc p⟩] fun v' H' => v' = v ∧ H'.take 1 = [some ⟨1, enc p'⟩]
def outB (n lo hi : Int) : Bool := decide (n < lo) || decide (hi < n)
theorem outB_true {n lo hi : Int} (h : n < lo ∨ hi < n) : outB n lo hi = true := by simp [outB, h]
theorem outB_false {n lo hi : Int} (h1 : lo ≤ n) (h2 : n ≤ hi) : outB n lo hi = false := by simp [outB]; omega

def SendOk (C : Ctx) (f : FuncId) (enc : Sg → List AV) : Prop := ∀ p n, Meth C f enc p [.int .i64 n] (.int .i64 (if outB n 0 15 then 2 else 0)) (if outB n 0 15 then p else send p n)
theorem sendS_ok (hs : SideOk C.G s enc) {f : FuncId} (h : SendOk C f enc) : DSumOk C f (sendS s) := by
  refine onSet_ok hs (k := fun _ i l rest => match rest with
    | [.int .i64 n] => some (outOf n 0 15 (.one (eno 2) []) (.one (eno 0) [.set i ⟨1, s.put (.uf 1010 sendU [.agg l, .int .i64 n])⟩]))
    | _ => none) fun H i l l0 rest o p hk hl h0 hi => ?_
  split at hk
  · rename_i n
    simp at hk; subst hk
    have := h p (vI C.G n)
    refine oAll_outOf (fun hb => ?_) (fun h1 h2 => ?_)
    · rw [outB_true hb] at this
      exact fin_get hs h0 hi this (by simp [vVs, vV, bnds, bnd]) (by simp [eno, vV, bnd]) (by simp [eno, vV])
    · rw [outB_false h1 h2] at this
      exact fin_set hs h0 hi (p' := send p (vI C.G n)) (by simp only [vL, vVs, vV, hl, sendU_enc]) this (by simp [vVs, vV, bnds, bnd]) (by simp [eno, vV, bnd]) (by simp [eno, vV])
  · simp at hk

def MaskOk (C : Ctx) (f : FuncId) (enc : Sg → List AV) : Prop := ∀ p n, Meth C f enc p [.int .i64 n] (.tup [.int .i64 (u p.hd), .int .i64 0]) (mask p n)
theorem maskS_ok (hs : SideOk C.G s enc) {f : FuncId} (h : MaskOk C f enc) : DSumOk C f (maskS s) := by
  refine onSet_ok hs (k := fun _ i l rest => match rest with
    | [.int .i64 n] => some (.one (.tup [.int .i64 (.uf 1012 heldU [.agg l]), eno 0]) [.set i ⟨1, s.put (.uf 1011 maskU [.agg l, .int .i64 n])⟩])
    | _ => none) fun H i l l0 rest o p hk hl h0 hi => ?_
  split at hk
  · rename_i n
    simp at hk; subst hk
    refine fin_set hs h0 hi (p' := mask p (vI C.G n)) (by simp only [vL, vVs, vV, hl, maskU_enc]) ?_ (by simp [vVs, vV, bnds, bnd]) (by simp [eno, vV, vVs, bnd, bnds]) (by simp [vV])
    simp only [eno, vVs, vV, vI, hl, heldU_enc]
    exact h p (vI C.G n)
  · simp at hk

def HandleOk (C : Ctx) (f : FuncId) (enc : Sg → List AV) : Prop := ∀ p n a, Meth C f enc p [.int .i64 n, .int .i64 a]
  (if outB n 2 15 || outB a 0 4294967295 then .tup [.int .i64 0, .int .i64 2] else .tup [.int .i64 (u (p.at_ n.toNat)), .int .i64 0]) (if outB n 2 15 || outB a 0 4294967295 then p else handle p n a)
theorem handleS_ok (hs : SideOk C.G s enc) {f : FuncId} (h : HandleOk C f enc) : DSumOk C f (handleS s) := by
  refine onSet_ok hs (k := fun _ i l rest => match rest with
    | [.int .i64 n, .int .i64 a] => some (outOf n 2 15 (.one (.tup [eno 0, eno 2]) []) (outOf a 0 4294967295 (.one (.tup [eno 0, eno 2]) [])
      (.one (.tup [.int .i64 (.uf 1014 atU [.agg l, .int .i64 n]), eno 0]) [.set i ⟨1, s.put (.uf 1013 handleU [.agg l, .int .i64 n, .int .i64 a])⟩])))
    | _ => none) fun H i l l0 rest o p hk hl h0 hi => ?_
  split at hk
  · rename_i n a
    simp at hk; subst hk
    have := h p (vI C.G n) (vI C.G a)
    refine oAll_outOf (fun hb => ?_) (fun h1 h2 => oAll_outOf (fun hb => ?_) (fun h3 h4 => ?_))
    · rw [outB_true hb] at this
      exact fin_get hs h0 hi this (by simp [vVs, vV, bnds, bnd]) (by simp [eno, vV, vVs, bnd, bnds]) (by simp [vV])
    · rw [outB_true hb, Bool.or_true] at this
      exact fin_get hs h0 hi this (by simp [vVs, vV, bnds, bnd]) (by simp [eno, vV, vVs, bnd, bnds]) (by simp [vV])
    · rw [outB_false h1 h2, outB_false h3 h4] at this
      refine fin_set hs h0 hi (p' := handle p (vI C.G n) (vI C.G a)) (by simp only [vL, vVs, vV, hl, handleU_enc]) ?_ (by simp [vVs, vV, bnds, bnd]) (by simp [eno, vV, vVs, bnd, bnds]) (by simp [vV])
      simp only [eno, vVs, vV, vI, hl, atU_enc]
      exact this
  · simp at hk

def takenV (p : Sg) : AV := .tup [.agg [.int .i64 (tkSig p), .bool (tkEnds p), .int .u32 (tkAt p)], .bool (tkOk p)]
def TakeOk (C : Ctx) (f : FuncId) (enc : Sg → List AV) : Prop := ∀ p, Meth C f enc p [] (takenV p) (tkP p)
theorem takeS_ok (hs : SideOk C.G s enc) {f : FuncId} (h : TakeOk C f enc) : DSumOk C f (takeS s) := by
  refine onSet_ok hs (k := fun _ i l rest => match rest with
    | [] => some (.one (.tup [.agg (.of [.int .i64 (.uf 1016 tkSigU [.agg l]), .bool (.uf 1017 tkEndsU [.agg l]), .int .u32 (.uf 1018 tkAtU [.agg l])]), .bool (.uf 1019 tkOkU [.agg l])]) [.set i ⟨1, s.put (.uf 1015 tkU [.agg l])⟩])
    | _ => none) fun H i l l0 rest o p hk hl h0 hi => ?_
  split at hk
  · simp at hk; subst hk
    refine fin_set hs h0 hi (p' := tkP p) (by simp only [vL, vVs, vV, hl, tkU_enc]) ?_ (by simp [vVs, bnds]) (by simp [vV, vVs, vL, bnd, bnds]) (by simp [vV])
    simp only [vVs, vV, vL, vI, vB, hl, tkSigU_enc, tkEndsU_enc, tkAtU_enc, tkOkU_enc]
    exact h p
  · simp at hk

def HeldOk (C : Ctx) (f : FuncId) (enc : Sg → List AV) : Prop := ∀ p, Meth C f enc p [] (.int .i64 (u p.hd)) p
theorem heldS_ok (hs : SideOk C.G s enc) {f : FuncId} (h : HeldOk C f enc) : DSumOk C f (heldS s) := by
  refine onSet_ok hs (k := fun _ _ l rest => match rest with
    | [] => some (.one (.int .i64 (.uf 1012 heldU [.agg l])) [])
    | _ => none) fun H i l l0 rest o p hk hl h0 hi => ?_
  split at hk
  · simp at hk; subst hk
    refine fin_get hs h0 hi ?_ (by simp [vVs, bnds]) (by simp [vV, bnd]) (by simp [vV])
    simp only [vVs, vV, vI, hl, heldU_enc]
    exact h p
  · simp at hk

def HandlerOk (C : Ctx) (f : FuncId) (enc : Sg → List AV) : Prop := ∀ p n, Meth C f enc p [.int .i64 n] (if outB n 1 15 then .tup [.int .u32 0, .bool false] else .tup [.int .u32 (u (p.at_ n.toNat)), .bool true]) p
theorem handlerS_ok (hs : SideOk C.G s enc) {f : FuncId} (h : HandlerOk C f enc) : DSumOk C f (handlerS s) := by
  refine onSet_ok hs (k := fun _ _ l rest => match rest with
    | [.int .i64 n] => some (outOf n 1 15 (.one (.tup [.int .u32 (.lit 0), .bool (.lit false)]) []) (.one (.tup [.int .u32 (.uf 1014 atU [.agg l, .int .i64 n]), .bool (.lit true)]) []))
    | _ => none) fun H i l l0 rest o p hk hl h0 hi => ?_
  split at hk
  · rename_i n
    simp at hk; subst hk
    have := h p (vI C.G n)
    refine oAll_outOf (fun hb => ?_) (fun h1 h2 => ?_)
    · rw [outB_true hb] at this
      exact fin_get hs h0 hi this (by simp [vVs, vV, bnds, bnd]) (by simp [vV, vVs, bnd, bnds]) (by simp [vV])
    · rw [outB_false h1 h2] at this
      refine fin_get hs h0 hi ?_ (by simp [vVs, vV, bnds, bnd]) (by simp [vV, vVs, bnd, bnds]) (by simp [vV])
      simp only [vVs, vV, vI, vB, hl, atU_enc]
      exact this
  · simp at hk

def WaitsOk (C : Ctx) (f : FuncId) (enc : Sg → List AV) : Prop := ∀ p n, Meth C f enc p [.int .i64 n] (.bool (!(outB n 1 15) && waitsB p n)) p
theorem waitsS_ok (hs : SideOk C.G s enc) {f : FuncId} (h : WaitsOk C f enc) : DSumOk C f (waitsS s) := by
  refine onSet_ok hs (k := fun _ _ l rest => match rest with
    | [.int .i64 n] => some (outOf n 1 15 (.one (.bool (.lit false)) []) (.one (.bool (.uf 1022 waitsU [.agg l, .int .i64 n])) []))
    | _ => none) fun H i l l0 rest o p hk hl h0 hi => ?_
  split at hk
  · rename_i n
    simp at hk; subst hk
    have := h p (vI C.G n)
    refine oAll_outOf (fun hb => ?_) (fun h1 h2 => ?_)
    · rw [outB_true hb] at this
      exact fin_get hs h0 hi this (by simp [vVs, vV, bnds, bnd]) (by simp [vV, bnd]) (by simp [vV])
    · rw [outB_false h1 h2] at this
      refine fin_get hs h0 hi ?_ (by simp [vVs, vV, bnds, bnd]) (by simp [vV, bnd]) (by simp [vV])
      simp only [vVs, vV, vB, hl, waitsU_enc]
      exact this
  · simp at hk

/-- it answers a new block -/
def NewOk (C : Ctx) (f : FuncId) (enc : Sg → List AV) (v : Sg → AV) (cs : Sg → List AV) : Prop := ∀ p, ACalls C f [.ptr (.rw 0) 0] [some ⟨1, enc p⟩] fun v' H' => v' = v p ∧ H' = [some ⟨1, enc p⟩, some ⟨1, cs p⟩]
theorem pendS_ok (hs : SideOk C.G s enc) {f : FuncId} (h : NewOk C f enc (fun p => .slice true (.rw 1) 0 (pend p.wt).length) fun p => nl (pend p.wt)) : DSumOk C f (pendS s) := by
  refine onSet_ok hs (k := fun H _ l rest => match rest with
    | [] => some (.one (.slice true (.rw H.length) (.lit 0) (.uf 1021 pendNU [.agg l])) [.new ⟨1, .uf 1020 pendU [.agg l]⟩])
    | _ => none) fun H i l l0 rest o p hk hl h0 hi => ?_
  split at hk
  · simp at hk; subst hk
    have e1 : vL C.G (.uf 1020 pendU [.agg l]) = nl (pend p.wt) := by simp only [vL, vVs, vV, hl, pendU_enc]
    refine DOut.new1 hi (v0 := .slice true (.rw 1) 0 (pend p.wt).length) ?_ (by rw [h0]; exact hs.flat _ _) (by rw [e1]; exact nl_flat _ _) (by simp [vVs, bnds]) (by simp [bnd]) (by simp only [vV, vR, vN, vVs, hl, pendNU_enc]; simp [ren])
    simp only [vVs, h0, e1]
    exact h p
  · simp at hk
theorem copyS_ok (hs : SideOk C.G s enc) {f : FuncId} (h : NewOk C f enc (fun _ => .ptr (.rw 1) 0) enc) : DSumOk C f (copyS s) := by
  refine onSet_ok hs (k := fun H _ l rest => match rest with
    | [] => some (.one (.ptr (.rw H.length) (.lit 0)) [.new ⟨1, s.put l⟩])
    | _ => none) fun H i l l0 rest o p hk hl h0 hi => ?_
  split at hk
  · simp at hk; subst hk
    have e1 := hs.put l p hl
    refine DOut.new1 hi (v0 := .ptr (.rw 1) 0) ?_ (by rw [h0]; exact hs.flat _ _) (by rw [e1]; exact hs.flat _ _) (by simp [vVs, bnds]) (by simp [bnd]) (by simp only [vV, vR, vN]; simp [ren])
    simp only [vVs, h0, e1]
    exact h p
  · simp at hk
theorem childS_ok (hs : SideOk C.G s enc) {f : FuncId} (h : NewOk C f enc (fun _ => .ptr (.rw 1) 0) fun p => enc (setW p 0#32)) : DSumOk C f (childS s) := by
  refine onSet_ok hs (k := fun H _ l rest => match rest with
    | [] => some (.one (.ptr (.rw H.length) (.lit 0)) [.new ⟨1, s.put (.uf 1023 childU [.agg l])⟩])
    | _ => none) fun H i l l0 rest o p hk hl h0 hi => ?_
  split at hk
  · simp at hk; subst hk
    have e1 := hs.put (.uf 1023 childU [.agg l]) (setW p 0#32) (by simp only [vL, vVs, vV, hl, childU_enc])
    refine DOut.new1 hi (v0 := .ptr (.rw 1) 0) ?_ (by rw [h0]; exact hs.flat _ _) (by rw [e1]; exact hs.flat _ _) (by simp [vVs, bnds]) (by simp [bnd]) (by simp only [vV, vR, vN]; simp [ren])
    simp only [vVs, h0, e1]
    exact h p
  · simp at hk

theorem Meth.of {K : DCfg} {fuel n0 : Nat} {f : FuncId} {fn : Func} {p p' : Sg} {rest : List EV} {v : AV} (hK : DGood C K (loopsOf (bodyOf fn))) (hf : C.P.funcs[f]? = some fn) (hb : fn.body = some (bodyOf fn)) (hn : (fn.name == "runtime.NumGoroutine") = false)
    (h : vT C.G (fun _ _ _ => False) (fun v' H' => v' = v ∧ H' = [some ⟨1, enc p'⟩]) (dcall K fuel n0 fn (.ptr (.rw 0) (.lit 0) :: rest) [some ⟨1, .var 1 (enc p)⟩] 1)) : Meth C f enc p (vVs C.G rest) v p' := by
  have := dcall_ok hK hf hb hn h
  simp only [vVs, vV, vR, vN, vHp, List.map_cons, List.map_nil, Option.map_some, vBlk, vL] at this
  exact this
theorem New.of {K : DCfg} {fuel n0 : Nat} {f : FuncId} {fn : Func} {p : Sg} {v : AV} {cs : List AV} (hK : DGood C K (loopsOf (bodyOf fn))) (hf : C.P.funcs[f]? = some fn) (hb : fn.body = some (bodyOf fn)) (hn : (fn.name == "runtime.NumGoroutine") = false)
    (he : bnds 2 (enc p) = true) (hc : bnds 2 cs = true) (hv : bnd 2 v = true) (hu : v ≠ .undef)
    (h : vT C.G (fun _ _ _ => False) (fun v' H' => v' = v ∧ H' = [some ⟨1, enc p⟩, some ⟨1, cs⟩]) (dcall K fuel n0 fn [.ptr (.rw 0) (.lit 0)] [some ⟨1, .var 1 (enc p)⟩] 2)) : ACalls C f [.ptr (.rw 0) 0] [some ⟨1, enc p⟩] fun v' H' => v' = v ∧ H' = [some ⟨1, enc p⟩, some ⟨1, cs⟩] := by
  have := dcall_ok hK hf hb hn h
  simp only [vVs, vV, vR, vN, vHp, List.map_cons, List.map_nil, Option.map_some, vBlk, vL] at this
  exact this.keep (by simp) (by simp [hpB, he, hc]) (by simpa using hv) hu
theorem Meth.ofR {K : DCfg} {fuel n0 : Nat} {f : FuncId} {fn : Func} {p p' : Sg} {rest : List EV} {v : AV} (hK : DGood C K (loopsOf (bodyOf fn))) (hf : C.P.funcs[f]? = some fn) (hb : fn.body = some (bodyOf fn)) (hn : (fn.name == "runtime.NumGoroutine") = false)
    (h : vT C.G (fun _ _ _ => False) (fun v' H' => v' = v ∧ H' = [some ⟨1, encR p'⟩]) (dcall K fuel n0 fn (.ptr (.rw 0) (.lit 0) :: rest) [some ⟨1, .uf 1002 encRU [.agg (.var 1 (encP p))]⟩] 1)) : Meth C f encR p (vVs C.G rest) v p' := by
  have := dcall_ok hK hf hb hn h
  simp only [vVs, vV, vR, vN, vHp, List.map_cons, List.map_nil, Option.map_some, vBlk, vL, encRU_enc] at this
  exact this
theorem New.ofR {K : DCfg} {fuel n0 : Nat} {f : FuncId} {fn : Func} {p : Sg} {v : AV} {cs : List AV} (hK : DGood C K (loopsOf (bodyOf fn))) (hf : C.P.funcs[f]? = some fn) (hb : fn.body = some (bodyOf fn)) (hn : (fn.name == "runtime.NumGoroutine") = false)
    (hc : bnds 2 cs = true) (hv : bnd 2 v = true) (hu : v ≠ .undef)
    (h : vT C.G (fun _ _ _ => False) (fun v' H' => v' = v ∧ H' = [some ⟨1, encR p⟩, some ⟨1, cs⟩]) (dcall K fuel n0 fn [.ptr (.rw 0) (.lit 0)] [some ⟨1, .uf 1002 encRU [.agg (.var 1 (encP p))]⟩] 2)) : ACalls C f [.ptr (.rw 0) 0] [some ⟨1, encR p⟩] fun v' H' => v' = v ∧ H' = [some ⟨1, encR p⟩, some ⟨1, cs⟩] := by
  have := dcall_ok hK hf hb hn h
  simp only [vVs, vV, vR, vN, vHp, List.map_cons, List.map_nil, Option.map_some, vBlk, vL, encRU_enc] at this
  exact this.keep (by simp) (by simp [hpB, encR_flat, hc]) (by simpa using hv) hu
end Go.Am
