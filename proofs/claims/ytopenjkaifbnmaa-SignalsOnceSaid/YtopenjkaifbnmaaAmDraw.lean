/-
  A region that draws its order: whatever the order, it comes out as in the text's.
-/
import Derived.Test.YtopenjkaifbnmaaAmSound
namespace Go.Am
open Go.RowKit

/-! ### congruence -/

theorem ev_congr {F F' : Fr} {x : Operand} (h : ∀ t, x = .tmp t → F'.getD t .undef = F.getD t .undef) : ev F' x = ev F x := by
  cases x with
  | tmp t => exact h t rfl
  | const v => rfl
  | global g => rfl
  | func f => rfl

/-- two frames agree on an operation's operands -/
def AgOp (op : Op) (F F' : Fr) : Prop := ∀ x ∈ op.operands.toList, ev F' x = ev F x

theorem pure_congr {P : Program} {F F' : Fr} {op : Op} (h : AgOp op F F') : pureOp P F' op = pureOp P F op := by
  unfold AgOp at h
  cases op with
  | move x => simp only [pureOp, h x (by simp [Op.operands])]
  | assign x => simp only [pureOp, h x (by simp [Op.operands])]
  | pick c a b => simp only [pureOp, h c (by simp [Op.operands]), h a (by simp [Op.operands]), h b (by simp [Op.operands])]
  | nilCheck x => simp only [pureOp, h x (by simp [Op.operands])]
  | binOp op t x y ty => simp only [pureOp, h x (by simp [Op.operands]), h y (by simp [Op.operands])]
  | unOp op t x => simp only [pureOp, h x (by simp [Op.operands])]
  | convert s d x => simp only [pureOp, h x (by simp [Op.operands])]
  | fieldAddr s x f => simp only [pureOp, h x (by simp [Op.operands])]
  | indexAddr t x i => simp only [pureOp, h x (by simp [Op.operands]), h i (by simp [Op.operands])]
  | slice t x lo hi mx =>
    cases mx with
    | some m => rfl
    | none =>
      have hx := h x (by simp [Op.operands])
      have hlo : lo.map (ev F') = lo.map (ev F) := by
        cases lo with
        | none => rfl
        | some l => simp [h l (by simp [Op.operands])]
      have hhi : hi.map (ev F') = hi.map (ev F) := by
        cases hi with
        | none => rfl
        | some l => simp [h l (by simp [Op.operands])]
      simp only [pureOp, hx, hlo, hhi]
  | build t parts =>
    have : parts.toList.map (fun p => (p.1, ev F' p.2)) = parts.toList.map (fun p => (p.1, ev F p.2)) := List.map_congr_left fun p hp => by
      rw [h p.2 (by simp only [Op.operands]; simp; exact ⟨p.1, by simpa using hp⟩)]
    simp only [pureOp, this]
  | extract x i => simp only [pureOp, h x (by simp [Op.operands])]
  | makeFunc fn first cap =>
    cases fn with
    | func f =>
      have : cap.toList.map (ev F') = cap.toList.map (ev F) := List.map_congr_left fun x hx => h x (by simp [Op.operands]; exact .inr (by simpa using hx))
      simp only [pureOp, this]
    | _ => rfl
  | call c =>
    obtain ⟨callee, args, ats⟩ := c
    have hx : ∀ x ∈ args.toList, ev F' x = ev F x := fun x hx => h x (by simp [Op.operands, Call.operands]; exact .inr (by simpa using hx))
    cases callee with
    | value f => rfl
    | invoke r n => rfl
    | builtin b =>
      cases b <;> try rfl
      · simp only [pureOp]
        split
        · rename_i x t e1 e2; rw [hx x (by rw [e1]; simp)]
        · rfl
      · simp only [pureOp]
        split
        · rename_i x y e1; rw [hx x (by rw [e1]; simp), hx y (by rw [e1]; simp)]
        · rfl
      · simp only [pureOp]
        split
        · rename_i x y e1; rw [hx x (by rw [e1]; simp), hx y (by rw [e1]; simp)]
        · rfl
  | _ => rfl

theorem sees_congr {F F' : Fr} {op : Op} (h : AgOp op F F') : seesOp F' op = seesOp F op := by
  unfold AgOp at h
  cases op with
  | load t a => simp only [seesOp, h a (by simp [Op.operands])]
  | convert s d x => simp only [seesOp, h x (by simp [Op.operands])]
  | _ => rfl

theorem read_congr {C : Ctx} {F F' : Fr} {H H' : Hp} {op : Op} (h : AgOp op F F') (hc : ∀ r, seesOp F op = some r → cellsAt C H' r = cellsAt C H r) : readOp C F' H' op = readOp C F H op := by
  unfold AgOp at h
  cases op with
  | load t a =>
    simp only [readOp, seesOp, h a (by simp [Op.operands])] at *
    split
    · rename_i r off he
      simp only [loadA, hc r (by simp [he])]
    · rfl
  | field t x f => simp only [readOp, h x (by simp [Op.operands])]
  | index t x i => simp only [readOp, h x (by simp [Op.operands]), h i (by simp [Op.operands])]
  | convert s d x =>
    simp only [readOp, seesOp, h x (by simp [Op.operands])] at *
    split
    · rfl
    · rename_i mb r off n _ he
      simp only [hc r (by simp [he])]
    · rfl
  | _ => rfl

theorem write_congr {C : Ctx} {F F' : Fr} {H : Hp} {op : Op} (h : AgOp op F F') : writeOp C F' H op = writeOp C F H op := by
  unfold AgOp at h
  cases op with
  | store t a x => simp only [writeOp, h a (by simp [Op.operands]), h x (by simp [Op.operands])]
  | box e x => simp only [writeOp, h x (by simp [Op.operands])]
  | buildSlice t n parts =>
    have : parts.toList.map (fun p => (p.1, ev F' p.2)) = parts.toList.map (fun p => (p.1, ev F p.2)) := List.map_congr_left fun p hp => by
      rw [h p.2 (by simp only [Op.operands]; simp; exact ⟨p.1, by simpa using hp⟩)]
    simp only [writeOp, this]
  | makeSlice t l c => simp only [writeOp, h l (by simp [Op.operands]), h c (by simp [Op.operands])]
  | convert s d x => simp only [writeOp, h x (by simp [Op.operands])]
  | call c =>
    obtain ⟨callee, args, ats⟩ := c
    have hx : ∀ x ∈ args.toList, ev F' x = ev F x := fun x hx => h x (by simp [Op.operands, Call.operands]; exact .inr (by simpa using hx))
    cases callee with
    | value f => rfl
    | invoke r n => rfl
    | builtin b =>
      cases b <;> try rfl
      simp only [writeOp]
      split
      · rename_i s x t u e1 e2
        rw [hx s (by rw [e1]; simp), hx x (by rw [e1]; simp)]
      · rfl
  | _ => rfl

theorem call_congr {F F' : Fr} {op : Op} (h : AgOp op F F') : callOp F' op = callOp F op := by
  unfold AgOp at h
  cases op with
  | call c =>
    obtain ⟨callee, args, ats⟩ := c
    have hx : ∀ x ∈ args.toList, ev F' x = ev F x := fun x hx => h x (by simp [Op.operands, Call.operands]; exact .inr (by simpa using hx))
    cases callee with
    | value f =>
      have hf := h f (by simp [Op.operands, Call.operands])
      have : args.toList.map (ev F') = args.toList.map (ev F) := List.map_congr_left hx
      simp only [callOp, hf, this]
    | _ => rfl
  | _ => rfl

theorem looks_ag {all : List Oper} {o : Oper} {F F' : Fr} (h : ∀ t ∈ looks all o, F'.getD t .undef = F.getD t .undef) : AgOp o.op F F' := fun x hx => ev_congr fun t ht => by
  subst ht
  refine h t ?_
  unfold looks
  exact List.mem_append.2 (.inl (List.mem_filterMap.2 ⟨.tmp t, hx, rfl⟩))

theorem want_congr {all : List Oper} {o : Oper} {F F' : Fr} (h : ∀ t ∈ looks all o, F'.getD t .undef = F.getD t .undef) : wantA all o.guard F' = wantA all o.guard F := by
  unfold wantA
  split
  · rfl
  · rename_i j want hg
    split
    · rename_i t ht
      rw [h t ?_]
      unfold looks
      refine List.mem_append.2 (.inr ?_)
      simp only [hg, ht]
      simp
    · rfl

theorem St.heap {K : Cfg} {all : List Oper} {o : Oper} {F : Fr} {H H' : Hp} {tr : Tr} {v : AV} (h : St K all o F H tr v H') : H' = acts H tr.hs ∧ tr.len = H.length ∧ (tr.hs = [] ∨ tr.kd = .write) := by
  cases h with
  | skip hw => exact ⟨rfl, rfl, .inl rfl⟩
  | pure hw hk h => exact ⟨rfl, rfl, .inl rfl⟩
  | read hw hk h => exact ⟨rfl, rfl, .inl rfl⟩
  | write hw hk h => exact ⟨rfl, rfl, .inr rfl⟩
  | call hw hk h hs' => exact ⟨rfl, rfl, .inr rfl⟩

theorem St.move {K : Cfg} {all : List Oper} {o : Oper} {F F' : Fr} {H H2 H' : Hp} {tr : Tr} {v : AV} (h : St K all o F H tr v H') (ha : ∀ t ∈ looks all o, F'.getD t .undef = F.getD t .undef)
    (hw : tr.kd = .write → H2 = H) (hr : ∀ r, tr.kd = .read r → cellsAt K.C H2 r = cellsAt K.C H r) : ∃ tr', St K all o F' H2 tr' v (acts H2 tr.hs) := by
  have ag := looks_ag ha
  have wn := want_congr ha
  cases h with
  | skip h1 => exact ⟨_, .skip (wn.trans h1)⟩
  | pure h1 hk h => exact ⟨_, .pure (wn.trans h1) hk ((pure_congr ag).trans h)⟩
  | read h1 hk h =>
    refine ⟨_, .read (wn.trans h1) hk ((read_congr ag fun r hs => hr r ?_).trans h)⟩
    simp only [hs]
  | write h1 hk h =>
    have := hw rfl
    subst this
    exact ⟨_, .write (wn.trans h1) hk ((write_congr ag).trans h)⟩
  | call h1 hk h hs' =>
    have := hw rfl
    subst this
    exact ⟨_, .call (wn.trans h1) hk ((call_congr ag).trans h) hs'⟩

end Go.Am
