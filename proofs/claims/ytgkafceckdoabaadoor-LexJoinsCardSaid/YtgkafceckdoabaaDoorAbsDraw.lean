/-
  A region that draws its order: one walk in the order of the text serves every order, where what is not ordered does not meet.
-/
import Derived.Test.YtgkafceckdoabaaDoorAbsRun
set_option linter.all false
namespace Go.Ab
open Go.RowKit

def wrOf (ρ : Operand → AV) : Op → List Nat
  | .store _ d _ => (ρ d).ids
  | .call c => match c.callee, c.args.toList with
    | .builtin .append, s :: _ => (ρ s).ids
    | _, _ => []
  | .mapUpdate _ m _ _ => (ρ m).ids
  | _ => []

/-- The rows that an operation may read. -/
def rdOf (ρ : Operand → AV) : Op → List Nat
  | .load _ x => (ρ x).ids
  | .indexAddr _ x _ => (ρ x).ids
  | .lookup _ m _ _ => (ρ m).ids
  | .call c => tch ρ (.call c)
  | _ => []

def isEff : Op → Bool
  | .alloc _ | .box .. | .buildSlice .. | .makeSlice .. | .store .. | .makeMap .. | .mapUpdate .. => true
  | .call c => match c.callee with
    | .builtin .append => true
    | _ => false
  | _ => false

section
variable {P : Program}

theorem mem_tch {ρ : Operand → AV} {op : Op} {x : Operand} (hx : x ∈ op.operands) {id : Nat} (hi : id ∈ (ρ x).ids) : id ∈ tch ρ op := List.mem_flatMap.2 ⟨x, by simpa using hx, hi⟩

theorem loadA_congr {T : TK} {H H' : List Cell} {x : AV} (h : ∀ id ∈ x.ids, H'[id]? = H[id]?) : loadA T H' x = loadA T H x := by
  unfold loadA
  split
  · rfl
  · rename_i id k i off; rw [h id (by simp [AV.ids])]
  · rfl

theorem lenA_congr {k : K} {H H' : List Cell} {x : AV} (h : ∀ id ∈ x.ids, H'[id]? = H[id]?) : lenA k H' x = lenA k H x := by
  unfold lenA
  split
  · rfl
  · rfl
  · rfl
  · rename_i id; rw [h id (by simp [AV.ids])]
  · rfl
  · rfl

theorem argA_congr {H H' : List Cell} {x : AV} (h : ∀ id ∈ x.ids, H'[id]? = H[id]?) : argA H' x = argA H x := by
  unfold argA
  split
  · rename_i id; rw [h id (by simp [AV.ids])]
  · rename_i id k lo n; rw [h id (by simp [AV.ids])]
  · rfl
  · rename_i cs
    congr 1
    refine List.map_congr_left fun c hc => ?_
    unfold argB
    split
    · rename_i id; rw [h id (by simp only [AV.ids, List.mem_flatMap]; exact ⟨_, hc, by simp [AV.idB]⟩)]
    · rfl
    · rfl
  · rfl

theorem pur_congr {H H' : List Cell} {ρ ρ' : Operand → AV} {op : Op} (hρ : ∀ x ∈ op.operands, ρ' x = ρ x) (hH : ∀ id ∈ rdOf ρ op, H'[id]? = H[id]?) : pur P H' ρ' op = pur P H ρ op := by
  cases op <;> simp only [pur]
  case move x => rw [hρ x (by simp [Op.operands])]
  case assign x => rw [hρ x (by simp [Op.operands])]
  case pick c x y => rw [hρ c (by simp [Op.operands]), hρ x (by simp [Op.operands]), hρ y (by simp [Op.operands])]
  case load t x =>
    rw [hρ x (by simp [Op.operands])]
    split
    · exact loadA_congr hH
    · rfl
  case nilCheck x => rw [hρ x (by simp [Op.operands])]
  case binOp op t x y t' => rw [hρ x (by simp [Op.operands]), hρ y (by simp [Op.operands])]
  case unOp op t x => rw [hρ x (by simp [Op.operands])]
  case convert s d x => rw [hρ x (by simp [Op.operands])]
  case extract x i => rw [hρ x (by simp [Op.operands])]
  case fieldAddr s x f => rw [hρ x (by simp [Op.operands])]
  case field s x f => rw [hρ x (by simp [Op.operands])]
  case indexAddr t x i =>
    rw [hρ x (by simp [Op.operands]), hρ i (by simp [Op.operands])]
    have : ∀ id ∈ (ρ x).ids, H'[id]? = H[id]? := hH
    split
    · rfl
    · rename_i e _ _ _ id k n hT e1 e2
      rw [e1] at this
      rw [this id (by simp [AV.ids])]
    · rfl
    · rfl
  case index t x i => rw [hρ x (by simp [Op.operands]), hρ i (by simp [Op.operands])]
  case slice t x lo hi mx =>
    cases mx with
    | some m => rfl
    | none =>
      simp only []
      have h1 : lo.map ρ' = lo.map ρ := by cases lo with | none => rfl | some l => simp only [Option.map_some]; rw [hρ l (by simp [Op.operands])]
      have h2 : hi.map ρ' = hi.map ρ := by cases hi with | none => rfl | some l => simp only [Option.map_some]; rw [hρ l (by simp [Op.operands])]
      rw [hρ x (by simp [Op.operands]), h1, h2]
  case makeFunc f first cap =>
    have h1 : ∀ x, x ∈ first ∨ x ∈ cap → ρ' x = ρ x := fun x hx => hρ x (by simp [Op.operands]; exact hx)
    have a1 : (first.all fun x => (ρ' x).isV) = (first.all fun x => (ρ x).isV) := by
      rw [Bool.eq_iff_iff]; simp only [Array.all_eq_true_iff_forall_mem]
      exact ⟨fun h x hx => by rw [← h1 x (.inl hx)]; exact h x hx, fun h x hx => by rw [h1 x (.inl hx)]; exact h x hx⟩
    have a2 : (cap.all fun x => (ρ' x).isV) = (cap.all fun x => (ρ x).isV) := by
      rw [Bool.eq_iff_iff]; simp only [Array.all_eq_true_iff_forall_mem]
      exact ⟨fun h x hx => by rw [← h1 x (.inr hx)]; exact h x hx, fun h x hx => by rw [h1 x (.inr hx)]; exact h x hx⟩
    have b1 : (first.map fun x => (ρ' x).getV) = first.map fun x => (ρ x).getV := Array.map_congr_left fun x hx => by rw [h1 x (.inl hx)]
    have b2 : (cap.map fun x => (ρ' x).getV) = cap.map fun x => (ρ x).getV := Array.map_congr_left fun x hx => by rw [h1 x (.inr hx)]
    have c1 : (first.all fun x => (ρ' x).flatB) = (first.all fun x => (ρ x).flatB) := by
      rw [Bool.eq_iff_iff]; simp only [Array.all_eq_true_iff_forall_mem]
      exact ⟨fun h x hx => by rw [← h1 x (.inl hx)]; exact h x hx, fun h x hx => by rw [h1 x (.inl hx)]; exact h x hx⟩
    have c2 : (cap.all fun x => (ρ' x).flatB) = (cap.all fun x => (ρ x).flatB) := by
      rw [Bool.eq_iff_iff]; simp only [Array.all_eq_true_iff_forall_mem]
      exact ⟨fun h x hx => by rw [← h1 x (.inr hx)]; exact h x hx, fun h x hx => by rw [h1 x (.inr hx)]; exact h x hx⟩
    have d1 : first.toList.map ρ' = first.toList.map ρ := List.map_congr_left fun x hx => h1 x (.inl (by simpa using hx))
    have d2 : cap.toList.map ρ' = cap.toList.map ρ := List.map_congr_left fun x hx => h1 x (.inr (by simpa using hx))
    rw [a1, a2, b1, b2, c1, c2, d1, d2]
  case call c =>
    obtain ⟨callee, args, ats⟩ := c
    obtain ⟨args⟩ := args
    obtain ⟨ats⟩ := ats
    have hm : ∀ x ∈ args, x ∈ (Op.call ⟨callee, ⟨args⟩, ⟨ats⟩⟩).operands := fun x hx => by
      simp only [Op.operands, Call.operands, Array.mem_append]; right; simpa using hx
    simp only []
    split
    · rename_i x t
      rw [hρ x (hm x (by simp))]
      split
      · rw [lenA_congr (fun id hi => hH id (mem_tch (hm x (by simp)) hi))]
      · rfl
    · rename_i ts x y
      rw [hρ x (hm x (by simp)), hρ y (hm y (by simp))]
    · rename_i ts x y
      rw [hρ x (hm x (by simp)), hρ y (hm y (by simp))]
    · rfl

theorem purA_congr {H H' : List Cell} {ρ ρ' : Operand → AV} {op : Op} (hρ : ∀ x ∈ op.operands, ρ' x = ρ x) (hH : ∀ id ∈ rdOf ρ op, H'[id]? = H[id]?) : purA P H' ρ' op = purA P H ρ op := by
  unfold purA
  split
  · rename_i t m k ok
    simp only [mapPur]
    rw [hρ m (by simp [Op.operands]), hρ k (by simp [Op.operands])]
    have : ∀ id ∈ (ρ m).ids, H'[id]? = H[id]? := hH
    split
    · rename_i K V _ _ _ id hT e1
      rw [e1] at this
      rw [this id (by simp [AV.ids])]
    · rfl
  · exact pur_congr hρ hH

theorem fillA_congr {fs : List (Nat × Nat)} {ρ ρ' : Operand → AV} : ∀ {parts : List (Nat × Operand)} {cells : List AV}, (∀ p ∈ parts, ρ' p.2 = ρ p.2) → fillA P fs ρ' parts cells = fillA P fs ρ parts cells
  | [], _, _ => rfl
  | (i, x) :: r, cells, h => by
    simp only [fillA]
    rw [h (i, x) (by simp)]
    split
    · split
      · rw [fillA_congr fun p hp => h p (by simp [hp])]
      · rfl
    · rfl

theorem buildA_congr {ρ ρ' : Operand → AV} {t : Nat} {parts : List (Nat × Operand)} (h : ∀ p ∈ parts, ρ' p.2 = ρ p.2) : buildA P ρ' t parts = buildA P ρ t parts := by
  unfold buildA
  split
  · rw [fillA_congr h]
  · rfl

theorem build_mem {t : Nat} {parts : Array (Nat × Operand)} : ∀ p ∈ parts.toList, p.2 ∈ (Op.build t parts).operands := by
  intro p hp
  simp only [Op.operands]
  simpa using ⟨p.1, by simpa using hp⟩

theorem DoesP_congr {H H' : List Cell} {ρ ρ' : Operand → AV} {op : Op} {r : AV} (hρ : ∀ x ∈ op.operands, ρ' x = ρ x) (hH : ∀ id ∈ rdOf ρ op, H'[id]? = H[id]?) (h : DoesP P H ρ op r) : DoesP P H' ρ' op r := by
  rcases h with ⟨p, h1, h2⟩ | ⟨t, parts, p, rfl, h1, h2⟩ | ⟨c, rfl, f, first, cap, h1, h2, h2', h3, h4, fr, h5, h6⟩
  · exact .inl ⟨p, by rw [purA_congr hρ hH]; exact h1, h2⟩
  · exact .inr (.inl ⟨t, parts, p, rfl, by rw [buildA_congr fun p hp => hρ _ (build_mem p hp)]; exact h1, h2⟩)
  · refine .inr (.inr ⟨c, rfl, f, first, cap, ?_, h2, h2', ?_, h4, fr, ?_, ?_⟩)
    · rw [← h1]
      cases hc : c.callee with
      | value x => simp only [tgt]; rw [hρ x (by simp [Op.operands, Call.operands, hc])]
      | _ => rfl
    all_goals
      have ha : ∀ x ∈ c.args.toList, x ∈ (Op.call c).operands := fun x hx => by
        simp only [Op.operands, Call.operands, Array.mem_append]; right; simpa using hx
      have hb : ∀ x ∈ c.args.toList, argA H' (ρ' x) = argA H (ρ x) := fun x hx => by
        rw [hρ x (ha x hx)]; exact argA_congr fun id hi => hH id (mem_tch (ha x hx) hi)
    · intro x hx; rw [hb x hx]; exact h3 x hx
    · rw [List.map_congr_left hb]; exact h5
    · rcases h6 with h6 | h6 | h6
      · exact .inl h6
      · exact .inr (.inl h6)
      · exact .inr (.inr fun x hx => by rw [hρ x (ha x hx)]; exact h6 x hx)

theorem eff_congr {H : List Cell} {ρ ρ' : Operand → AV} {op : Op} (hρ : ∀ x ∈ op.operands, ρ' x = ρ x) : eff P H ρ' op = eff P H ρ op := by
  cases op <;> simp only [eff]
  case box e x => rw [hρ x (by simp [Op.operands])]
  case buildSlice t n parts =>
    have hb : ∀ p ∈ parts.toList, ρ' p.2 = ρ p.2 := fun p hp => hρ _ (by
      simp only [Op.operands]
      simpa using ⟨p.1, by simpa using hp⟩)
    have : (parts.toList.map fun p => ρ' p.2) = parts.toList.map fun p => ρ p.2 := List.map_congr_left hb
    rw [this]
  case makeSlice t l c => rw [hρ l (by simp [Op.operands]), hρ c (by simp [Op.operands])]
  case store t d x => rw [hρ d (by simp [Op.operands]), hρ x (by simp [Op.operands])]
  case call c =>
    obtain ⟨callee, args, ats⟩ := c
    obtain ⟨args⟩ := args
    obtain ⟨ats⟩ := ats
    simp only []
    split
    · rename_i s x t t'
      rw [hρ s (by simp [Op.operands, Call.operands]), hρ x (by simp [Op.operands, Call.operands])]
    · rfl

theorem eff_frame {H H' : List Cell} {ρ : Operand → AV} {op : Op} {p : Prop} {r : AV} (h : eff P H ρ op = some (p, r, H')) : isEff op = true ∧ ∀ id, id < H.length → id ∉ wrOf ρ op → H'[id]? = H[id]? := by
  have app : ∀ (o : Cell) id, id < H.length → (H ++ [o])[id]? = H[id]? := fun o id hid => List.getElem?_append_left hid
  cases op <;> simp only [eff, reduceCtorEq] at h
  case alloc e =>
    refine ⟨rfl, ?_⟩
    split at h
    · simp only [Option.some.injEq, Prod.mk.injEq] at h
      obtain ⟨-, -, rfl⟩ := h
      exact fun id hid _ => app _ id hid
    · cases h
  case box e x =>
    refine ⟨rfl, ?_⟩
    split at h
    · simp only [Option.some.injEq, Prod.mk.injEq] at h
      obtain ⟨-, -, rfl⟩ := h
      exact fun id hid _ => app _ id hid
    · cases h
  case buildSlice t n parts =>
    refine ⟨rfl, ?_⟩
    split at h
    · split at h
      · split at h
        · simp only [Option.some.injEq, Prod.mk.injEq] at h
          obtain ⟨-, -, rfl⟩ := h
          exact fun id hid _ => app _ id hid
        · cases h
      · cases h
    · cases h
  case makeSlice t l c =>
    refine ⟨rfl, ?_⟩
    split at h
    · split at h
      · simp only [Option.some.injEq, Prod.mk.injEq] at h
        obtain ⟨-, -, rfl⟩ := h
        exact fun id hid _ => app _ id hid
      · cases h
    · cases h
  case store t d x =>
    refine ⟨rfl, ?_⟩
    split at h
    · rename_i T id k i off hT e1
      split at h
      · simp only [Option.some.injEq, Prod.mk.injEq] at h
        obtain ⟨-, -, rfl⟩ := h
        intro id2 _ hn
        simp only [wrOf, e1, AV.ids, List.mem_singleton] at hn
        rw [List.getElem?_set_ne (fun e => hn e.symm)]
      · cases h
    · cases h
  case call c =>
    obtain ⟨callee, args, ats⟩ := c
    obtain ⟨args⟩ := args
    obtain ⟨ats⟩ := ats
    simp only [] at h
    split at h
    · rename_i s x t t'
      refine ⟨rfl, ?_⟩
      split at h
      · unfold appA at h
        split at h
        · split at h
          · split at h
            · simp only [Option.some.injEq, Prod.mk.injEq] at h
              obtain ⟨-, -, rfl⟩ := h
              exact fun id hid _ => app _ id hid
            · rename_i id e1
              split at h
              · simp only [Option.some.injEq, Prod.mk.injEq] at h
                obtain ⟨-, -, rfl⟩ := h
                intro id2 hlt hn
                simp only [wrOf, e1, AV.ids, List.mem_singleton] at hn
                rw [List.getElem?_append_left (by simpa using hlt), List.getElem?_set_ne (fun e => hn e.symm)]
              · cases h
            · cases h
          · cases h
        · cases h
      · cases h
    · cases h

theorem effA_congr {H : List Cell} {ρ ρ' : Operand → AV} {op : Op} (hρ : ∀ x ∈ op.operands, ρ' x = ρ x) : effA P H ρ' op = effA P H ρ op := by
  unfold effA
  split
  · rename_i t r
    cases r <;> rfl
  · rename_i t m k x
    simp only [mapEff]
    rw [hρ m (by simp [Op.operands]), hρ k (by simp [Op.operands]), hρ x (by simp [Op.operands])]
  · exact eff_congr hρ

theorem effA_frame {H H' : List Cell} {ρ : Operand → AV} {op : Op} {p : Prop} {r : AV} (h : effA P H ρ op = some (p, r, H')) : isEff op = true ∧ ∀ id, id < H.length → id ∉ wrOf ρ op → H'[id]? = H[id]? := by
  unfold effA at h
  split at h
  · rename_i t rs
    refine ⟨rfl, ?_⟩
    cases rs with
    | some x => simp only [mapEff, reduceCtorEq] at h
    | none =>
      simp only [mapEff] at h
      split at h
      · simp only [Option.some.injEq, Prod.mk.injEq] at h
        obtain ⟨-, -, rfl⟩ := h
        exact fun id hid _ => List.getElem?_append_left hid
      · cases h
  · rename_i t m k x
    refine ⟨rfl, ?_⟩
    simp only [mapEff] at h
    split at h
    · rename_i K V _ _ _ id hT e1
      split at h
      · rename_i mo ho
        cases hu : updA P K (ρ k) (ρ x) mo.es with
        | none => simp [hu] at h
        | some es =>
          simp only [hu, Option.map_some, Option.some.injEq, Prod.mk.injEq] at h
          obtain ⟨-, -, rfl⟩ := h
          intro id2 _ hn
          simp only [wrOf, e1, AV.ids, List.mem_singleton] at hn
          rw [List.getElem?_set_ne (fun e => hn e.symm)]
      · cases h
    · cases h
  · exact eff_frame h

theorem DoesP_notEff {H : List Cell} {ρ : Operand → AV} {op : Op} {r : AV} (h : DoesP P H ρ op r) : isEff op = false := by
  rcases h with ⟨p, h1, h2⟩ | ⟨t, parts, p, rfl, h1, h2⟩ | ⟨c, rfl, f, first, cap, h1, _⟩
  · cases op <;> first | rfl | (simp only [purA, pur, reduceCtorEq] at h1; done) | skip
    case call c =>
      obtain ⟨callee, args, ats⟩ := c
      simp only [purA, pur] at h1
      split at h1
      · rfl
      · rfl
      · rfl
      · cases h1
  · rfl
  · cases hc : c.callee with
    | value x => simp [isEff, hc]
    | _ => rw [hc] at h1; simp [tgt] at h1

/-- What an operation touches, and what it writes. -/
structure Tag where
  t : List Nat
  w : List Nat


/-- Two operations that do not meet. -/
def isE (o : Oper) : Bool := isEff o.op && o.guard.isNone

def tagOf (env : Nat → AV) (o : Oper) : Tag := ⟨rdOf (ev env) o.op, if isE o then wrOf (ev env) o.op else []⟩

def noMeet (oi oj : Oper) (ti tj : Tag) : Bool :=
  !(isE oi && isE oj) && (ti.w.all fun id => !tj.t.contains id) && (tj.w.all fun id => !ti.t.contains id)

def Bnd (st : St) : Prop := ∀ s, (st.env s).idLt st.heap.length

theorem ofV_idLt' (n : Nat) (x : Value) : (ofV x).idLt n := ofV_idLt n x

theorem Bnd.ev {st : St} (h : Bnd st) (x : Operand) : (Ab.ev st.env x).idLt st.heap.length := by
  cases x with
  | tmp t =>
    simp only [Ab.ev]
    split
    · exact h t
    · trivial
  | const x => exact ofV_idLt _ x
  | global g =>
    simp only [Ab.ev, globV]
    split <;> trivial
  | func f => trivial

theorem Bnd.put {st : St} (h : Bnd st) {d : Option Nat} {e : AV} {H : List Cell} (hl : st.heap.length ≤ H.length) (he : e.idLt H.length) : Bnd ⟨putE st.env d e, H⟩ := by
  have up : ∀ s, (st.env s).idLt H.length := fun s => (idLt_iff _ _).2 fun id hid => Nat.lt_of_lt_of_le ((idLt_iff _ _).1 (h s) id hid) hl
  intro s
  cases d with
  | none => exact up s
  | some d =>
    simp only [putE, upd]
    split
    · exact he
    · exact up s

theorem eff_len {H H' : List Cell} {ρ : Operand → AV} {op : Op} {p : Prop} {r : AV} (h : eff P H ρ op = some (p, r, H')) : H.length ≤ H'.length := by
  cases op <;> simp only [eff, reduceCtorEq] at h
  case call c =>
    split at h
    · split at h
      · unfold appA at h
        split at h
        · split at h
          · split at h
            · simp only [Option.some.injEq, Prod.mk.injEq] at h; obtain ⟨-, -, rfl⟩ := h; simp
            · split at h
              · simp only [Option.some.injEq, Prod.mk.injEq] at h; obtain ⟨-, -, rfl⟩ := h; simp
              · cases h
            · cases h
          · cases h
        · cases h
      · cases h
    · cases h
  all_goals (repeat' split at h) <;> first | (cases h; done) | (simp only [Option.some.injEq, Prod.mk.injEq] at h; obtain ⟨-, -, rfl⟩ := h; simp)

theorem effA_len {H H' : List Cell} {ρ : Operand → AV} {op : Op} {p : Prop} {r : AV} (h : effA P H ρ op = some (p, r, H')) : H.length ≤ H'.length := by
  unfold effA at h
  split at h
  · rename_i t rs
    cases rs with
    | some x => simp only [mapEff, reduceCtorEq] at h
    | none =>
      simp only [mapEff] at h
      split at h
      · simp only [Option.some.injEq, Prod.mk.injEq] at h; obtain ⟨-, -, rfl⟩ := h; simp
      · cases h
  · rename_i t m k x
    simp only [mapEff] at h
    split at h
    · rename_i K V _ _ _ id _ _
      split at h
      · rename_i mo ho
        cases hu : updA P K (ρ k) (ρ x) mo.es with
        | none => simp [hu] at h
        | some es =>
          simp only [hu, Option.map_some, Option.some.injEq, Prod.mk.injEq] at h
          obtain ⟨-, -, rfl⟩ := h; simp
      · cases h
    · cases h
  · exact eff_len h

theorem StepR.bnd {ops : Array Oper} {n : Nat} {o : Oper} {st st' : St} (h : StepR P ops n o st st') (hb : Bnd st) : Bnd st' := by
  obtain ⟨hd, h⟩ := h
  split at h
  · rcases h with ⟨r, _, hi, rfl⟩ | ⟨r, H', p, he, _, hi, rfl⟩
    · exact hb.put (Nat.le_refl _) (subIds_lt hi fun x _ => hb.ev x)
    · exact hb.put (effA_len he) hi
  · obtain ⟨gb, r, _, _, _, _, hi, rfl⟩ := h
    exact hb.put (Nat.le_refl _) (subIds_lt (r := r) hi fun x _ => hb.ev x)

theorem putE_ne {env : Nat → AV} {d : Option Nat} {r : AV} {t : Nat} (h : ∀ k, d = some k → k ≠ t) : putE env d r t = env t := by
  cases d with
  | none => rfl
  | some k => exact upd_ne _ _ _ (fun e => h k rfl e.symm)

theorem ev_put {ops : Array Oper} {o : Oper} {env : Nat → AV} {d : Option Nat} {r : AV} (h : ∀ k, d = some k → k ∉ o.looksAt ops) : ∀ x ∈ o.op.operands, ev (putE env d r) x = ev env x := by
  intro x hx
  cases x with
  | tmp t =>
    simp only [ev]
    congr 1
    refine putE_ne fun k hk e => h k hk ?_
    subst e
    unfold Oper.looksAt
    exact List.mem_append_left _ (List.mem_filterMap.2 ⟨.tmp k, by simpa using hx, rfl⟩)
  | _ => rfl

theorem gv_put {ops : Array Oper} {o : Oper} {env : Nat → AV} {d : Option Nat} {r : AV} (h : ∀ k, d = some k → k ∉ o.looksAt ops) {j : Nat} {b : Bool} (hg : o.guard = some (j, b)) : gvOf ops (putE env d r) j b = gvOf ops env j b := by
  unfold gvOf
  cases hd : (ops[j]?).bind (fun o => o.dst) with
  | none => rfl
  | some k =>
    simp only []
    rw [putE_ne]
    intro q hq e
    subst e
    refine h q hq ?_
    unfold Oper.looksAt
    refine List.mem_append_right _ ?_
    rw [hg]
    simp only []
    rw [hd]; simp

theorem tch_congr {ρ ρ' : Operand → AV} {op : Op} (h : ∀ x ∈ op.operands, ρ' x = ρ x) : tch ρ' op = tch ρ op := by
  unfold tch
  simp only [List.flatMap_def]
  congr 1
  exact List.map_congr_left fun x hx => by rw [h x (by simpa using hx)]

theorem wrOf_congr {ρ ρ' : Operand → AV} {op : Op} (h : ∀ x ∈ op.operands, ρ' x = ρ x) : wrOf ρ' op = wrOf ρ op := by
  cases op <;> simp only [wrOf]
  case store t d x => rw [h d (by simp [Op.operands])]
  case mapUpdate t m k x => rw [h m (by simp [Op.operands])]
  case call c =>
    split
    · rename_i s l e1 e2
      rw [h s (by simp only [Op.operands, Call.operands, Array.mem_append]; right; have : s ∈ c.args.toList := by rw [e2]; simp
                  simpa using this)]
    · rfl

theorem rdOf_congr {ρ ρ' : Operand → AV} {op : Op} (h : ∀ x ∈ op.operands, ρ' x = ρ x) : rdOf ρ' op = rdOf ρ op := by
  cases op <;> simp only [rdOf]
  case load t x => rw [h x (by simp [Op.operands])]
  case indexAddr t x i => rw [h x (by simp [Op.operands])]
  case lookup t m k ok => rw [h m (by simp [Op.operands])]
  case call c => exact tch_congr h

theorem tag_put {ops : Array Oper} {o : Oper} {env : Nat → AV} {d : Option Nat} {r : AV} (h : ∀ k, d = some k → k ∉ o.looksAt ops) : tagOf (putE env d r) o = tagOf env o := by
  unfold tagOf
  rw [rdOf_congr (ev_put h), wrOf_congr (ev_put h)]

theorem ids_evS {env : Nat → AV} {sel : Operand → Bool} (x : Operand) : (evS env sel x).ids = (ev env x).ids := by
  unfold evS
  cases sel x with
  | true => exact ids_un _
  | false => rfl
theorem un_tch {env : Nat → AV} {sel : Operand → Bool} {op : Op} : tch (evS env sel) op = tch (ev env) op := by
  unfold tch
  congr 1
  funext x
  exact ids_evS _
theorem un_rd {env : Nat → AV} {sel : Operand → Bool} {op : Op} : rdOf (evS env sel) op = rdOf (ev env) op := by
  cases op <;> simp only [rdOf, ids_evS]
  exact un_tch
theorem rd_tch {ρ : Operand → AV} {op : Op} {id : Nat} (h : id ∈ rdOf ρ op) : id ∈ tch ρ op := by
  cases op <;> simp only [rdOf] at h
  case load t x => exact mem_tch (by simp [Op.operands]) h
  case indexAddr t x i => exact mem_tch (x := x) (by simp [Op.operands]) h
  case lookup t m k ok => exact mem_tch (x := m) (by simp [Op.operands]) h
  case call c => exact h
  all_goals cases h

theorem putE_comm {env : Nat → AV} {d e : Option Nat} {r q : AV} (h : ∀ k, d = some k → e ≠ some k) : putE (putE env d r) e q = putE (putE env e q) d r := by
  cases d with
  | none => rfl
  | some k =>
    cases e with
    | none => rfl
    | some l =>
      have hne : l ≠ k := fun e => h k rfl (by rw [e])
      funext t
      simp only [putE, upd]
      by_cases h1 : t = l
      · subst h1; rw [if_pos rfl, if_neg hne, if_pos rfl]
      · rw [if_neg h1]
        by_cases h2 : t = k
        · rw [if_pos h2, if_pos h2]
        · rw [if_neg h2, if_neg h2, if_neg h1]

/-- A step that leaves the heap alone, taken over another heap and other slots that it does not look at. -/
theorem quiet_move {ops : Array Oper} {n : Nat} {o : Oper} {st st' : St} (h : StepR P ops n o st st') (hq : isE o = false) :
    ∃ r, st' = ⟨putE st.env o.dst r, st.heap⟩ ∧ ∀ (env' : Nat → AV) (H : List Cell), (∀ x ∈ o.op.operands, ev env' x = ev st.env x) → (∀ j b, o.guard = some (j, b) → gvOf ops env' j b = gvOf ops st.env j b) →
      (∀ id ∈ rdOf (ev st.env) o.op, H[id]? = st.heap[id]?) → StepR P ops n o ⟨env', H⟩ ⟨putE env' o.dst r, H⟩ := by
  obtain ⟨hd, h⟩ := h
  split at h
  · rename_i hg
    rcases h with ⟨r, h1, hi, rfl⟩ | ⟨r, H', p, he, _, hi, rfl⟩
    · refine ⟨r, rfl, fun env' H hl _ hH => ⟨hd, ?_⟩⟩
      rw [hg]
      exact .inl ⟨r, DoesP_congr hl hH h1, by rw [tch_congr hl]; exact hi, rfl⟩
    · have := (effA_frame he).1
      simp [isE, hg, this] at hq
  · rename_i j b hg
    obtain ⟨gb, r, sel, hv, hok, h1, hi, rfl⟩ := h
    refine ⟨.mb gb r, rfl, fun env' H hl hgv hH => ⟨hd, ?_⟩⟩
    rw [hg]
    refine ⟨gb, r, sel, by rw [hgv j b hg]; exact hv, fun x hx => by rw [hl x hx]; exact hok x hx, fun hgb => ?_, by rw [tch_congr hl]; exact hi, rfl⟩
    exact DoesP_congr (fun x hx => by unfold evS; rw [hl x hx]) (fun id hid => hH id (by rw [un_rd] at hid; exact hid)) (h1 hgb)

theorem eff_move {ops : Array Oper} {n : Nat} {o : Oper} {st st' : St} (h : StepR P ops n o st st') (hq : isE o = true) :
    ∃ r H', st' = ⟨putE st.env o.dst r, H'⟩ ∧ (∀ id, id < st.heap.length → id ∉ wrOf (ev st.env) o.op → H'[id]? = st.heap[id]?) ∧
      ∀ (env' : Nat → AV), (∀ x ∈ o.op.operands, ev env' x = ev st.env x) → StepR P ops n o ⟨env', st.heap⟩ ⟨putE env' o.dst r, H'⟩ := by
  obtain ⟨hd, h⟩ := h
  simp only [isE, Bool.and_eq_true] at hq
  split at h
  · rename_i hg
    rcases h with ⟨r, h1, _, _⟩ | ⟨r, H', p, he, hp, hlt, rfl⟩
    · have := DoesP_notEff h1
      rw [hq.1] at this; cases this
    · refine ⟨r, H', rfl, (effA_frame he).2, fun env' hl => ⟨hd, ?_⟩⟩
      rw [hg]
      exact .inr ⟨r, H', p, by rw [← he]; exact effA_congr hl, hp, hlt, rfl⟩
  · rename_i hg
    rw [hg] at hq; simp at hq

theorem tch_lt {st : St} (hb : Bnd st) {op : Op} {id : Nat} (h : id ∈ tch (ev st.env) op) : id < st.heap.length := by
  obtain ⟨x, _, hx2⟩ := List.mem_flatMap.1 h
  exact (idLt_iff _ _).1 (hb.ev x) id hx2

/-- TWO NEIGHBOURS CHANGE PLACES. -/
theorem swap {ops : Array Oper} {n : Nat} {oi oj : Oper} {st st1 st2 : St} (hb : Bnd st) (hi : StepR P ops n oi st st1) (hj : StepR P ops n oj st1 st2) (hap : oi.apart ops oj = true)
    (hm : noMeet oi oj (tagOf st.env oi) (tagOf st1.env oj) = true) :
    ∃ st1', StepR P ops n oj st st1' ∧ StepR P ops n oi st1' st2 ∧ tagOf st.env oj = tagOf st1.env oj ∧ tagOf st1'.env oi = tagOf st.env oi := by
  obtain ⟨a1, a2, a3⟩ := Oper.apart_spec hap
  simp only [noMeet, Bool.and_eq_true, Bool.not_eq_true', List.all_eq_true] at hm
  obtain ⟨⟨m1, m2⟩, m3⟩ := hm
  cases hei : isE oi with
  | false =>
    obtain ⟨ri, rfl, qi⟩ := quiet_move hi hei
    have ht : tagOf (putE st.env oi.dst ri) oj = tagOf st.env oj := tag_put a1
    have hl : ∀ x ∈ oj.op.operands, ev st.env x = ev (putE st.env oi.dst ri) x := fun x hx => (ev_put a1 x hx).symm
    cases hej : isE oj with
    | false =>
      obtain ⟨rj, rfl, qj⟩ := quiet_move hj hej
      refine ⟨_, qj st.env st.heap hl (fun j b hg => (gv_put a1 hg).symm) (fun _ _ => rfl), ?_, ht.symm, tag_put a3⟩
      have := qi (putE st.env oj.dst rj) st.heap (ev_put a3) (fun j b hg => gv_put a3 hg) (fun _ _ => rfl)
      rw [← putE_comm a2] at this
      exact this
    | true =>
      obtain ⟨rj, H', rfl, hfr, qj⟩ := eff_move hj hej
      refine ⟨_, qj st.env hl, ?_, ht.symm, tag_put a3⟩
      have := qi (putE st.env oj.dst rj) H' (ev_put a3) (fun j b hg => gv_put a3 hg) (fun id hid => by
        refine hfr id (tch_lt hb (rd_tch hid)) fun hw => ?_
        have := m3 id (by simp only [tagOf, hej, if_true]; exact hw)
        simp [tagOf] at this
        exact this hid)
      rw [← putE_comm a2] at this
      exact this
  | true =>
    have hej : isE oj = false := by simpa [hei] using m1
    obtain ⟨ri, H1, rfl, hfr, qi⟩ := eff_move hi hei
    have ht : tagOf (putE st.env oi.dst ri) oj = tagOf st.env oj := tag_put a1
    have hl : ∀ x ∈ oj.op.operands, ev st.env x = ev (putE st.env oi.dst ri) x := fun x hx => (ev_put a1 x hx).symm
    obtain ⟨rj, rfl, qj⟩ := quiet_move hj hej
    refine ⟨_, qj st.env st.heap hl (fun j b hg => (gv_put a1 hg).symm) (fun id hid => ?_), ?_, ht.symm, tag_put a3⟩
    · have hid' : id ∈ rdOf (ev st.env) oj.op := by rw [rdOf_congr hl]; exact hid
      refine (hfr id (tch_lt hb (rd_tch hid')) fun hw => ?_).symm
      have := m2 id (by simp only [tagOf, hei, if_true]; exact hw)
      simp [tagOf] at this
      exact this hid
    · have := qi (putE st.env oj.dst rj) (ev_put a3)
      rw [← putE_comm a2] at this
      exact this

def RunX (P : Program) (ops : Array Oper) (n : Nat) : List (Oper × Tag) → St → St → Prop
  | [], st, st' => st' = st
  | (o, t) :: l, st, st' => ∃ st1, StepR P ops n o st st1 ∧ tagOf st.env o = t ∧ RunX P ops n l st1 st'

theorem bubble {ops : Array Oper} {n : Nat} {x : Oper × Tag} {B : List (Oper × Tag)} {sf : St} : ∀ (A : List (Oper × Tag)) (st : St), RunX P ops n (A ++ x :: B) st sf → Bnd st →
    (∀ a ∈ A, a.1.apart ops x.1 = true ∧ noMeet a.1 x.1 a.2 x.2 = true) → RunX P ops n (x :: (A ++ B)) st sf
  | [], st, h, _, _ => h
  | a :: A, st, h, hb, hA => by
    obtain ⟨st1, h1, ht, h2⟩ := h
    obtain ⟨st2, g1, gt, g2⟩ := bubble A st1 h2 (h1.bnd hb) (fun b hb => hA b (by simp [hb]))
    obtain ⟨p1, p2⟩ := hA a (by simp)
    obtain ⟨st1', q1, q2, q3, q4⟩ := swap hb h1 g1 p1 (by rw [ht, gt]; exact p2)
    exact ⟨st1', q1, by rw [q3]; exact gt, st2, q2, by rw [q4]; exact ht, g2⟩

/-- i comes before j by the region's edges. -/
inductive Reach (ops : Array Oper) (i : Nat) : Nat → Prop
  | here (j : Nat) (o : Oper) (e : Edge) (ho : ops[j]? = some o) (he : e ∈ o.after) (hb : Region.binds .any e = true) (hi : e.on = i) : Reach ops i j
  | far (j : Nat) (o : Oper) (e : Edge) (ho : ops[j]? = some o) (he : e ∈ o.after) (hb : Region.binds .any e = true) (hr : Reach ops i e.on) : Reach ops i j

def maskOf (acc : List Nat) (o : Oper) : Nat := o.after.toList.foldl (fun s e => if Region.binds .any e then s ||| 2 ^ e.on ||| acc.getD e.on 0 else s) 0

def masks : List Oper → List Nat → List Nat
  | [], acc => acc
  | o :: l, acc => masks l (acc ++ [maskOf acc o])

theorem maskOf_bit (acc : List Nat) (i : Nat) : ∀ (es : List Edge) (s : Nat), (es.foldl (fun s e => if Region.binds .any e then s ||| 2 ^ e.on ||| acc.getD e.on 0 else s) s).testBit i = true →
    s.testBit i = true ∨ ∃ e ∈ es, Region.binds .any e = true ∧ (e.on = i ∨ (acc.getD e.on 0).testBit i = true)
  | [], s, h => .inl h
  | e :: es, s, h => by
    simp only [List.foldl_cons] at h
    rcases maskOf_bit acc i es _ h with h | ⟨e', he', h'⟩
    · split at h
      · rename_i hb
        simp only [Nat.testBit_or, Bool.or_eq_true, Nat.testBit_two_pow, decide_eq_true_eq] at h
        rcases h with (h | h) | h
        · exact .inl h
        · exact .inr ⟨e, by simp, hb, .inl h⟩
        · exact .inr ⟨e, by simp, hb, .inr h⟩
      · exact .inl h
    · exact .inr ⟨e', by simp [he'], h'⟩

theorem masks_reach {ops : Array Oper} {i : Nat} : ∀ (l : List Oper) (acc : List Nat), (∀ k, (acc.length ≤ k → ops[k]? = l[k - acc.length]?)) → (∀ j, (acc.getD j 0).testBit i = true → Reach ops i j) →
    ∀ j, ((masks l acc).getD j 0).testBit i = true → Reach ops i j
  | [], acc, _, h, j, hj => h j hj
  | o :: l, acc, hl, h, j, hj => by
    refine masks_reach l (acc ++ [maskOf acc o]) (fun k hk => ?_) (fun k hk => ?_) j hj
    · simp only [List.length_append, List.length_cons, List.length_nil] at hk ⊢
      rw [hl k (by omega)]
      have : k - acc.length = (k - (acc.length + (0 + 1))) + 1 := by omega
      rw [this]; rfl
    · by_cases h1 : k < acc.length
      · rw [List.getD_eq_getElem?_getD, List.getElem?_append_left h1, ← List.getD_eq_getElem?_getD] at hk
        exact h k hk
      · by_cases h2 : k = acc.length
        · subst h2
          rw [List.getD_eq_getElem?_getD, List.getElem?_append_right (Nat.le_refl _), Nat.sub_self] at hk
          simp only [List.getElem?_cons_zero, Option.getD_some] at hk
          have ho : ops[acc.length]? = some o := by rw [hl acc.length (Nat.le_refl _), Nat.sub_self]; rfl
          rcases maskOf_bit acc i o.after.toList 0 hk with h0 | ⟨e, he, hb, h3⟩
          · simp at h0
          · rcases h3 with h3 | h3
            · exact .here _ o e ho (by simpa using he) hb h3
            · exact .far _ o e ho (by simpa using he) hb (h _ h3)
        · rw [List.getD_eq_getElem?_getD, List.getElem?_eq_none (by simp; omega)] at hk
          simp at hk

/-- The edges lead back; and who is not ordered does not meet. -/
def drawOK (ops : Array Oper) (meet : Nat → Oper → Nat → Oper → Bool) : Bool :=
  let ms := masks ops.toList []
  ops.toList.zipIdx.all fun (oj, j) => (oj.after.all fun e => !Region.binds .any e || e.on < j) &&
    ops.toList.zipIdx.all fun (oi, i) => !(i < j) || (ms.getD j 0).testBit i || (oi.apart ops oj && meet i oi j oj)

theorem drawOK_spec {ops : Array Oper} {meet : Nat → Oper → Nat → Oper → Bool} (h : drawOK ops meet = true) :
    (∀ j oj, ops[j]? = some oj → ∀ e ∈ oj.after, Region.binds .any e = true → e.on < j) ∧
    ∀ i j oi oj, ops[i]? = some oi → ops[j]? = some oj → i < j → Reach ops i j ∨ (oi.apart ops oj = true ∧ meet i oi j oj = true) := by
  unfold drawOK at h
  simp only [List.all_eq_true] at h
  have mem : ∀ i oi, ops[i]? = some oi → (oi, i) ∈ ops.toList.zipIdx := fun i oi hi => by
    rw [List.mem_zipIdx_iff_getElem?]; simpa using hi
  refine ⟨fun j oj hj e he hb => ?_, fun i j oi oj hi hj hij => ?_⟩
  · have := h (oj, j) (mem j oj hj)
    simp only [Bool.and_eq_true, Array.all_eq_true_iff_forall_mem] at this
    have := this.1 e he
    simpa [hb] using this
  · have := h (oj, j) (mem j oj hj)
    simp only [Bool.and_eq_true, List.all_eq_true] at this
    have := this.2 (oi, i) (mem i oi hi)
    simp only [hij, decide_true, Bool.not_true, Bool.false_or, Bool.or_eq_true, Bool.and_eq_true] at this
    rcases this with h1 | h1
    · left
      exact masks_reach ops.toList [] (fun k _ => by simp) (fun j hj => by simp at hj) j h1
    · exact .inr h1

theorem reach_listed {ops : Array Oper} {listed : Array Bool} (hcl : ∀ j o, ops[j]? = some o → listed.getD j false = true → ∀ e ∈ o.after, Region.binds .any e = true → listed.getD e.on false = true) {i : Nat} :
    ∀ {j : Nat}, Reach ops i j → (∀ o, ops[j]? = some o → ∀ e ∈ o.after, Region.binds .any e = true → listed.getD e.on false = true) → listed.getD i false = true := by
  intro j h
  induction h with
  | here j o e ho he hb hi => intro h; rw [← hi]; exact h o ho e he hb
  | far j o e ho he hb hr ih => intro h; exact ih fun o' ho' => hcl e.on o' ho' (h o ho e he hb)

end
end Go.Ab
