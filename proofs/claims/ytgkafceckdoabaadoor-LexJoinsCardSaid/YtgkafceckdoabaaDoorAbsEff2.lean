/-
  The operations that make or write memory of the call's own: all of them.
-/
import Derived.Test.YtgkafceckdoabaaDoorAbsEff
set_option linter.all false
namespace Go.Ab
open Go.RowKit

/-- The elements that an append's second operand brings. -/
def srcA (H : List Cell) : AV → Option (Prop × List AV)
  | .sl es => some (True, es)
  | .nil => some (True, [])
  | .ow id => match H[id]? with
    | some (.row o) => some (True, o.es)
    | _ => none
  | .wn id k lo n => match H[id]? with
    | some (.row o) => some (k = o.k ∧ lo + n ≤ o.es.length, (o.es.drop lo).take n)
    | _ => none
  | _ => none

def AV.isAgg : AV → Bool
  | .agg _ => true
  | _ => false

/-- An element after a store into it. -/
def setE (e : AV) (off : Nat) (x : AV) : AV :=
  match e with
  | .agg cs => .agg (splice cs off x.flat)
  | _ => x

def appA (P : Program) (H : List Cell) (t : Nat) (s x : AV) : Option (Prop × AV × List Cell) :=
  match tyk P t with
  | some ⟨.slice e, _, _, _⟩ => match tyk P e, srcA H x with
    | some T, some (q, news) => match s with
      | .nil => some (q ∧ (news.length * T.bytes ≤ 140737488355328 ∧ news.length ≤ maxLen) ∧ T.zero.flat.length = T.cells ∧ 0 < T.cells ∧ ∀ n ∈ news, n.plain = true ∧ n.flat.length = T.cells, .ow H.length, H ++ [.row ⟨e, T.cells, news⟩])
      | .ow id => match H[id]? with
        | some (.row o) => some (q ∧ (((o.es.length + news.length) * T.bytes ≤ 140737488355328 ∧ o.es.length + news.length ≤ maxLen) ∧ T.zero.flat.length = T.cells ∧ 0 < T.cells ∧ ∀ n ∈ news, n.plain = true ∧ n.flat.length = T.cells) ∧ o.E = e ∧ o.k = T.cells,
            .ow H.length, H.set id .dead ++ [.row ⟨e, T.cells, o.es ++ news⟩])
        | _ => none
      | _ => none
    | _, _ => none
  | _ => none

def eff (P : Program) (H : List Cell) (ρ : Operand → AV) : Op → Option (Prop × AV × List Cell)
  | .alloc e => match tyk P e with
    | some T => some (T.zero.flat.length = T.cells, .el H.length T.cells 0 0, H ++ [.row ⟨e, T.cells, [T.zero]⟩])
    | none => none
  | .box e x => match tyk P e with
    | some T => some ((ρ x).plain = true ∧ (ρ x).flat.length = T.cells, .el H.length T.cells 0 0, H ++ [.row ⟨e, T.cells, [ρ x]⟩])
    | none => none
  | .buildSlice t n parts => match tyk P t with
    | some ⟨.slice e, _, _, _⟩ => match tyk P e with
      | some T => if parts.toList.map (fun p => p.1) = List.range n ∧ n * T.cells ≤ 16777216 ∧ n ≤ 16777216 then
          some (T.zero.flat.length = T.cells ∧ ∀ x ∈ parts.toList.map (fun p => ρ p.2), x.plain = true ∧ x.flat.length = T.cells, .ow H.length, H ++ [.row ⟨e, T.cells, parts.toList.map fun p => ρ p.2⟩]) else none
      | none => none
    | _ => none
  | .makeSlice t l c => match tyk P t, ρ l, ρ c with
    | some ⟨.slice e, _, _, _⟩, .v (.int _ n), .v (.int _ m) => match tyk P e with
      | some T => some ((n = m ∧ 0 ≤ n ∧ (T.bytes : Int) * n ≤ 281474976710656 ∧ n ≤ 9223372036854775807) ∧ T.cells = 1 ∧ T.zero.one = true, .ow H.length, H ++ [.row ⟨e, T.cells, List.replicate n.toNat T.zero⟩])
      | none => none
    | _, _, _ => none
  | .store t d x => match tyk P t, ρ d with
    | some T, .el id k i off => match H[id]? with
      | some (.row o) => some (((ρ x).plain = true ∧ (ρ x).flat.length = T.cells) ∧ (k = o.k ∧ i < o.es.length ∧ off + T.cells ≤ k) ∧ ((nth o.es i).isAgg = true ∨ off = 0 ∧ T.cells = k),
          .bad, H.set id (.row ⟨o.E, o.k, o.es.set i (setE (nth o.es i) off (ρ x))⟩))
      | _ => none
    | _, _ => none
  | .call c => match c.callee, c.args.toList, c.argTypes.toList with
    | .builtin .append, [s, x], [t, t'] => if t = t' then appA P H t (ρ s) (ρ x) else none
    | _, _, _ => none
  | _ => none

section
variable {P : Program} {w w' : World} {M : Nat → Prop} {loc : Nat → Value}

/-- What an effect leaves. -/
def EffOK (P : Program) (X : Ctx) (st : St) (a : Act) (w : World) (M : Nat → Prop) (s : Sem Next) (r : AV) (H' : List Cell) : Prop :=
  ∃ nx w' loc' v, s.run P w = .ok nx w' ∧ (nx = .value v ∨ nx = .skip ∧ v = undef) ∧ RR X M loc' { st with heap := H' } a w' ∧ Rep w' M loc' v r ∧ r.idLt H'.length

theorem EffOK.lift {X : Ctx} {st : St} {a : Act} {s : Sem Value} {r : AV} {H' : List Cell} {w' : World} {loc' : Nat → Value} {v : Value}
    (h1 : s.run P w = .ok v w') (h2 : RR X M loc' { st with heap := H' } a w') (h3 : Rep w' M loc' v r) (h4 : r.idLt H'.length) :
    EffOK P X st a w M (do pure (Next.value (← s))) r H' :=
  ⟨.value v, w', loc', v, by simp only [Sem.run_bind, h1, Result.andThen_ok, Sem.run_pure], .inl rfl, h2, h3, h4⟩

theorem flat_single (e : AV) : [e].flatMap AV.flat = e.flat := by simp

theorem ofV_flatB (x : Value) : (ofV x).flatB = true := by
  unfold ofV
  split
  · rfl
  · simp only [AV.flatB, List.all_eq_true]
    intro e he
    obtain ⟨y, _, rfl⟩ := List.mem_map.1 he
    rfl
  · rfl

theorem zeroOf_cells (n : Nat) (z : Value) (h : (zeroOf z).flat.length = z.cells.size → True) : (zeroOf z).flat.length = z.cells.size ∧ ∀ (j : Nat) (e : AV), (zeroOf z).flat[j]? = some e → ∃ x, z.cells[j]? = some x ∧ RepC w M loc n x e := by
  cases z with
  | agg cs =>
    have hl : (zeroOf (.agg cs)) = .agg (cs.toList.map ofV) := rfl
    rw [hl]
    refine ⟨by simp [AV.flat, Value.cells], fun j e he => ?_⟩
    simp only [AV.flat, List.getElem?_map, Array.getElem?_toList, Option.map_eq_some_iff] at he
    obtain ⟨x, hx, rfl⟩ := he
    exact ⟨x, hx, .inl (rep_ofV x), ofV_idLt n x, ofV_flatB x⟩
  | slice A n c =>
    have hf : (zeroOf (.slice A n c)).flat = [zeroOf (.slice A n c)] := by
      unfold zeroOf ofV
      cases A <;> cases n <;> cases c <;> rfl
    rw [hf]
    refine ⟨rfl, fun j e he => ?_⟩
    cases j with
    | zero => simp at he; subst he; exact ⟨_, rfl, .inl (rep_zeroOf _), ofV_idLt _ (.slice A n c), ofV_flatB (.slice A n c)⟩
    | succ j => simp at he
  | _ =>
    refine ⟨rfl, fun j e he => ?_⟩
    cases j with
    | zero => 
      simp [zeroOf, ofV, AV.flat] at he
      subst he
      exact ⟨_, rfl, .inl (RepZ.v _), trivial, rfl⟩
    | succ j => simp [zeroOf, ofV, AV.flat] at he

theorem RR.newVar {X : Ctx} {st : St} {a : Act} (h : RR X M loc st a w) (E k : Nat) (e : AV) (cs : Array Value) (hk : e.flat.length = k) (hlen : cs.size = k)
    (hrep : ∀ (j : Nat) (e' : AV), e.flat[j]? = some e' → ∃ x, cs[j]? = some x ∧ RepC w M loc st.heap.length x e') {s : Sem Value} (hs : s.run P w = .ok (.pointer (some ⟨w.heap.size, 0, none⟩)) (w.alloc (.cells cs E))) :
    EffOK P X st a w M (do pure (Next.value (← s))) (.el st.heap.length k 0 0) (st.heap ++ [.row ⟨E, k, [e]⟩]) := by
  have hr := h.newRow E k [e] cs (by simpa using hk) (by simpa using hlen) (by rw [flat_single]; exact hrep) (by unfold maxLen; simp)
  refine EffOK.lift hs hr ?_ (by simp [AV.idLt])
  exact ⟨w.heap.size, 1, 1, by simp, by simp⟩

theorem flatMap_set {es : List AV} {k : Nat} (hk : ∀ e ∈ es, e.flat.length = k) {i : Nat} (hi : i < es.length) {e' : AV} (he : e'.flat.length = k) :
    (es.set i e').flatMap AV.flat = (es.flatMap AV.flat).take (i * k) ++ e'.flat ++ (es.flatMap AV.flat).drop (i * k + k) := by
  induction es generalizing i with
  | nil => simp at hi
  | cons e es ih =>
    have h0 : e.flat.length = k := hk e (by simp)
    cases i with
    | zero =>
      simp only [List.set_cons_zero, List.flatMap_cons, Nat.zero_mul, List.take_zero, List.nil_append, Nat.zero_add]
      rw [List.drop_append, List.drop_eq_nil_of_le (by omega), List.nil_append, h0, Nat.sub_self, List.drop_zero]
    | succ i =>
      simp only [List.set_cons_succ, List.flatMap_cons]
      rw [ih (fun e he => hk e (by simp [he])) (by simpa using hi)]
      have e1 : (i + 1) * k = e.flat.length + i * k := by rw [Nat.succ_mul]; omega
      rw [e1, Nat.add_assoc, List.take_length_add_append, List.drop_length_add_append]
      simp only [List.append_assoc]

end
end Go.Ab
