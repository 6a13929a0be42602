/-
  A call of a function whose contract speaks of rows: the caller's rows by other numbers.
-/
import Derived.Test.YtgkafceckdoabaaDoorAbsHeap
set_option linter.all false
namespace Go.Ab
open Go.RowKit

def renB (u : Nat → Nat) : AV → AV
  | .ow i => .ow (u i)
  | .el i k a b => .el (u i) k a b
  | .wn i k a b => .wn (u i) k a b
  | e => e

/-- Rows by other numbers. -/
def ren (u : Nat → Nat) : AV → AV
  | .mb g y => .mb g (ren u y)
  | .fn f a b => .fn f (a.map (renB u)) (b.map (renB u))
  | .tup es => .tup (es.map (renB u))
  | .agg es => .agg (es.map (renB u))
  | .ow i => .ow (u i)
  | .el i k a b => .el (u i) k a b
  | .wn i k a b => .wn (u i) k a b
  | e => e

def renF (u : Nat → Nat) : AV → AV
  | .agg cs => .agg (cs.map (renB u))
  | e => renB u e

def renEs (u : Nat → Nat) (es : List AV) : List AV := bif zoneEs es then es else es.map (renF u)

def renCell (u : Nat → Nat) : Cell → Cell
  | .row o => .row ⟨o.E, o.k, renEs u o.es⟩
  | c => c

/-- The numbers that a caller gives. -/
def upN (ps : List Nat) (n : Nat) (i : Nat) : Nat := if i < ps.length then ps.getD i 0 else n + (i - ps.length)

def setAll (H : List Cell) : List Nat → List Cell → List Cell
  | p :: ps, c :: cs => setAll (H.set p c) ps cs
  | _, _ => H

/-- The caller's heap behind the call. -/
def heapAfter (H : List Cell) (ps : List Nat) (H' : List Cell) : List Cell :=
  setAll H ps (H'.map (renCell (upN ps H.length))) ++ (H'.drop ps.length).map (renCell (upN ps H.length))

def okIds (m : Nat) (H : List Cell) : Prop := ∀ (i : Nat) (o : Ob), H[i]? = some (.row o) → ∀ e ∈ o.es.flatMap AV.flat, e.idLt m

section
variable {P : Program} {w w' : World} {M : Nat → Prop} {loc : Nat → Value}

theorem zoneB_ren {u : Nat → Nat} {e : AV} (h : e.zoneB = true) : renB u e = e := by
  cases e <;> first | rfl | simp [AV.zoneB] at h
theorem zone_renB {u : Nat → Nat} {e : AV} (h : e.zone = true) : renB u e = e := by
  cases e <;> first | rfl | simp [AV.zone] at h

theorem flat_renF (u : Nat → Nat) (e : AV) : (renF u e).flat = e.flat.map (renB u) := by
  cases e <;> rfl
theorem renEs_flat (u : Nat → Nat) (es : List AV) : (renEs u es).flatMap AV.flat = (es.flatMap AV.flat).map (renB u) := by
  unfold renEs
  cases hz : zoneEs es with
  | true =>
    simp only [cond_true]
    symm
    calc (es.flatMap AV.flat).map (renB u) = (es.flatMap AV.flat).map id := List.map_congr_left fun e he => by
          obtain ⟨j, hj, rfl⟩ := List.getElem_of_mem he
          exact zone_renB (zoneEs_flat hz (List.getElem?_eq_getElem hj))
      _ = es.flatMap AV.flat := List.map_id _
  | false =>
    simp only [cond_false]
    induction es with
    | nil => rfl
    | cons e es ih =>
      have : ∀ l : List AV, (l.map (renF u)).flatMap AV.flat = (l.flatMap AV.flat).map (renB u) := by
        intro l
        induction l with
        | nil => rfl
        | cons a l ih => simp only [List.map_cons, List.flatMap_cons, List.map_append, flat_renF, ih]
      exact this _
theorem renEs_len (u : Nat → Nat) (es : List AV) : (renEs u es).length = es.length := by
  unfold renEs; cases zoneEs es <;> simp
theorem renEs_k {u : Nat → Nat} {es : List AV} {k : Nat} : (∀ e ∈ renEs u es, e.flat.length = k) ↔ ∀ e ∈ es, e.flat.length = k := by
  unfold renEs
  cases zoneEs es with
  | true => rfl
  | false =>
    simp only [cond_false, List.mem_map, forall_exists_index, and_imp, forall_apply_eq_imp_iff₂, flat_renF, List.length_map]

theorem RepO.up {locL locU : Nat → Value} {n : Nat} {u : Nat → Nat} (hl : ∀ i, i < n → locU (u i) = locL i) {x : Value} {e : AV} (hi : e.idLt n) : RepO locL x e ↔ RepO locU x (renB u e) := by
  cases e with
  | ow i => simp only [RepO, renB]; rw [hl i hi]
  | el i k a b => simp only [RepO, renB]; rw [hl i hi]
  | wn i k a b => simp only [RepO, renB]; rw [hl i hi]
  | _ => exact Iff.rfl
theorem RepB.up {locL locU : Nat → Value} {n : Nat} {u : Nat → Nat} (hl : ∀ i, i < n → locU (u i) = locL i) {x : Value} {e : AV} (hi : ∀ id ∈ e.idB, id < n) : RepB w M locL x e ↔ RepB w M locU x (renB u e) := by
  have h1 : RepZ w M x e ↔ RepZ w M x (renB u e) := by
    cases e with
    | ow i => exact ⟨fun h => (h.no_ow).elim, fun h => (h.no_ow).elim⟩
    | el i k a b => exact ⟨fun h => (h.no_el).elim, fun h => (h.no_el).elim⟩
    | wn i k a b => exact ⟨fun h => (by cases h), fun h => (by cases h)⟩
    | _ => exact Iff.rfl
  unfold RepB
  rw [h1]
  by_cases hf : e.flatB = true
  · rw [RepO.up hl (idB_lt hi hf)]
  · cases e <;> simp [AV.flatB] at hf <;> exact Iff.rfl
theorem idB_renB {u : Nat → Nat} {n m : Nat} (hu : ∀ i, i < n → u i < m) {e : AV} (hi : ∀ id ∈ e.idB, id < n) : ∀ id ∈ (renB u e).idB, id < m := by
  cases e <;> simp [renB, AV.idB] at * <;> exact hu _ hi
theorem RepC.up {locL locU : Nat → Value} {n m : Nat} {u : Nat → Nat} (hl : ∀ i, i < n → locU (u i) = locL i) (hu : ∀ i, i < n → u i < m) {x : Value} {e : AV} (h : RepC w M locL n x e) : RepC w M locU m x (renB u e) := by
  have hi : ∀ id ∈ e.idB, id < n := by rw [AV.idB_ids h.2.2]; exact (idLt_iff n e).1 h.2.1
  have hf : (renB u e).flatB = true := by have := h.2.2; cases e <;> first | rfl | exact this | cases this
  exact ⟨(RepB.up hl hi).1 h.1, idB_lt (idB_renB hu hi) hf, hf⟩
theorem RepC.down {locL locU : Nat → Value} {n m : Nat} {u : Nat → Nat} (hl : ∀ i, i < n → locU (u i) = locL i) {x : Value} {e : AV} (h : RepC w M locU m x (renB u e)) (hi : e.idLt n) (hf : e.flatB = true) : RepC w M locL n x e :=
  ⟨(RepB.up hl (by rw [AV.idB_ids hf]; exact (idLt_iff n e).1 hi)).2 h.1, hi, hf⟩

theorem Rep.up {locL locU : Nat → Value} {n : Nat} {u : Nat → Nat} (hl : ∀ i, i < n → locU (u i) = locL i) {x : Value} {e : AV} (hi : e.idLt n) : Rep w M locL x e ↔ Rep w M locU x (ren u e) := by
  have lst : ∀ (cs : Array Value) (es : List AV), (∀ e ∈ es, ∀ id ∈ e.idB, id < n) → ((∀ (j : Nat) (c : Value) (e : AV), cs[j]? = some c → es[j]? = some e → RepB w M locL c e) ↔ ∀ (j : Nat) (c : Value) (e : AV), cs[j]? = some c → (es.map (renB u))[j]? = some e → RepB w M locU c e) := by
    intro cs es hb
    refine ⟨fun h j c e hc he => ?_, fun h j c e hc he => ?_⟩
    · rw [List.getElem?_map, Option.map_eq_some_iff] at he
      obtain ⟨d, hd, rfl⟩ := he
      exact (RepB.up hl (hb d (List.mem_of_getElem? hd))).1 (h j c d hc hd)
    · exact (RepB.up hl (hb e (List.mem_of_getElem? he))).2 (h j c _ hc (by rw [List.getElem?_map, he]; rfl))
  induction e using AV.zone.induct with
  | case1 id => exact RepO.up hl (e := .ow id) hi
  | case2 a b c d => exact RepO.up hl (e := .el a b c d) hi
  | case3 a b c d => exact RepO.up hl (e := .wn a b c d) hi
  | case4 f first cap =>
    have h1 := fun fs => lst fs first (fun e he => hi e (List.mem_append_left _ he))
    have h2 := fun fs => lst fs cap (fun e he => hi e (List.mem_append_right _ he))
    refine ⟨fun ⟨fs, cs, e1, e2, e3, e4, e5⟩ => ⟨fs, cs, e1, by rw [List.length_map]; exact e2, by rw [List.length_map]; exact e3, (h1 fs).1 e4, (h2 cs).1 e5⟩,
      fun ⟨fs, cs, e1, e2, e3, e4, e5⟩ => ⟨fs, cs, e1, by rw [List.length_map] at e2; exact e2, by rw [List.length_map] at e3; exact e3, (h1 fs).2 e4, (h2 cs).2 e5⟩⟩
  | case5 g y ih =>
    have := ih hi
    exact ⟨fun h => ⟨h.1, fun hg => this.1 (h.2 hg)⟩, fun h => ⟨h.1, fun hg => this.2 (h.2 hg)⟩⟩
  | case6 es =>
    have h1 := fun fs => lst fs es hi
    exact ⟨fun ⟨cs, e1, e2, e3⟩ => ⟨cs, e1, by rw [List.length_map]; exact e2, (h1 cs).1 e3⟩, fun ⟨cs, e1, e2, e3⟩ => ⟨cs, e1, by rw [List.length_map] at e2; exact e2, (h1 cs).2 e3⟩⟩
  | case7 es =>
    have h1 := fun fs => lst fs es hi
    exact ⟨fun ⟨cs, e1, e2, e3⟩ => ⟨cs, e1, by rw [List.length_map]; exact e2, (h1 cs).1 e3⟩, fun ⟨cs, e1, e2, e3⟩ => ⟨cs, e1, by rw [List.length_map] at e2; exact e2, (h1 cs).2 e3⟩⟩
  | case8 e h1 h2 h3 h4 h5 h6 h7 =>
    cases e with
    | ow id => exact (h1 _ rfl).elim
    | el a b c d => exact (h2 _ _ _ _ rfl).elim
    | wn a b c d => exact (h3 _ _ _ _ rfl).elim
    | fn a b c => exact (h4 _ _ _ rfl).elim
    | mb g y => exact (h5 _ _ rfl).elim
    | tup es => exact (h6 _ rfl).elim
    | agg es => exact (h7 _ rfl).elim
    | _ => exact Iff.rfl
theorem ren_lt {n m : Nat} {u : Nat → Nat} (hu : ∀ i, i < n → u i < m) {e : AV} (hi : e.idLt n) : (ren u e).idLt m := by
  have lst : ∀ (es : List AV), (∀ e ∈ es, ∀ id ∈ e.idB, id < n) → ∀ e ∈ es.map (renB u), ∀ id ∈ e.idB, id < m := by
    intro es hb e he
    obtain ⟨d, hd, rfl⟩ := List.mem_map.1 he
    exact idB_renB hu (hb d hd)
  induction e using AV.zone.induct with
  | case1 id => exact hu _ hi
  | case2 a b c d => exact hu _ hi
  | case3 a b c d => exact hu _ hi
  | case4 f first cap =>
    intro e he
    rw [← List.map_append] at he
    exact lst _ hi e he
  | case5 g y ih => exact ih hi
  | case6 es => exact lst es hi
  | case7 es => exact lst es hi
  | case8 e h1 h2 h3 h4 h5 h6 h7 =>
    cases e with
    | ow id => exact (h1 _ rfl).elim
    | el a b c d => exact (h2 _ _ _ _ rfl).elim
    | wn a b c d => exact (h3 _ _ _ _ rfl).elim
    | fn a b c => exact (h4 _ _ _ rfl).elim
    | mb g y => exact (h5 _ _ rfl).elim
    | tup es => exact (h6 _ rfl).elim
    | agg es => exact (h7 _ rfl).elim
    | _ => trivial

theorem setAll_len : ∀ (H : List Cell) (ps : List Nat) (cs : List Cell), (setAll H ps cs).length = H.length
  | H, [], _ => by simp [setAll]
  | H, _ :: _, [] => by simp [setAll]
  | H, p :: ps, c :: cs => by simp only [setAll]; rw [setAll_len]; simp
theorem setAll_out : ∀ (H : List Cell) (ps : List Nat) (cs : List Cell) (i : Nat), i ∉ ps → (setAll H ps cs)[i]? = H[i]?
  | H, [], _, _, _ => by simp [setAll]
  | H, _ :: _, [], _, _ => by simp [setAll]
  | H, p :: ps, c :: cs, i, h => by
    simp only [List.mem_cons, not_or] at h
    simp only [setAll]
    rw [setAll_out _ ps cs i h.2, List.getElem?_set_ne (fun e => h.1 e.symm)]
theorem setAll_in : ∀ (H : List Cell) (ps : List Nat) (cs : List Cell) (j p : Nat) (c : Cell), ps.Nodup → ps[j]? = some p → cs[j]? = some c → p < H.length → (setAll H ps cs)[p]? = some c
  | H, [], _, j, p, c, _, h, _, _ => by simp at h
  | H, _ :: _, [], j, p, c, _, _, h, _ => by simp at h
  | H, q :: ps, d :: cs, 0, p, c, hn, h1, h2, hp => by
    simp at h1 h2
    subst h1; subst h2
    simp only [setAll]
    rw [setAll_out _ ps cs q (List.nodup_cons.1 hn).1, List.getElem?_set_self hp]
  | H, q :: ps, d :: cs, j + 1, p, c, hn, h1, h2, hp => by
    simp only [setAll]
    exact setAll_in _ ps cs j p c (List.nodup_cons.1 hn).2 (by simpa using h1) (by simpa using h2) (by simpa using hp)

end
end Go.Ab
