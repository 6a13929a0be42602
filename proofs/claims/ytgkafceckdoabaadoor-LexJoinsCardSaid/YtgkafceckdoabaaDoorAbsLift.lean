/-
  From the reading of a statement's arguments to the framework's readings, and back to the statement.
-/
import Derived.Test.YtgkafceckdoabaaDoorAbsSimp
import Derived.ProofKit
import Derived.Deep.Slices
set_option linter.all false
namespace Go.Ab
open Go.RowKit Go.ChangeShapes Go.WideShapes Go.Deep

section
variable {H : Type} {enc : TypeId × Value → H} {P : Program} {W : World} {base : Nat} {spare : Nat → Bool} {held : Bool}

theorem flatMap_get {es : List AV} {k : Nat} (hk : ∀ e ∈ es, e.flat.length = k) : ∀ {j : Nat} {y : AV}, (es.flatMap AV.flat)[j]? = some y → ∃ (i r : Nat) (e : AV), j = i * k + r ∧ r < k ∧ es[i]? = some e ∧ e.flat[r]? = some y := by
  induction es with
  | nil => intro j y h; simp at h
  | cons e es ih =>
    intro j y h
    have hek := hk e (by simp)
    rw [List.flatMap_cons] at h
    by_cases hj : j < k
    · rw [List.getElem?_append_left (by omega)] at h
      exact ⟨0, j, e, by omega, hj, rfl, h⟩
    · rw [List.getElem?_append_right (by omega), hek] at h
      obtain ⟨i, r, e', h1, h2, h3, h4⟩ := ih (fun x hx => hk x (by simp [hx])) h
      refine ⟨i + 1, r, e', ?_, h2, h3, h4⟩
      rw [Nat.succ_mul]; omega

/-- A slice that is given, element by element. -/
theorem rep_slice {α : Type} (g : α → AV) (k : Nat) (hk : 0 < k) (hg : ∀ x, (g x).flat.length = k) {t e : TypeId} {fuel : Nat} {cs : List Value} {x : DataW H × List MemPlace} {M : Nat → Prop} (ht : P.underlying t = some (.slice e)) (hC : P.cellsOf e = k)
    (hM : ∀ b, b < W.heap.size → M b)
    (hel : ∀ n cs y, DataW.trod enc P W base spare held n e cs = some y → cs.length = k → ∃ x : α, ∀ (j : Nat) (c : Value) (z : AV), cs[j]? = some c → (g x).flat[j]? = some z → RepZ W M c z)
    (h : DataW.trod enc P W base spare held fuel t cs = some x) : ∃ v, cs = [v] ∧ ∃ L : List α, L.length ≤ maxLen ∧ RepZ W M v (.sl (L.map g)) := by
  rcases open_slice ht h with ⟨rfl, _⟩ | ⟨a, len, cap, m, n, D, Pl, rfl, hb, hl, hm, hmm, hx, hi⟩
  · exact ⟨_, rfl, [], Nat.zero_le _, by
      have := RepZ.sl (w := W) (M := M) none 0 k [] (fun _ => undef) (by simp) (by simp) (by simp) (by simp) (Nat.le_refl _) (Nat.zero_le _)
      exact this⟩
  · refine ⟨_, rfl, ?_⟩
    have hlm : len ≤ m := by rw [hmm]; split <;> omega
    have each : ∀ i : Fin len, ∃ (x : α) (cs' : List Value), cs'.length = k ∧ (∀ j, j < k → W.cell? (a.add (i.1 * k + j)) = cs'[j]?) ∧ ∀ (j : Nat) (c : Value) (z : AV), cs'[j]? = some c → (g x).flat[j]? = some z → RepZ W M c z := by
      rintro ⟨i, hil⟩
      obtain ⟨cs', hc, ht'⟩ := hi i (by omega)
      rw [hC] at hc
      obtain ⟨_, hcl, hat⟩ := World.cells?_some hc
      obtain ⟨x, hx⟩ := hel n cs' _ ht' hcl
      exact ⟨x, cs', hcl, fun j hj => by rw [← add_add]; exact hat j hj, hx⟩
    have hX := fun i => Classical.choose_spec (each i)
    refine ⟨List.ofFn fun i => Classical.choose (each i), by simp; omega, ?_⟩
    have hlen : ((List.ofFn fun i => Classical.choose (each i)).map g).length = len := by simp
    have hfl : ∀ e ∈ (List.ofFn fun i => Classical.choose (each i)).map g, e.flat.length = k := by
      intro e he
      obtain ⟨x, _, rfl⟩ := List.mem_map.1 he
      exact hg x
    have hcell : ∀ j, j < len * k → ∃ v, W.cell? (a.add j) = some v := by
      intro j hj
      have hi' : j / k < len := Nat.div_lt_of_lt_mul (by rw [Nat.mul_comm]; exact hj)
      obtain ⟨cs', h1, h2, _⟩ := hX ⟨j / k, hi'⟩
      have hr : j % k < k := Nat.mod_lt _ hk
      have := h2 (j % k) hr
      rw [show j / k * k + j % k = j by rw [Nat.mul_comm]; exact Nat.div_add_mod j k] at this
      exact ⟨cs'[j % k]'(by omega), by rw [this]; exact List.getElem?_eq_getElem _⟩
    have := RepZ.sl (w := W) (M := M) (some a) cap k ((List.ofFn fun i => Classical.choose (each i)).map g) (fun j => (W.cell? (a.add j)).getD undef) hfl
      (fun hne => ⟨a, rfl, hM _ (by
        have : 0 < len := by
          rw [← hlen]; exact List.length_pos_iff.2 hne
        obtain ⟨v, hv⟩ := hcell 0 (Nat.mul_pos this hk)
        have := World.block_lt_of_cell? W _ hv
        rwa [add_block] at this)⟩)
      (fun ad had j hj => by
        cases had
        rw [hlen] at hj
        obtain ⟨v, hv⟩ := hcell j hj
        rw [hv]; rfl)
      (fun j e he => by
        obtain ⟨i, r, e', rfl, hr, he', hy⟩ := flatMap_get hfl he
        rw [List.getElem?_map, List.getElem?_ofFn] at he'
        split at he'
        · rename_i hil
          simp only [Option.map_some, Option.some.injEq] at he'
          subst he'
          obtain ⟨cs', h1, h2, h3⟩ := hX ⟨i, hil⟩
          have h4 := h2 r hr
          have h5 : cs'[r]? = some (cs'[r]'(by omega)) := List.getElem?_eq_getElem _
          rw [h4, h5]
          exact h3 r _ e h5 hy
        · simp at he')
      (by rw [hlen]; exact hl) hm
    rw [hlen] at this
    exact this

theorem rep_sliceV {α : Type} (g : α → AV) (k : Nat) (hk : 0 < k) (hg : ∀ x, (g x).flat.length = k) {t e : TypeId} {v : Value} {d : DataW H} {p : List MemPlace} {M : Nat → Prop} (ht : P.underlying t = some (.slice e)) (hC : P.cellsOf e = k)
    (hM : ∀ b, b < W.heap.size → M b)
    (hel : ∀ n cs y, DataW.trod enc P W base spare held n e cs = some y → cs.length = k → ∃ x : α, ∀ (j : Nat) (c : Value) (z : AV), cs[j]? = some c → (g x).flat[j]? = some z → RepZ W M c z)
    {r : Go.Reach} {b0 : Nat} (hval : Value.okWide P W r b0 t v) (h : DataW.Trod enc P W base spare held t v d p) : ∃ L : List α, L.length ≤ maxLen ∧ RepZ W M v (.sl (L.map g)) := by
  obtain ⟨a, len, cap, rfl⟩ := okWide_slice ht hval
  obtain ⟨n, hn⟩ := h
  obtain ⟨v, hv, L, h1, h2⟩ := rep_slice g k hk hg ht hC hM hel hn
  have : v = .slice a len cap := by
    have : (Value.slice a len cap).cells.toList = [.slice a len cap] := rfl
    rw [this] at hv
    simpa using hv.symm
  subst this
  exact ⟨L, h1, h2⟩

theorem rep_int {k : IntKind} {t : TypeId} {v : Value} {d : DataW H} {p : List MemPlace} {M : Nat → Prop} (ht : P.underlying t = some (.int k)) {r : Go.Reach} {b0 : Nat} (hval : Value.okWide P W r b0 t v) (h : DataW.Trod enc P W base spare held t v d p) :
    ∃ n, (Lit.int k n).wf = true ∧ RepZ W M v (.v (.int k n)) := by
  obtain ⟨n, rfl, _, _, hw⟩ := open_int ht hval h
  exact ⟨n, hw, .v _⟩

theorem wf_i64 {n : Int} (h : (Lit.int .i64 n).wf = true) : -9223372036854775808 ≤ n ∧ n ≤ 9223372036854775807 := by
  simpa [Lit.wf, IntKind.min, IntKind.max, IntKind.signed, IntKind.bits] using h
theorem wf_u8 {n : Int} (h : (Lit.int .u8 n).wf = true) : 0 ≤ n ∧ n ≤ 255 := by
  simpa [Lit.wf, IntKind.min, IntKind.max, IntKind.signed, IntKind.bits] using h
theorem wf_u16 {n : Int} (h : (Lit.int .u16 n).wf = true) : 0 ≤ n ∧ n ≤ 65535 := by
  simpa [Lit.wf, IntKind.min, IntKind.max, IntKind.signed, IntKind.bits] using h
theorem wf_u32 {n : Int} (h : (Lit.int .u32 n).wf = true) : 0 ≤ n ∧ n ≤ 4294967295 := by
  simpa [Lit.wf, IntKind.min, IntKind.max, IntKind.signed, IntKind.bits] using h
theorem wf_u64 {n : Int} (h : (Lit.int .u64 n).wf = true) : 0 ≤ n ∧ n ≤ 18446744073709551615 := by
  simpa [Lit.wf, IntKind.min, IntKind.max, IntKind.signed, IntKind.bits] using h

theorem rep_bool {t : TypeId} {v : Value} {d : DataW H} {p : List MemPlace} {M : Nat → Prop} (ht : P.underlying t = some .bool) {r : Go.Reach} {b0 : Nat} (hval : Value.okWide P W r b0 t v) (h : DataW.Trod enc P W base spare held t v d p) :
    ∃ b, RepZ W M v (.v (.bool b)) := by
  obtain ⟨n, rfl, _, _⟩ := open_bool ht hval h
  exact ⟨n, .v _⟩

/-- An element that is an integer. -/
theorem el_int {k : IntKind} {e : TypeId} {M : Nat → Prop} (he : P.underlying e = some (.int k)) : ∀ n cs y, DataW.trod enc P W base spare held n e cs = some y → cs.length = 1 → ∃ x : Int, ∀ (j : Nat) (c : Value) (z : AV), cs[j]? = some c → (AV.v (.int k x)).flat[j]? = some z → RepZ W M c z := by
  intro n cs y h _
  obtain ⟨x, rfl, _, _⟩ := DataW.trod_int he h
  refine ⟨x, fun j c z h1 h2 => ?_⟩
  cases j with
  | zero =>
    simp only [List.getElem?_cons_zero, Option.some.injEq, AV.flat_v] at h1 h2
    subst h1; subst h2
    exact .v _
  | succ j => simp at h1

theorem cells_of_one {e : TypeId} {n : Nat} {v : Value} {y : DataW H × List MemPlace} {k : IntKind} (he : P.underlying e = some (.int k)) (h : DataW.trod enc P W base spare held n e [v] = some y) : ∃ x, v = .int k x := by
  obtain ⟨x, h, _⟩ := DataW.trod_int he h
  exact ⟨x, by simpa using h⟩
theorem cells_of_bool {e : TypeId} {n : Nat} {v : Value} {y : DataW H × List MemPlace} (he : P.underlying e = some .bool) (h : DataW.trod enc P W base spare held n e [v] = some y) : ∃ x, v = .bool x := by
  obtain ⟨x, h, _⟩ := DataW.trod_bool he h
  exact ⟨x, by simpa using h⟩
theorem cells_of_string {e : TypeId} {n : Nat} {v : Value} {y : DataW H × List MemPlace} (he : P.underlying e = some .string) (h : DataW.trod enc P W base spare held n e [v] = some y) : ∃ x : ByteArray, v = .string x ∧ x.size ≤ maxLen := by
  obtain ⟨x, h, _, hl⟩ := DataW.trod_string he h
  exact ⟨x, by simpa using h, hl⟩

/-- The cell of a field that takes one cell. -/
theorem field_cell {e : TypeId} {fs : Array Field} {n : Nat} {cs : List Value} {y : DataW H × List MemPlace} (he : P.underlying e = some (.struct fs)) (h : DataW.trod enc P W base spare held n e cs = some y) {i : Nat} {f : Field} (hf : fs[i]? = some f) (hc : P.cellsOf f.type = 1) {c : Value} (hi : cs[f.offset]? = some c) :
    ∃ n' y', DataW.trod enc P W base spare held n' f.type [c] = some y' := by
  obtain ⟨ys, n', _, _, _, hyl, hff⟩ := DataW.trod_struct he h
  have h1 := hff i f hf
  rw [hc] at h1
  obtain ⟨hlt, hge⟩ := List.getElem?_eq_some_iff.1 hi
  rw [List.drop_eq_getElem_cons hlt, List.take_succ_cons, List.take_zero, hge] at h1
  have hjl : i < fs.size := (Array.getElem?_eq_some_iff.1 hf).1
  rw [List.getElem?_eq_getElem (by omega : i < ys.length)] at h1
  exact ⟨n', _, h1⟩

theorem trodAll_stays (hl : laidOutB P = true) {W' : World} {sp' : Nat → Bool} : ∀ {ts : List TypeId} {vs : List Value} {ds : List (DataW H)} {ps : List MemPlace}, ts.all (fun t => P.readableRec t && decide (t < P.types.size)) = true → DataW.TrodAll enc P W base (fun _ => true) true ts vs ds ps → (∀ p ∈ ps, W.sameAt W' p) → (∀ p ∈ ps, sp' p.block = true) → DataW.TrodAll enc P W' base sp' true ts vs ds ps
  | [], _, _, _, _, h, _, _ => by
    obtain ⟨rfl, rfl, rfl⟩ := trodAll_nil h
    rfl
  | _ :: _, _, _, _, hr, h, h1, h2 => by
    obtain ⟨v, vs, d, ds, p, q, rfl, rfl, rfl, ha, hb⟩ := trodAll_cons h
    simp only [List.all_cons, Bool.and_eq_true, decide_eq_true_eq] at hr
    exact ⟨p, q, WideElems.Trod_stays hl hr.1.1 hr.1.2 ha (fun x hx => h1 x (by simp [hx])) (fun x hx => h2 x (by simp [hx])), trodAll_stays hl hr.2 hb (fun x hx => h1 x (by simp [hx])) (fun x hx => h2 x (by simp [hx])), rfl⟩
end
end Go.Ab
