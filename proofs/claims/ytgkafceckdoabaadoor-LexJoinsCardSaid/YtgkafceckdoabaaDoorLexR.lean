/-
  The arguments of the laws of layer 14, read; the package-level variable.
-/
import Derived.Test.YtgkafceckdoabaaDoorRows
import Derived.Test.YtgkafceckdoabaaDoorLexS
import Derived.Test.YtgkafceckdoabaaDoorAbsLift2
import Derived.LaidLaws
import Derived.Handed
import Derived.FnData
import Derived.OpenShut
set_option linter.all false
namespace Go.Proofs.YtgkafceckdoabaaDoor
open Go.ChangeShapes Go.WideShapes Go.ChangeAt Go.RowKit Go.Ab

theorem Tryd.own : ownKnob Tryd.prog.godebug = none := by kernel_rfl
theorem Tryd.laidOut : laidOutB Tryd.prog = true := by kernel_rfl

theorem rep_string {H : Type} {enc : TypeId × Value → H} {W : World} {base : Nat} {v : Value} {d : DataW H} {p : List MemPlace} {M : Nat → Prop} {r : Go.Reach} {b0 : Nat} (_hM : ∀ b, b < W.heap.size → M b)
    (hval : Value.okWide Tryd.prog W r b0 9 v) (h : DataW.Trod enc Tryd.prog W base (fun _ => true) true 9 v d p) : ∃ l : By, l.length ≤ maxLen ∧ RepZ W M v (ss l) := by
  obtain ⟨s, rfl, _, _, hs⟩ := Go.ChangeMaps.open_string Tryd.underlying9 hval h
  obtain ⟨l, rfl⟩ := toB s
  exact ⟨l, by simpa [ByteArray.size] using hs, .v _⟩

theorem el_tk {H : Type} {enc : TypeId × Value → H} {W : World} {base : Nat} {M : Nat → Prop} : ∀ n cs y, DataW.trod enc Tryd.prog W base (fun _ => true) true n 25 cs = some y → cs.length = 4 → ∃ x : Tk, ∀ (j : Nat) (c : Value) (z : AV), cs[j]? = some c → (tk x).flat[j]? = some z → RepZ W M c z := by
  intro n cs y h hl
  match cs, hl with
  | [c0, c1, c2, c3], _ =>
    obtain ⟨n0, y0, h0⟩ := field_cell (c := c0) Tryd.underlying25 h (i := 0) rfl (by kernel_rfl) rfl
    obtain ⟨n1, y1, h1⟩ := field_cell (c := c1) Tryd.underlying25 h (i := 1) rfl (by kernel_rfl) rfl
    obtain ⟨n2, y2, h2⟩ := field_cell (c := c2) Tryd.underlying25 h (i := 2) rfl (by kernel_rfl) rfl
    obtain ⟨n3, y3, h3⟩ := field_cell (c := c3) Tryd.underlying25 h (i := 3) rfl (by kernel_rfl) rfl
    obtain ⟨a, rfl⟩ := cells_of_one Tryd.underlying3 h0
    obtain ⟨b, rfl, _⟩ := cells_of_string Tryd.underlying9 h1
    obtain ⟨c, rfl⟩ := cells_of_one Tryd.underlying3 h2
    obtain ⟨d, rfl⟩ := cells_of_one Tryd.underlying3 h3
    obtain ⟨l, rfl⟩ := toB b
    refine ⟨⟨a, l, c, d⟩, fun j x z hx hz => ?_⟩
    match j with
    | 0 => simp [AV.flat_agg] at hx hz; subst hx; subst hz; exact .v _
    | 1 => simp [AV.flat_agg] at hx hz; subst hx; subst hz; exact .v _
    | 2 => simp [AV.flat_agg] at hx hz; subst hx; subst hz; exact .v _
    | 3 => simp [AV.flat_agg] at hx hz; subst hx; subst hz; exact .v _
    | j + 4 => simp at hx

theorem rep_tks {H : Type} {enc : TypeId × Value → H} {W : World} {base : Nat} {v : Value} {d : DataW H} {p : List MemPlace} {M : Nat → Prop} {r : Go.Reach} {b0 : Nat} (hM : ∀ b, b < W.heap.size → M b)
    (hval : Value.okWide Tryd.prog W r b0 22 v) (h : DataW.Trod enc Tryd.prog W base (fun _ => true) true 22 v d p) : ∃ L : List Tk, L.length ≤ maxLen ∧ RepZ W M v (.sl (L.map tk)) :=
  rep_sliceV tk 4 (by decide) (fun _ => rfl) Tryd.underlying22 (by kernel_rfl) hM el_tk hval h

/-- From what is laid to the walk's fact. -/
theorem glob_of_laid {W : World} (h : laidMet Tryd.prog Rows.lexTellsRow.laid W) : GlobW W (fun b => b < W.heap.size) := by
  obtain ⟨ps, ⟨g, t, cs, fuel, p, q, hg, ht, hvar, hd, _, _⟩, _⟩ := h
  obtain rfl : g = 0 := by
    have : some g = some 0 := hg.symm.trans (by kernel_rfl)
    simpa using this
  obtain rfl : t = 44 := by
    have : some t = some 44 := ht.symm.trans (by kernel_rfl)
    simpa using this
  obtain ⟨xs, m, _, hx, hl, hxl, hi⟩ := DataW.trod_array Tryd.underlying44 hd
  have hC : Tryd.prog.cellsOf 44 = 11 := by kernel_rfl
  have hC1 : Tryd.prog.cellsOf 9 = 1 := by kernel_rfl
  rw [hC] at hl
  simp only [hC1, Nat.mul_one] at hi
  have hcell : ∀ (j : Nat) (bs : List UInt8), (xs.map (·.1))[j]? = some (.lit (.string bs)) → W.cell? ⟨0, j, none⟩ = some (.string ⟨bs.toArray⟩) := by
    intro j bs hj
    have hjl : j < 11 := by
      have := (List.getElem?_eq_some_iff.1 hj).1
      rw [List.length_map, hxl] at this; exact this
    have h1 := hi j hjl
    rw [List.getElem?_map] at hj
    cases hxj : xs[j]? with
    | none => rw [hxj] at hj; cases hj
    | some x =>
      rw [hxj] at hj h1
      obtain ⟨s, e1, e2, _⟩ := DataW.trod_string Tryd.underlying9 h1
      rw [e2] at hj
      have hs : s.data.toList = bs := by simpa using hj
      have hjc : j < cs.toList.length := by rw [hl]; exact hjl
      rw [List.drop_eq_getElem_cons hjc, List.take_succ_cons, List.take_zero] at e1
      have e3 : cs.toList[j] = .string s := by simpa using e1
      have := World.var?_cell hg hvar j
      rw [this, ← Array.getElem?_toList, List.getElem?_eq_getElem hjc, e3, ← hs]
  intro pr hpr
  obtain rfl : pr = (0, signs.map fun l => Value.string (B l)) := by simpa [globs, signs] using hpr
  have hdat : xs.map (·.1) = signs.map fun l => (.lit (.string l)) := by
    have := (Prod.mk.inj hx).1
    simpa [signs, Rows.laid_stokvel_lex_signs] using this.symm
  have hc : ∀ (j : Nat) (c : Value), (signs.map fun l => Value.string (B l))[j]? = some c → W.cell? ⟨0, j, none⟩ = some c := by
    intro j c hj
    rw [List.getElem?_map, Option.map_eq_some_iff] at hj
    obtain ⟨l, hl, rfl⟩ := hj
    exact hcell j l (by rw [hdat, List.getElem?_map, hl]; rfl)
  refine ⟨?_, hc⟩
  have := World.block_lt_of_cell? W _ (hc 0 _ rfl)
  exact this

/-- The settled world, with the variable as it is laid. -/
noncomputable def laidWorld (os : Os) : World :=
  let w0 := World.holding Tryd.prog os ⟨#[], #[], []⟩
  { w0 with heap := w0.heap.modify 0 fun
      | .cells _ t frozen => .cells (signs.map fun l => Value.string (B l)).toArray t frozen
      | o => o }
theorem laid_met (os : Os) (args : Array Value) : laidMet Tryd.prog Rows.lexTellsRow.laid ((laidWorld os).forCall (fun _ _ => 0) ⟨#[], args, []⟩).memory :=
  laidMet_of_run (ps := (List.range 11).map fun i => .cell 0 i) 8 (by kernel_rfl) (by kernel_rfl) (by kernel_rfl)

end Go.Proofs.YtgkafceckdoabaaDoor
