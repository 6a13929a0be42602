import Derived.Test.YtebinaffldlihaaGreatDoorRows
import Derived.Test.YtebinaffldlihaaGreatDoorFw5
import Derived.Test.YtebinaffldlihaaGreatDoorFracC
set_option linter.all false
namespace Go.Proofs.YtebinaffldlihaaGreatDoor
open Go.ChangeShapes Go.WideShapes Go.ChangeAt Go.RowKit Go.Ab
theorem Tryz.own : ownKnob Tryz.prog.godebug = none := by kernel_rfl
theorem Tryz.laidOut : laidOutB Tryz.prog = true := by kernel_rfl
set_option maxRecDepth 100000 in
theorem qE {H : Type} {enc : TypeId × Value → H} {W : World} {base : Nat} {v : Value} {d : DataW H} {p : List MemPlace} {M : Nat → Prop} {r : Go.Reach} {b0 : Nat} (_hM : ∀ b, b < W.heap.size → M b)
    (hval : Value.okWide Tryz.prog W r b0 9 v) (h : DataW.Trod enc Tryz.prog W base (fun _ => true) true 9 v d p) : ∃ l : List UInt8, l.length ≤ maxLen ∧ RepZ W M v (sb l) := by
  obtain ⟨s, rfl, _, _, hs⟩ := Go.ChangeMaps.open_string Tryz.underlying9 hval h
  obtain ⟨l⟩ := s
  obtain ⟨l⟩ := l
  exact ⟨l, by simpa [ByteArray.size] using hs, .v _⟩
structure BA where
  s : Int
  L : List Int
  h : L.length ≤ 9223372036854775807
theorem vU {H : Type} {enc : TypeId × Value → H} {W : World} {base : Nat} {M : Nat → Prop} (hM : ∀ b, b < W.heap.size → M b) : ∀ n cs y, DataW.trod enc Tryz.prog W base (fun _ => true) true n 24 cs = some y → cs.length = 2 → ∃ x : BA, ∀ (j : Nat) (c : Value) (z : AV), cs[j]? = some c → (big2 x.s x.L).flat[j]? = some z → RepZ W M c z := by
  intro n cs y h hl
  match cs, hl with
  | [c0, c1], _ =>
    obtain ⟨n0, y0, h0⟩ := kR (c := c0) Tryz.underlying24 h (i := 0) rfl (by kernel_rfl) rfl
    obtain ⟨n1, y1, h1⟩ := kR (c := c1) Tryz.underlying24 h (i := 1) rfl (by kernel_rfl) rfl
    obtain ⟨a, rfl⟩ := n7 Tryz.underlying3 h0
    obtain ⟨v, hv, L, hL, hr⟩ := tB (M := M) ii 1 (by decide) (fun _ => rfl) Tryz.underlying22 (by kernel_rfl) hM (yX Tryz.underlying3) h1
    have : v = c1 := by simpa using hv.symm
    subst this
    refine ⟨⟨a, L, by have : maxLen = 9223372036854775807 := rfl; omega⟩, fun j x z hx hz => ?_⟩
    match j with
    | 0 => simp [AV.flat_agg] at hx hz; subst hx; subst hz; exact .v _
    | 1 => simp [AV.flat_agg] at hx hz; subst hx; subst hz; exact hr
    | j + 2 => simp at hx
theorem j1 {H : Type} {enc : TypeId × Value → H} {P : Program} {W : World} {base : Nat} {spare : Nat → Bool} {held : Bool} {e : TypeId} {fs : Array Field} {n : Nat} {cs : List Value} {y : DataW H × List MemPlace} (he : P.underlying e = some (.struct fs)) (h : DataW.trod enc P W base spare held n e cs = some y) {i : Nat} {f : Field} (hf : fs[i]? = some f) :
    ∃ n' y', DataW.trod enc P W base spare held n' f.type ((cs.drop f.offset).take (P.cellsOf f.type)) = some y' := by
  obtain ⟨ys, n', _, _, _, hyl, hff⟩ := DataW.trod_struct he h
  have h1 := hff i f hf
  have hjl : i < fs.size := (Array.getElem?_eq_some_iff.1 hf).1
  rw [List.getElem?_eq_getElem (by omega : i < ys.length)] at h1
  exact ⟨n', _, h1⟩
structure FA where
  s : Int
  L : List Int
  h : L.length ≤ 9223372036854775807
  t : Int
  K : List Int
  g : K.length ≤ 9223372036854775807
theorem xJ {H : Type} {enc : TypeId × Value → H} {W : World} {base : Nat} {M : Nat → Prop} (hM : ∀ b, b < W.heap.size → M b) : ∀ n cs y, DataW.trod enc Tryz.prog W base (fun _ => true) true n 26 cs = some y → cs.length = 4 → ∃ x : FA, ∀ (j : Nat) (c : Value) (z : AV), cs[j]? = some c → (frac4 x.s x.L x.t x.K).flat[j]? = some z → RepZ W M c z := by
  intro n cs y h hl
  match cs, hl with
  | [c0, c1, c2, c3], _ =>
    obtain ⟨n0, y0, h0⟩ := j1 Tryz.underlying26 h (i := 0) rfl
    obtain ⟨n1, y1, h1⟩ := j1 Tryz.underlying26 h (i := 1) rfl
    have hC : Tryz.prog.cellsOf 24 = 2 := by kernel_rfl
    have h0 : DataW.trod enc Tryz.prog W base (fun _ => true) true n0 24 (([c0, c1, c2, c3].drop 0).take (Tryz.prog.cellsOf 24)) = some y0 := h0
    have h1 : DataW.trod enc Tryz.prog W base (fun _ => true) true n1 24 (([c0, c1, c2, c3].drop 2).take (Tryz.prog.cellsOf 24)) = some y1 := h1
    rw [hC] at h0 h1
    obtain ⟨a, ha⟩ := vU (M := M) hM n0 [c0, c1] y0 h0 rfl
    obtain ⟨b, hb⟩ := vU (M := M) hM n1 [c2, c3] y1 h1 rfl
    refine ⟨⟨a.s, a.L, a.h, b.s, b.L, b.h⟩, fun j x z hx hz => ?_⟩
    match j with
    | 0 => exact ha 0 x z hx hz
    | 1 => exact ha 1 x z hx hz
    | 2 => exact hb 0 x z hx hz
    | 3 => exact hb 1 x z hx hz
    | j + 4 => simp at hx
set_option maxRecDepth 100000 in
theorem oL {H : Type} {enc : TypeId × Value → H} {W : World} {base : Nat} {v : Value} {d : DataW H} {p : List MemPlace} {M : Nat → Prop} {r : Go.Reach} {b0 : Nat} (hM : ∀ b, b < W.heap.size → M b)
    (hval : Value.okWide Tryz.prog W r b0 26 v) (h : DataW.Trod enc Tryz.prog W base (fun _ => true) true 26 v d p) : ∃ x : FA, True ∧ RepZ W M v (frac4 x.s x.L x.t x.K) :=
  oO (fun x : FA => [ii x.s, il x.L, ii x.t, il x.K]) 4 (fun _ => rfl) Tryz.underlying26 (by kernel_rfl) (xJ hM) hval h
theorem n6 {W : World} (hSh : W.ShapedOpen Tryz.prog) (h : laidMet Tryz.prog Rows.fracTellsRow.laid W) : GlobW W (fun b => b < W.heap.size) :=
  tD (g := 3) (cs := Lib.pow10Tab.map fun z => Value.int .u64 z) (by rw [globs]; kernel_rfl)
    (tC (zs := Lib.pow10Tab) h (n := "internal/strconv.uint64pow10") (List.mem_of_getElem? (i := 2) (by kernel_rfl)) (len := 20) (by kernel_rfl) (by kernel_rfl) Tryz.underlying139 Tryz.underlying59 (by kernel_rfl) (by kernel_rfl))
    (fun g hg => by
      have : g = 0 := by rw [globI] at hg; simpa using hg
      subst this
      exact qG hSh (g := 0) (zero := #[.int .i64 0]) (t := 3) (u := 3) (of_decide_eq_true (by kernel_rfl)) (by kernel_rfl) (by kernel_rfl) (by kernel_rfl) (by kernel_rfl) Tryz.underlying3)
noncomputable def laidWorld (os : Os) : World := layAll Tryz.prog (World.holding Tryz.prog os ⟨#[], #[], []⟩) Rows.fracTellsRow.laid
theorem uZ (os : Os) (args : Array Value) : laidMet Tryz.prog Rows.fracTellsRow.laid ((laidWorld os).forCall (fun _ _ => 0) ⟨#[], args, []⟩).memory :=
  laidMet_of_run3 8 (by kernel_rfl) (by kernel_rfl) (by kernel_rfl)
end Go.Proofs.YtebinaffldlihaaGreatDoor
