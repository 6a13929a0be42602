/-
  The arguments of the laws of layer 4, read; the package-level variables.
-/
import Derived.Test.YtlejmkmcghbdiaaGreatDoorRows
import Derived.Test.YtlejmkmcghbdiaaGreatDoorFw5
import Derived.Test.YtlejmkmcghbdiaaGreatDoorBigZ
set_option linter.all false
namespace Go.Proofs.YtlejmkmcghbdiaaGreatDoor
open Go.ChangeShapes Go.WideShapes Go.ChangeAt Go.RowKit Go.Ab

theorem Tryz.own : ownKnob Tryz.prog.godebug = none := by kernel_rfl
theorem Tryz.laidOut : laidOutB Tryz.prog = true := by kernel_rfl

set_option maxRecDepth 100000 in
theorem rep_string {H : Type} {enc : TypeId × Value → H} {W : World} {base : Nat} {v : Value} {d : DataW H} {p : List MemPlace} {M : Nat → Prop} {r : Go.Reach} {b0 : Nat} (_hM : ∀ b, b < W.heap.size → M b)
    (hval : Value.okWide Tryz.prog W r b0 9 v) (h : DataW.Trod enc Tryz.prog W base (fun _ => true) true 9 v d p) : ∃ l : List UInt8, l.length ≤ maxLen ∧ RepZ W M v (sb l) := by
  obtain ⟨s, rfl, _, _, hs⟩ := Go.ChangeMaps.open_string Tryz.underlying9 hval h
  obtain ⟨l⟩ := s
  obtain ⟨l⟩ := l
  exact ⟨l, by simpa [ByteArray.size] using hs, .v _⟩

/-- A big integer that is given. -/
structure BA where
  s : Int
  L : List Int
  h : L.length ≤ 9223372036854775807

theorem el_big {H : Type} {enc : TypeId × Value → H} {W : World} {base : Nat} {M : Nat → Prop} (hM : ∀ b, b < W.heap.size → M b) : ∀ n cs y, DataW.trod enc Tryz.prog W base (fun _ => true) true n 24 cs = some y → cs.length = 2 → ∃ x : BA, ∀ (j : Nat) (c : Value) (z : AV), cs[j]? = some c → (big2 x.s x.L).flat[j]? = some z → RepZ W M c z := by
  intro n cs y h hl
  match cs, hl with
  | [c0, c1], _ =>
    obtain ⟨n0, y0, h0⟩ := field_cell (c := c0) Tryz.underlying24 h (i := 0) rfl (by kernel_rfl) rfl
    obtain ⟨n1, y1, h1⟩ := field_cell (c := c1) Tryz.underlying24 h (i := 1) rfl (by kernel_rfl) rfl
    obtain ⟨a, rfl⟩ := cells_of_one Tryz.underlying3 h0
    obtain ⟨v, hv, L, hL, hr⟩ := rep_slice (M := M) ii 1 (by decide) (fun _ => rfl) Tryz.underlying22 (by kernel_rfl) hM (el_int Tryz.underlying3) h1
    have : v = c1 := by simpa using hv.symm
    subst this
    refine ⟨⟨a, L, by have : maxLen = 9223372036854775807 := rfl; omega⟩, fun j x z hx hz => ?_⟩
    match j with
    | 0 => simp [AV.flat_agg] at hx hz; subst hx; subst hz; exact .v _
    | 1 => simp [AV.flat_agg] at hx hz; subst hx; subst hz; exact hr
    | j + 2 => simp at hx

set_option maxRecDepth 100000 in
theorem rep_big {H : Type} {enc : TypeId × Value → H} {W : World} {base : Nat} {v : Value} {d : DataW H} {p : List MemPlace} {M : Nat → Prop} {r : Go.Reach} {b0 : Nat} (hM : ∀ b, b < W.heap.size → M b)
    (hval : Value.okWide Tryz.prog W r b0 24 v) (h : DataW.Trod enc Tryz.prog W base (fun _ => true) true 24 v d p) : ∃ x : BA, True ∧ RepZ W M v (big2 x.s x.L) :=
  rep_structV (fun x : BA => [ii x.s, il x.L]) 2 (fun _ => rfl) Tryz.underlying24 (by kernel_rfl) (el_big hM) hval h

/-- From what is laid to the walk's fact. -/
theorem glob_of_laid {W : World} (h : laidMet Tryz.prog Rows.bigTellsRow.laid W) : GlobW W (fun b => b < W.heap.size) :=
  globW_one (g := 2) (cs := Lib.pow10Tab.map fun z => Value.int .u64 z) (by rw [globs]; kernel_rfl)
    (glob_ints (zs := Lib.pow10Tab) h (n := "internal/strconv.uint64pow10") (List.mem_of_getElem? (i := 2) (by kernel_rfl)) (len := 20) (by kernel_rfl) (by kernel_rfl) Tryz.underlying120 Tryz.underlying52 (by kernel_rfl) (by kernel_rfl))
    (fun g hg => by rw [globI] at hg; simp at hg)

/-- The settled world, with the variables as they are laid. -/
noncomputable def laidWorld (os : Os) : World := layAll Tryz.prog (World.holding Tryz.prog os ⟨#[], #[], []⟩) Rows.bigTellsRow.laid
theorem laid_met (os : Os) (args : Array Value) : laidMet Tryz.prog Rows.bigTellsRow.laid ((laidWorld os).forCall (fun _ _ => 0) ⟨#[], args, []⟩).memory :=
  laidMet_of_run3 8 (by kernel_rfl) (by kernel_rfl) (by kernel_rfl)

end Go.Proofs.YtlejmkmcghbdiaaGreatDoor
