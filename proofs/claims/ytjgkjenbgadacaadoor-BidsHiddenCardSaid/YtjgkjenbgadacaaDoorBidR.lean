/-
  The arguments of the laws of layer 24, read; the package-level variables.
-/
import Derived.Test.YtjgkjenbgadacaaDoorRows
import Derived.Test.YtjgkjenbgadacaaDoorFw5
import Derived.Test.YtjgkjenbgadacaaDoorBidK
set_option linter.all false
namespace Go.Proofs.YtjgkjenbgadacaaDoor
open Go.ChangeShapes Go.WideShapes Go.ChangeAt Go.RowKit Go.Ab

theorem Tryd.own : ownKnob Tryd.prog.godebug = none := by kernel_rfl
theorem Tryd.laidOut : laidOutB Tryd.prog = true := by kernel_rfl

set_option maxRecDepth 100000 in
theorem rep_is {H : Type} {enc : TypeId × Value → H} {W : World} {base : Nat} {v : Value} {d : DataW H} {p : List MemPlace} {M : Nat → Prop} {r : Go.Reach} {b0 : Nat} (hM : ∀ b, b < W.heap.size → M b)
    (hval : Value.okWide Tryd.prog W r b0 25 v) (h : DataW.Trod enc Tryd.prog W base (fun _ => true) true 25 v d p) : ∃ L : List Int, L.length ≤ maxLen ∧ RepZ W M v (.sl (L.map ii)) :=
  rep_sliceV ii 1 (by decide) (fun _ => rfl) Tryd.underlying25 (by kernel_rfl) hM (el_int Tryd.underlying3) hval h

set_option maxRecDepth 100000 in
theorem el_b {H : Type} {enc : TypeId × Value → H} {W : World} {base : Nat} {M : Nat → Prop} : ∀ n cs y, DataW.trod enc Tryd.prog W base (fun _ => true) true n 4 cs = some y → cs.length = 1 → ∃ x : Bool, ∀ (j : Nat) (c : Value) (z : AV), cs[j]? = some c → (bb x).flat[j]? = some z → RepZ W M c z := by
  intro n cs y h hl
  match cs, hl with
  | [c0], _ =>
    obtain ⟨a, rfl⟩ := cells_of_bool Tryd.underlying4 h
    refine ⟨a, fun j x z hx hz => ?_⟩
    match j with
    | 0 => simp [AV.flat_v] at hx hz; subst hx; subst hz; exact .v _
    | j + 1 => simp at hx
set_option maxRecDepth 100000 in
theorem rep_bs {H : Type} {enc : TypeId × Value → H} {W : World} {base : Nat} {v : Value} {d : DataW H} {p : List MemPlace} {M : Nat → Prop} {r : Go.Reach} {b0 : Nat} (hM : ∀ b, b < W.heap.size → M b)
    (hval : Value.okWide Tryd.prog W r b0 44 v) (h : DataW.Trod enc Tryd.prog W base (fun _ => true) true 44 v d p) : ∃ L : List Bool, L.length ≤ maxLen ∧ RepZ W M v (.sl (L.map bb)) :=
  rep_sliceV bb 1 (by decide) (fun _ => rfl) Tryd.underlying44 (by kernel_rfl) hM el_b hval h

set_option maxRecDepth 100000 in
theorem el_bid {H : Type} {enc : TypeId × Value → H} {W : World} {base : Nat} {M : Nat → Prop} : ∀ n cs y, DataW.trod enc Tryd.prog W base (fun _ => true) true n 24 cs = some y → cs.length = 4 → ∃ x : Bd, ∀ (j : Nat) (c : Value) (z : AV), cs[j]? = some c → (ob x).flat[j]? = some z → RepZ W M c z := by
  intro n cs y h hl
  match cs, hl with
  | [c0, c1, c2, c3], _ =>
    obtain ⟨n0, y0, h0⟩ := field_cell (c := c0) Tryd.underlying24 h (i := 0) rfl (by kernel_rfl) rfl
    obtain ⟨n1, y1, h1⟩ := field_cell (c := c1) Tryd.underlying24 h (i := 1) rfl (by kernel_rfl) rfl
    obtain ⟨n2, y2, h2⟩ := field_cell (c := c2) Tryd.underlying24 h (i := 2) rfl (by kernel_rfl) rfl
    obtain ⟨n3, y3, h3⟩ := field_cell (c := c3) Tryd.underlying24 h (i := 3) rfl (by kernel_rfl) rfl
    obtain ⟨a, rfl⟩ := cells_of_one Tryd.underlying3 h0
    obtain ⟨b, rfl⟩ := cells_of_one Tryd.underlying3 h1
    obtain ⟨c, rfl⟩ := cells_of_one Tryd.underlying3 h2
    obtain ⟨d, rfl⟩ := cells_of_bool Tryd.underlying4 h3
    refine ⟨⟨a, b, c, d⟩, fun j x z hx hz => ?_⟩
    match j with
    | 0 => simp [AV.flat_agg] at hx hz; subst hx; subst hz; exact .v _
    | 1 => simp [AV.flat_agg] at hx hz; subst hx; subst hz; exact .v _
    | 2 => simp [AV.flat_agg] at hx hz; subst hx; subst hz; exact .v _
    | 3 => simp [AV.flat_agg] at hx hz; subst hx; subst hz; exact .v _
    | j + 4 => simp at hx
set_option maxRecDepth 100000 in
theorem rep_bids {H : Type} {enc : TypeId × Value → H} {W : World} {base : Nat} {v : Value} {d : DataW H} {p : List MemPlace} {M : Nat → Prop} {r : Go.Reach} {b0 : Nat} (hM : ∀ b, b < W.heap.size → M b)
    (hval : Value.okWide Tryd.prog W r b0 22 v) (h : DataW.Trod enc Tryd.prog W base (fun _ => true) true 22 v d p) : ∃ L : List Bd, L.length ≤ maxLen ∧ RepZ W M v (bl L) :=
  rep_sliceV ob 4 (by decide) (fun _ => rfl) Tryd.underlying22 (by kernel_rfl) hM el_bid hval h
set_option maxRecDepth 100000 in
theorem rep_bid {H : Type} {enc : TypeId × Value → H} {W : World} {base : Nat} {v : Value} {d : DataW H} {p : List MemPlace} {M : Nat → Prop} {r : Go.Reach} {b0 : Nat} (_hM : ∀ b, b < W.heap.size → M b)
    (hval : Value.okWide Tryd.prog W r b0 24 v) (h : DataW.Trod enc Tryd.prog W base (fun _ => true) true 24 v d p) : ∃ x : Bd, True ∧ RepZ W M v (ob x) :=
  rep_structV (fun x : Bd => [ii x.m, ii x.w, ii x.n, bb x.o]) 4 (fun _ => rfl) Tryd.underlying24 (by kernel_rfl) el_bid hval h

set_option maxRecDepth 100000 in
/-- From what is laid to the walk's fact. -/
theorem glob_of_laid {W : World} (h : laidMet Tryd.prog Rows.bidsOrderRow.laid W) : GlobW W (fun b => b < W.heap.size) :=
  globW_one (g := 0) (cs := Lib.pow10Tab.map fun z => Value.int .u64 z) (by rw [globs]; kernel_rfl)
    (glob_ints (zs := Lib.pow10Tab) h (n := "internal/strconv.uint64pow10") (List.mem_of_getElem? (i := 2) (by kernel_rfl)) (len := 20) (by kernel_rfl) (by kernel_rfl) Tryd.underlying106 Tryd.underlying93 (by kernel_rfl) (by kernel_rfl))
    (fun g hg => by rw [globI] at hg; simp at hg)

/-- The settled world, with the variables as they are laid. -/
noncomputable def laidWorld (os : Os) : World := layAll Tryd.prog (World.holding Tryd.prog os ⟨#[], #[], []⟩) Rows.bidsOrderRow.laid
set_option maxRecDepth 100000 in
theorem laid_met (os : Os) (args : Array Value) : laidMet Tryd.prog Rows.bidsOrderRow.laid ((laidWorld os).forCall (fun _ _ => 0) ⟨#[], args, []⟩).memory :=
  laidMet_of_run3 8 (by kernel_rfl) (by kernel_rfl) (by kernel_rfl)

end Go.Proofs.YtjgkjenbgadacaaDoor
