/-
  The arguments of the laws of layer 6, read.
-/
import Derived.Test.YtgfgajofilcniaaRows
import Derived.Test.YtgfgajofilcniaaSealP
import Derived.Test.YtgfgajofilcniaaFw5
set_option linter.all false
namespace Go.Proofs.Ytgfgajofilcniaa
open Go.ChangeShapes Go.WideShapes Go.ChangeAt Go.RowKit Go.Ab

theorem Try.own : ownKnob Try.prog.godebug = none := by kernel_rfl
theorem Try.laidOut : laidOutB Try.prog = true := by kernel_rfl

theorem el_e {H : Type} {enc : TypeId × Value → H} {W : World} {base : Nat} {M : Nat → Prop} : ∀ n cs y, DataW.trod enc Try.prog W base (fun _ => true) true n 24 cs = some y → cs.length = 2 → ∃ x : E, ∀ (j : Nat) (c : Value) (z : AV), cs[j]? = some c → (eo x).flat[j]? = some z → RepZ W M c z := by
  intro n cs y h hl
  match cs, hl with
  | [c0, c1], _ =>
    obtain ⟨n0, y0, h0⟩ := field_cell (c := c0) Try.underlying24 h (i := 0) rfl (by kernel_rfl) rfl
    obtain ⟨n1, y1, h1⟩ := field_cell (c := c1) Try.underlying24 h (i := 1) rfl (by kernel_rfl) rfl
    obtain ⟨a, rfl⟩ := cells_of_one Try.underlying3 h0
    obtain ⟨b, rfl, _⟩ := cells_of_string Try.underlying9 h1
    refine ⟨⟨a, b⟩, fun j x z hx hz => ?_⟩
    match j with
    | 0 => simp [AV.flat_agg] at hx hz; subst hx; subst hz; exact .v _
    | 1 => simp [AV.flat_agg] at hx hz; subst hx; subst hz; exact .v _
    | j + 2 => simp at hx

theorem rep_es {H : Type} {enc : TypeId × Value → H} {W : World} {base : Nat} {v : Value} {d : DataW H} {p : List MemPlace} {M : Nat → Prop} {r : Go.Reach} {b0 : Nat} (hM : ∀ b, b < W.heap.size → M b)
    (hval : Value.okWide Try.prog W r b0 22 v) (h : DataW.Trod enc Try.prog W base (fun _ => true) true 22 v d p) : ∃ L : List E, L.length ≤ maxLen ∧ RepZ W M v (.sl (L.map eo)) :=
  rep_sliceV eo 2 (by decide) (fun _ => rfl) Try.underlying22 (by kernel_rfl) hM el_e hval h

theorem el_g {H : Type} {enc : TypeId × Value → H} {W : World} {base : Nat} {M : Nat → Prop} : ∀ n cs y, DataW.trod enc Try.prog W base (fun _ => true) true n 31 cs = some y → cs.length = 3 → ∃ x : G, ∀ (j : Nat) (c : Value) (z : AV), cs[j]? = some c → (go x).flat[j]? = some z → RepZ W M c z := by
  intro n cs y h hl
  match cs, hl with
  | [c0, c1, c2], _ =>
    obtain ⟨n0, y0, h0⟩ := field_cell (c := c0) Try.underlying31 h (i := 0) rfl (by kernel_rfl) rfl
    obtain ⟨n1, y1, h1⟩ := field_cell (c := c1) Try.underlying31 h (i := 1) rfl (by kernel_rfl) rfl
    obtain ⟨n2, y2, h2⟩ := field_cell (c := c2) Try.underlying31 h (i := 2) rfl (by kernel_rfl) rfl
    obtain ⟨a, rfl⟩ := cells_of_one Try.underlying3 h0
    obtain ⟨b, rfl, _⟩ := cells_of_string Try.underlying9 h1
    obtain ⟨c, rfl⟩ := cells_of_one Try.underlying3 h2
    refine ⟨⟨a, b, c⟩, fun j x z hx hz => ?_⟩
    match j with
    | 0 => simp [AV.flat_agg] at hx hz; subst hx; subst hz; exact .v _
    | 1 => simp [AV.flat_agg] at hx hz; subst hx; subst hz; exact .v _
    | 2 => simp [AV.flat_agg] at hx hz; subst hx; subst hz; exact .v _
    | j + 3 => simp at hx

theorem rep_sg {H : Type} {enc : TypeId × Value → H} {W : World} {base : Nat} {v : Value} {d : DataW H} {p : List MemPlace} {M : Nat → Prop} {r : Go.Reach} {b0 : Nat} (_hM : ∀ b, b < W.heap.size → M b)
    (hval : Value.okWide Try.prog W r b0 31 v) (h : DataW.Trod enc Try.prog W base (fun _ => true) true 31 v d p) : ∃ g : G, True ∧ RepZ W M v (go g) :=
  rep_structV (fun g : G => [ii g.key, ss g.text, ii g.mark]) 3 (fun _ => rfl) Try.underlying31 (by kernel_rfl) el_g hval h

theorem rep_e {H : Type} {enc : TypeId × Value → H} {W : World} {base : Nat} {v : Value} {d : DataW H} {p : List MemPlace} {M : Nat → Prop} {r : Go.Reach} {b0 : Nat} (_hM : ∀ b, b < W.heap.size → M b)
    (hval : Value.okWide Try.prog W r b0 24 v) (h : DataW.Trod enc Try.prog W base (fun _ => true) true 24 v d p) : ∃ g : E, True ∧ RepZ W M v (eo g) :=
  rep_structV (fun g : E => [ii g.key, ss g.text]) 2 (fun _ => rfl) Try.underlying24 (by kernel_rfl) el_e hval h

end Go.Proofs.Ytgfgajofilcniaa
