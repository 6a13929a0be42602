/-
  The arguments of the laws of layer 35, read.
-/
import Derived.Test.YtflcmfeafiippaaRows
import Derived.Test.YtflcmfeafiippaaJuryG
import Derived.Test.YtflcmfeafiippaaFw5
set_option linter.all false
namespace Go.Proofs.Ytflcmfeafiippaa
open Go.ChangeShapes Go.WideShapes Go.ChangeAt Go.RowKit Go.Ab

theorem Try.own : ownKnob Try.prog.godebug = none := by kernel_rfl
theorem Try.laidOut : laidOutB Try.prog = true := by kernel_rfl

theorem rep_is {H : Type} {enc : TypeId × Value → H} {W : World} {base : Nat} {v : Value} {d : DataW H} {p : List MemPlace} {M : Nat → Prop} {r : Go.Reach} {b0 : Nat} (hM : ∀ b, b < W.heap.size → M b)
    (hval : Value.okWide Try.prog W r b0 22 v) (h : DataW.Trod enc Try.prog W base (fun _ => true) true 22 v d p) : ∃ L : List Int, L.length ≤ maxLen ∧ RepZ W M v (.sl (L.map ii)) :=
  rep_sliceV ii 1 (by decide) (fun _ => rfl) Try.underlying22 (by kernel_rfl) hM (el_int Try.underlying3) hval h

theorem el_v {H : Type} {enc : TypeId × Value → H} {W : World} {base : Nat} {M : Nat → Prop} : ∀ n cs y, DataW.trod enc Try.prog W base (fun _ => true) true n 38 cs = some y → cs.length = 4 → ∃ x : V, ∀ (j : Nat) (c : Value) (z : AV), cs[j]? = some c → (vo x).flat[j]? = some z → RepZ W M c z := by
  intro n cs y h hl
  match cs, hl with
  | [c0, c1, c2, c3], _ =>
    obtain ⟨n0, y0, h0⟩ := field_cell (c := c0) Try.underlying38 h (i := 0) rfl (by kernel_rfl) rfl
    obtain ⟨n1, y1, h1⟩ := field_cell (c := c1) Try.underlying38 h (i := 1) rfl (by kernel_rfl) rfl
    obtain ⟨n2, y2, h2⟩ := field_cell (c := c2) Try.underlying38 h (i := 2) rfl (by kernel_rfl) rfl
    obtain ⟨n3, y3, h3⟩ := field_cell (c := c3) Try.underlying38 h (i := 3) rfl (by kernel_rfl) rfl
    obtain ⟨a, rfl⟩ := cells_of_one Try.underlying3 h0
    obtain ⟨b, rfl⟩ := cells_of_one Try.underlying3 h1
    obtain ⟨c, rfl⟩ := cells_of_bool Try.underlying4 h2
    obtain ⟨d, rfl⟩ := cells_of_one Try.underlying3 h3
    refine ⟨⟨a, b, c, d⟩, fun j x z hx hz => ?_⟩
    match j with
    | 0 => simp [AV.flat_agg] at hx hz; subst hx; subst hz; exact .v _
    | 1 => simp [AV.flat_agg] at hx hz; subst hx; subst hz; exact .v _
    | 2 => simp [AV.flat_agg] at hx hz; subst hx; subst hz; exact .v _
    | 3 => simp [AV.flat_agg] at hx hz; subst hx; subst hz; exact .v _
    | j + 4 => simp at hx

theorem rep_vs {H : Type} {enc : TypeId × Value → H} {W : World} {base : Nat} {v : Value} {d : DataW H} {p : List MemPlace} {M : Nat → Prop} {r : Go.Reach} {b0 : Nat} (hM : ∀ b, b < W.heap.size → M b)
    (hval : Value.okWide Try.prog W r b0 23 v) (h : DataW.Trod enc Try.prog W base (fun _ => true) true 23 v d p) : ∃ L : List V, L.length ≤ maxLen ∧ RepZ W M v (.sl (L.map vo)) :=
  rep_sliceV vo 4 (by decide) (fun _ => rfl) Try.underlying23 (by kernel_rfl) hM el_v hval h

theorem el_b {H : Type} {enc : TypeId × Value → H} {W : World} {base : Nat} {M : Nat → Prop} : ∀ n cs y, DataW.trod enc Try.prog W base (fun _ => true) true n 4 cs = some y → cs.length = 1 → ∃ x : Bool, ∀ (j : Nat) (c : Value) (z : AV), cs[j]? = some c → (bb x).flat[j]? = some z → RepZ W M c z := by
  intro n cs y h hl
  match cs, hl with
  | [c0], _ =>
    obtain ⟨a, rfl⟩ := cells_of_bool Try.underlying4 h
    refine ⟨a, fun j x z hx hz => ?_⟩
    match j with
    | 0 => simp at hx hz; subst hx; subst hz; exact .v _
    | j + 1 => simp at hx
theorem rep_bs {H : Type} {enc : TypeId × Value → H} {W : World} {base : Nat} {v : Value} {d : DataW H} {p : List MemPlace} {M : Nat → Prop} {r : Go.Reach} {b0 : Nat} (hM : ∀ b, b < W.heap.size → M b)
    (hval : Value.okWide Try.prog W r b0 40 v) (h : DataW.Trod enc Try.prog W base (fun _ => true) true 40 v d p) : ∃ L : List Bool, L.length ≤ maxLen ∧ RepZ W M v (.sl (L.map bb)) :=
  rep_sliceV bb 1 (by decide) (fun _ => rfl) Try.underlying40 (by kernel_rfl) hM el_b hval h

end Go.Proofs.Ytflcmfeafiippaa
