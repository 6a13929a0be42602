/-
  The arguments of BidsHidden, read: bids whose numbers are ints.
-/
import Derived.Test.YtjgkjenbgadacaaDoorBidR
import Derived.Test.YtjgkjenbgadacaaDoorBidZ
set_option linter.all false
namespace Go.Proofs.YtjgkjenbgadacaaDoor
open Go.ChangeShapes Go.WideShapes Go.ChangeAt Go.RowKit Go.Ab

/-- Bids that are given. -/
structure BidG where
  L : List Bd
  h : L.length ≤ 9223372036854775807
  g : ∀ b ∈ L, b.n ≤ 9223372036854775807
abbrev BdN := { b : Bd // b.n ≤ 9223372036854775807 }
theorem el_bidN {H : Type} {enc : TypeId × Value → H} {W : World} {base : Nat} {M : Nat → Prop} : ∀ n cs y, DataW.trod enc Tryd.prog W base (fun _ => true) true n 24 cs = some y → cs.length = 4 → ∃ x : BdN, ∀ (j : Nat) (c : Value) (z : AV), cs[j]? = some c → (ob x.1).flat[j]? = some z → RepZ W M c z := by
  intro n cs y h hl
  match cs, hl with
  | [c0, c1, c2, c3], _ =>
    obtain ⟨n0, y0, h0⟩ := field_cell (c := c0) Tryd.underlying24 h (i := 0) rfl (by kernel_rfl) rfl
    obtain ⟨n1, y1, h1⟩ := field_cell (c := c1) Tryd.underlying24 h (i := 1) rfl (by kernel_rfl) rfl
    obtain ⟨n2, y2, h2⟩ := field_cell (c := c2) Tryd.underlying24 h (i := 2) rfl (by kernel_rfl) rfl
    obtain ⟨n3, y3, h3⟩ := field_cell (c := c3) Tryd.underlying24 h (i := 3) rfl (by kernel_rfl) rfl
    obtain ⟨a, rfl⟩ := cells_of_one Tryd.underlying3 h0
    obtain ⟨b, rfl⟩ := cells_of_one Tryd.underlying3 h1
    obtain ⟨c, hc, _, hw⟩ := DataW.trod_int Tryd.underlying3 h2
    have hc2 : c2 = .int .i64 c := by simpa using hc
    subst hc2
    obtain ⟨d, rfl⟩ := cells_of_bool Tryd.underlying4 h3
    refine ⟨⟨⟨a, b, c, d⟩, (wf_i64 hw).2⟩, fun j x z hx hz => ?_⟩
    match j with
    | 0 => simp [AV.flat_agg] at hx hz; subst hx; subst hz; exact .v _
    | 1 => simp [AV.flat_agg] at hx hz; subst hx; subst hz; exact .v _
    | 2 => simp [AV.flat_agg] at hx hz; subst hx; subst hz; exact .v _
    | 3 => simp [AV.flat_agg] at hx hz; subst hx; subst hz; exact .v _
    | j + 4 => simp at hx
set_option maxRecDepth 100000 in
theorem rep_bidsN {H : Type} {enc : TypeId × Value → H} {W : World} {base : Nat} {v : Value} {d : DataW H} {p : List MemPlace} {M : Nat → Prop} {r : Go.Reach} {b0 : Nat} (hM : ∀ b, b < W.heap.size → M b)
    (hval : Value.okWide Tryd.prog W r b0 22 v) (h : DataW.Trod enc Tryd.prog W base (fun _ => true) true 22 v d p) : ∃ a : BidG, True ∧ RepZ W M v (bl a.L) := by
  obtain ⟨L, hl, hr⟩ := rep_sliceV (fun x : BdN => ob x.1) 4 (by decide) (fun _ => rfl) Tryd.underlying22 (by kernel_rfl) hM el_bidN hval h
  refine ⟨⟨L.map (·.1), by have : maxLen = 9223372036854775807 := rfl; simp; omega, fun b hb => ?_⟩, trivial, ?_⟩
  · obtain ⟨x, _, rfl⟩ := List.mem_map.1 hb
    exact x.2
  · simpa [List.map_map, Function.comp_def] using hr

theorem bhidden_w (a : BidG) (c : Int) (hc : -9223372036854775808 ≤ c ∧ c ≤ 9223372036854775807) (p : Int) (hp : -9223372036854775808 ≤ p ∧ p ≤ 9223372036854775807) (key mark other : Int) (ho : -9223372036854775808 ≤ other ∧ other ≤ 9223372036854775807) (n : Int) (hn : -9223372036854775808 ≤ n ∧ n ≤ 9223372036854775807) :
    Means true Tryd.prog 7 [bl a.L, ii c, ii p, ii key, ii mark, ii other, ii n] (bb true) :=
  bhidden_m a.L a.h a.g c hc.2 p hp.2 key mark other ho.2 n hn.2

end Go.Proofs.YtjgkjenbgadacaaDoor
