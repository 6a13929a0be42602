/-
  For every input the Go function VoteTells returns true, does not panic, and leaves its arguments as they were. Conditions: none.
-/
import Derived.Test.YtgccheogieddnaaRows
import Derived.Test.YtgccheogieddnaaVoteE
import Derived.Test.YtgccheogieddnaaAbsLift2
set_option linter.all false
namespace Go.Proofs.Ytgccheogieddnaa
open Go.ChangeShapes Go.WideShapes Go.ChangeAt Go.RowKit Go.Ab

theorem Try.own : ownKnob Try.prog.godebug = none := by kernel_rfl
theorem Try.laidOut : laidOutB Try.prog = true := by kernel_rfl

theorem rep_is {H : Type} {enc : TypeId × Value → H} {W : World} {base : Nat} {v : Value} {d : DataW H} {p : List MemPlace} {M : Nat → Prop} {r : Go.Reach} {b0 : Nat} (hM : ∀ b, b < W.heap.size → M b)
    (hval : Value.okWide Try.prog W r b0 22 v) (h : DataW.Trod enc Try.prog W base (fun _ => true) true 22 v d p) : ∃ L : List Int, L.length ≤ maxLen ∧ RepZ W M v (.sl (L.map ii)) :=
  rep_sliceV ii 1 (by decide) (fun _ => rfl) Try.underlying22 (by kernel_rfl) hM (el_int Try.underlying3) hval h

theorem el_v {H : Type} {enc : TypeId × Value → H} {W : World} {base : Nat} {M : Nat → Prop} : ∀ n cs y, DataW.trod enc Try.prog W base (fun _ => true) true n 38 cs = some y → cs.length = 4 → ∃ x : V, ∀ (j : Nat) (c : Value) (z : AV), cs[j]? = some c → (vo x).flat[j]? = some z → RepZ W M c z := by
  intro n cs y h hl
  match cs, hl with
  | [c0, c1, c2, c3], _ =>
    obtain ⟨n0, y0, h0⟩ := field_cell (c := c0) Try.underlying38 h (i := 0) rfl (by kernel_rfl) rfl
    obtain ⟨n1, y1, h1⟩ := field_cell (c := c1) Try.underlying38 h (i := 1) rfl (by kernel_rfl) rfl
    obtain ⟨n2, y2, h2⟩ := field_cell (c := c2) Try.underlying38 h (i := 2) rfl (by kernel_rfl) rfl
    obtain ⟨n3, y3, h3⟩ := field_cell (c := c3) Try.underlying38 h (i := 3) rfl (by kernel_rfl) rfl
    obtain ⟨a, rfl⟩ := cells_of_one Try.underlying3 h0
    obtain ⟨b, rfl⟩ := cells_of_one Try.underlying3 h1
    obtain ⟨c, rfl⟩ := cells_of_bool Try.underlying4 h2
    obtain ⟨d, rfl⟩ := cells_of_one Try.underlying3 h3
    refine ⟨⟨a, b, c, d⟩, fun j x z hx hz => ?_⟩
    match j with
    | 0 => simp [AV.flat_agg] at hx hz; subst hx; subst hz; exact .v _
    | 1 => simp [AV.flat_agg] at hx hz; subst hx; subst hz; exact .v _
    | 2 => simp [AV.flat_agg] at hx hz; subst hx; subst hz; exact .v _
    | 3 => simp [AV.flat_agg] at hx hz; subst hx; subst hz; exact .v _
    | j + 4 => simp at hx

theorem rep_vs {H : Type} {enc : TypeId × Value → H} {W : World} {base : Nat} {v : Value} {d : DataW H} {p : List MemPlace} {M : Nat → Prop} {r : Go.Reach} {b0 : Nat} (hM : ∀ b, b < W.heap.size → M b)
    (hval : Value.okWide Try.prog W r b0 23 v) (h : DataW.Trod enc Try.prog W base (fun _ => true) true 23 v d p) : ∃ L : List V, L.length ≤ maxLen ∧ RepZ W M v (.sl (L.map vo)) :=
  rep_sliceV vo 4 (by decide) (fun _ => rfl) Try.underlying23 (by kernel_rfl) hM el_v hval h

set_option maxRecDepth 100000 in
theorem voteTells_lifted (os : Os) (started : os.Started) (H : Type) (enc : TypeId × Value → H) :
    ReturnsInHanded {} Try.checked os 3 .any (Rows.voteTellsSpec.pre6 enc Try.prog Try.f3 Rows.voteTellsRow.domain false) (Rows.voteTellsSpec.post enc Try.prog Try.f3 false true false false) := by
  refine returnsInHanded_of_change (C := Try.checked) Try.own started (by kernel_rfl) Try.func3
    (ChangeSpec.witness6 (enc := enc) (C := Try.checked) false ⟨#[], #[.slice none 0 0, .slice none 0 0, .int .i64 0, .int .i64 0, .int .i64 0, .int .i64 0], []⟩ 8 (by kernel_rfl) (by kernel_rfl) (by kernel_rfl) (by kernel_rfl)) ?_
  intro W base args ds gs before hval0 hW hcnd _
  have hval : ∀ (j : Nat) t v, Try.f3.params[j]? = some t → args[j]? = some v → Value.okWide Try.prog W .any base t v := hval0
  have hW' := hW
  obtain ⟨p, q, hA0, hV, rfl, hfz, hnd⟩ := hW
  have hA : DataW.TrodAll enc Try.prog W 0 (fun _ => true) true Try.f3.params.toList args.toList ds p := hA0
  rw [Try.params3] at hA hval
  obtain ⟨rfl, rfl⟩ := trodVars_none hV
  obtain ⟨v0, r0, d0, e0, p0, q0, ha0, rfl, rfl, h0, hA⟩ := trodAll_cons hA
  obtain ⟨v1, r1, d1, e1, p1, q1, rfl, rfl, rfl, h1, hA⟩ := trodAll_cons hA
  obtain ⟨v2, r2, d2, e2, p2, q2, rfl, rfl, rfl, h2, hA⟩ := trodAll_cons hA
  obtain ⟨v3, r3, d3, e3, p3, q3, rfl, rfl, rfl, h3, hA⟩ := trodAll_cons hA
  obtain ⟨v4, r4, d4, e4, p4, q4, rfl, rfl, rfl, h4, hA⟩ := trodAll_cons hA
  obtain ⟨v5, r5, d5, e5, p5, q5, rfl, rfl, rfl, h5, hA⟩ := trodAll_cons hA
  obtain ⟨rfl, rfl, rfl⟩ := trodAll_nil hA
  have ha : args = #[v0, v1, v2, v3, v4, v5] := by
    cases args; simpa using ha0
  subst ha
  obtain ⟨L, hL, R0⟩ := rep_is (M := fun b => b < W.heap.size) (fun _ h => h) (hval 0 22 v0 rfl rfl) h0
  obtain ⟨vs, hvs, R1⟩ := rep_vs (M := fun b => b < W.heap.size) (fun _ h => h) (hval 1 23 v1 rfl rfl) h1
  obtain ⟨a2, w2, R2⟩ := rep_int (M := fun b => b < W.heap.size) Try.underlying3 (hval 2 3 v2 rfl rfl) h2
  obtain ⟨a3, w3, R3⟩ := rep_int (M := fun b => b < W.heap.size) Try.underlying3 (hval 3 3 v3 rfl rfl) h3
  obtain ⟨a4, w4, R4⟩ := rep_int (M := fun b => b < W.heap.size) Try.underlying3 (hval 4 3 v4 rfl rfl) h4
  obtain ⟨a5, w5, R5⟩ := rep_int (M := fun b => b < W.heap.size) Try.underlying3 (hval 5 3 v5 rfl rfl) h5
  refine (voteTells_m L vs a2 a3 a4 a5 (fun b => b < W.heap.size) W #[v0, v1, v2, v3, v4, v5] (fun _ h => h) rfl ?_).mono fun e W' ⟨x, he, hb, hx⟩ => ?_
  · intro j x e h1 h2
    match j with
    | 0 => simp at h1 h2; subst h1; subst h2; exact R0
    | 1 => simp at h1 h2; subst h1; subst h2; exact R1
    | 2 => simp at h1 h2; subst h1; subst h2; exact R2
    | 3 => simp at h1 h2; subst h1; subst h2; exact R3
    | 4 => simp at h1 h2; subst h1; subst h2; exact R4
    | 5 => simp at h1 h2; subst h1; subst h2; exact R5
    | j + 6 => simp at h1
  · have : x = .bool true := by cases hx; rfl
    subst this
    exact ⟨_, he, post_law (by kernel_rfl) Try.underlying4 rfl rfl Try.laidOut (by kernel_rfl) hW' hb⟩

theorem voteTells_holds : Rows.VoteTellsSaid :=
  OpenClaim.holds_of_wide 3 Try.f3 rfl rfl rfl rfl rfl rfl rfl ⟨rfl, rfl, rfl, rfl, rfl⟩ rfl rfl rfl rfl rfl (by kernel_rfl) Try.func3 (by kernel_rfl)
    (of_decide_eq_true (by kernel_rfl)) (by unfold Func.isWrapper; first | (rw [if_pos (by decide +kernel)]; kernel_rfl) | (rw [if_neg (by decide +kernel)]; exact ⟨rfl, rfl⟩))
    (fun os started H enc _ => voteTells_lifted os started H enc)

end Go.Proofs.Ytgccheogieddnaa
