/-
  For every input the Go function BidsTells returns true, does not panic, and leaves its arguments as they were. Conditions: the listed package-level variable is as the program's text lays it (the card ties it).
-/
import Derived.Test.YtjgkjenbgadacaaDoorCards
import Derived.Test.YtjgkjenbgadacaaDoorTie
import Derived.SevenTiedAt
import Derived.Test.YtjgkjenbgadacaaDoorP13
set_option linter.all false
namespace Go.Proofs.YtjgkjenbgadacaaDoor
open Go.ChangeShapes Go.WideShapes Go.ChangeAt Go.RowKit Go.Ab
set_option maxRecDepth 100000 in
theorem bidsTells_lifted (os : Os) (started : os.Started) (H : Type) (enc : TypeId × Value → H) :
    ReturnsInHanded {} Tryd.checked os 3 .any (fun w args => (Rows.bidsTellsSpec.pre enc Tryd.prog Tryd.f3 Rows.bidsTellsRow.domain false w args ∧ laidMet Tryd.prog Rows.bidsTellsRow.laid w) ∧ sizedMet enc Tryd.prog Tryd.f3 (OpenSpec.ofChange Rows.bidsTellsSpec) false w args) (Rows.bidsTellsSpec.post enc Tryd.prog Tryd.f3 false true false false) := by
  refine returnsInHanded_of_change_and (C := Tryd.checked) (X := fun w _ => laidMet Tryd.prog Rows.bidsTellsRow.laid w) (fun _ _ _ hh h => h.of_heap hh) Tryd.own started (by kernel_rfl) Tryd.func3
    (ChangeSpec.witness_at (enc := enc) (C := Tryd.checked) (os := os) (X := fun w _ => laidMet Tryd.prog Rows.bidsTellsRow.laid w) false (laidWorld os) #[.slice none 0 0, .agg #[.int .i64 0, .int .i64 0, .int .i64 0, .bool false], .int .i64 0, .int .i64 0, .int .i64 0, .slice none 0 0] 8 rfl (by kernel_rfl) (by kernel_rfl) (by kernel_rfl) (by kernel_rfl) (by kernel_rfl) (laid_met os _)) ?_
  intro W base args ds gs before hval0 hW hcnd _ hL _
  have hval : ∀ (j : Nat) t v, Tryd.f3.params[j]? = some t → args[j]? = some v → Value.okWide Tryd.prog W .any base t v := hval0
  have hW' := hW
  obtain ⟨p, q, hA0, hV, rfl, hfz, hnd⟩ := hW
  have hA : DataW.TrodAll enc Tryd.prog W 0 (fun _ => true) true Tryd.f3.params.toList args.toList ds p := hA0
  rw [Tryd.params3] at hA hval
  obtain ⟨rfl, rfl⟩ := trodVars_none hV
  obtain ⟨v0, r0, d0, e0, p0, q0, ha0, rfl, rfl, h0, hA⟩ := trodAll_cons hA
  obtain ⟨v1, r1, d1, e1, p1, q1, rfl, rfl, rfl, h1, hA⟩ := trodAll_cons hA
  obtain ⟨v2, r2, d2, e2, p2, q2, rfl, rfl, rfl, h2, hA⟩ := trodAll_cons hA
  obtain ⟨v3, r3, d3, e3, p3, q3, rfl, rfl, rfl, h3, hA⟩ := trodAll_cons hA
  obtain ⟨v4, r4, d4, e4, p4, q4, rfl, rfl, rfl, h4, hA⟩ := trodAll_cons hA
  obtain ⟨v5, r5, d5, e5, p5, q5, rfl, rfl, rfl, h5, hA⟩ := trodAll_cons hA
  obtain ⟨rfl, rfl, rfl⟩ := trodAll_nil hA
  have ha : args = #[v0, v1, v2, v3, v4, v5] := by
    cases args; simpa using ha0
  subst ha
  obtain ⟨a0, w0, R0⟩ := rep_bids (M := fun b => b < W.heap.size) (fun _ h => h) (hval 0 22 v0 rfl rfl) h0
  obtain ⟨a1, w1, R1⟩ := rep_bid (M := fun b => b < W.heap.size) (fun _ h => h) (hval 1 24 v1 rfl rfl) h1
  obtain ⟨a2, w2, R2⟩ := rep_int (M := fun b => b < W.heap.size) Tryd.underlying3 (hval 2 3 v2 rfl rfl) h2
  have w2 := wf_i64 w2
  obtain ⟨a3, w3, R3⟩ := rep_int (M := fun b => b < W.heap.size) Tryd.underlying3 (hval 3 3 v3 rfl rfl) h3
  have w3 := wf_i64 w3
  obtain ⟨a4, w4, R4⟩ := rep_int (M := fun b => b < W.heap.size) Tryd.underlying3 (hval 4 3 v4 rfl rfl) h4
  have w4 := wf_i64 w4
  obtain ⟨a5, w5, R5⟩ := rep_is (M := fun b => b < W.heap.size) (fun _ h => h) (hval 5 25 v5 rfl rfl) h5
  refine (btells_w a0 w0 a1 a2 w2 a3 w3 a4 w4 a5 w5 (fun b => b < W.heap.size) W #[v0, v1, v2, v3, v4, v5] (fun _ h => h) (glob_of_laid hL) rfl ?_).mono fun e W' ⟨x, he, hb, hx⟩ => ?_
  · intro j x e h1 h2
    match j with
    | 0 => simp at h1 h2; subst h1; subst h2; exact R0
    | 1 => simp at h1 h2; subst h1; subst h2; exact R1
    | 2 => simp at h1 h2; subst h1; subst h2; exact R2
    | 3 => simp at h1 h2; subst h1; subst h2; exact R3
    | 4 => simp at h1 h2; subst h1; subst h2; exact R4
    | 5 => simp at h1 h2; subst h1; subst h2; exact R5
    | j + 6 => simp at h1
  · have : x = .bool true := by cases hx; rfl
    subst this
    exact ⟨_, he, post_law (by kernel_rfl) Tryd.underlying4 rfl rfl Tryd.laidOut (by kernel_rfl) hW' hb⟩
theorem bidsTells_holds : Rows.BidsTellsSaid :=
  OpenClaim.holds_of_wide 3 Tryd.f3 rfl rfl rfl rfl rfl rfl rfl ⟨rfl, rfl, rfl, rfl, rfl⟩ rfl rfl rfl rfl rfl (by kernel_rfl) Tryd.func3 (by kernel_rfl)
    (of_decide_eq_true (by kernel_rfl)) (by unfold Func.isWrapper; first | (rw [if_pos (by decide +kernel)]; kernel_rfl) | (rw [if_neg (by decide +kernel)]; exact ⟨rfl, rfl⟩))
    (fun os started H enc _ => bidsTells_lifted os started H enc)
theorem bidsTells_card : Rows.BidsTellsCardSaid :=
  Claim7.holds_tied_plain_at .later [] [.data, .data, .data] true (true, "513977f5e9ffd81fbc320b1d3643206116dd0da3aa28e53c584ec207b8533d74") false
    bidsTells_holds (fun _ h => by cases h) (by kernel_rfl) (fun _ h => by cases h) bidsTells_row_tie rfl ⟨rfl, rfl⟩ (by kernel_rfl) rfl
    (fun f fn hf hfn => by
      obtain rfl : f = 3 := Option.some.inj ((show Tryd.prog.funcNamed Rows.bidsTellsRow.func = some 3 by kernel_rfl).symm.trans hf) |>.symm
      obtain rfl : fn = Tryd.f3 := (Option.some.inj (Tryd.func3.symm.trans hfn)).symm
      exact ⟨by kernel_rfl, fun j t ht => by
        rw [Tryd.params3] at ht
        have hm : t ∈ [22, 24, 3, 3, 3, 25] := by simpa using Array.mem_of_getElem? ht
        have hall : ([22, 24, 3, 3, 3, 25].all fun u => !Tryd.prog.wantsStandIn u) = true := by kernel_rfl
        exact (show Tryd.prog.wantsStandIn t = false by simpa using List.all_eq_true.1 hall t hm)⟩)
    (by kernel_rfl)
end Go.Proofs.YtjgkjenbgadacaaDoor

