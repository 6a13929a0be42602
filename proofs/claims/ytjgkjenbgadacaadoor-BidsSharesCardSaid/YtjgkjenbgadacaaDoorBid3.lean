/-
  For every input the Go function BidsShares returns true, does not panic, and leaves its arguments as they were. Conditions: the listed package-level variable is as the program's text lays it (the card ties it).
-/
import Derived.Test.YtjgkjenbgadacaaDoorCards
import Derived.Test.YtjgkjenbgadacaaDoorTie
import Derived.SevenTiedAt
import Derived.Test.YtjgkjenbgadacaaDoorBidV
import Derived.Test.YtjgkjenbgadacaaDoorBidR
set_option linter.all false
namespace Go.Proofs.YtjgkjenbgadacaaDoor
open Go.ChangeShapes Go.WideShapes Go.ChangeAt Go.RowKit Go.Ab

set_option maxRecDepth 100000 in
theorem bidsShares_lifted (os : Os) (started : os.Started) (H : Type) (enc : TypeId × Value → H) :
    ReturnsInHanded {} Tryd.checked os 4 .any (fun w args => (Rows.bidsSharesSpec.pre enc Tryd.prog Tryd.f4 Rows.bidsSharesRow.domain false w args ∧ laidMet Tryd.prog Rows.bidsSharesRow.laid w) ∧ sizedMet enc Tryd.prog Tryd.f4 (OpenSpec.ofChange Rows.bidsSharesSpec) false w args) (Rows.bidsSharesSpec.post enc Tryd.prog Tryd.f4 false true false false) := by
  refine returnsInHanded_of_change_and (C := Tryd.checked) (X := fun w _ => laidMet Tryd.prog Rows.bidsSharesRow.laid w) (fun _ _ _ hh h => h.of_heap hh) Tryd.own started (by kernel_rfl) Tryd.func4
    (ChangeSpec.witness_at (enc := enc) (C := Tryd.checked) (os := os) (X := fun w _ => laidMet Tryd.prog Rows.bidsSharesRow.laid w) false (laidWorld os) #[.slice none 0 0, .int .i64 0, .slice none 0 0] 8 rfl (by kernel_rfl) (by kernel_rfl) (by kernel_rfl) (by kernel_rfl) (by kernel_rfl) (laid_met os _)) ?_
  intro W base args ds gs before hval0 hW hcnd _ hL _
  have hval : ∀ (j : Nat) t v, Tryd.f4.params[j]? = some t → args[j]? = some v → Value.okWide Tryd.prog W .any base t v := hval0
  have hW' := hW
  obtain ⟨p, q, hA0, hV, rfl, hfz, hnd⟩ := hW
  have hA : DataW.TrodAll enc Tryd.prog W 0 (fun _ => true) true Tryd.f4.params.toList args.toList ds p := hA0
  rw [Tryd.params4] at hA hval
  obtain ⟨rfl, rfl⟩ := trodVars_none hV
  obtain ⟨v0, r0, d0, e0, p0, q0, ha0, rfl, rfl, h0, hA⟩ := trodAll_cons hA
  obtain ⟨v1, r1, d1, e1, p1, q1, rfl, rfl, rfl, h1, hA⟩ := trodAll_cons hA
  obtain ⟨v2, r2, d2, e2, p2, q2, rfl, rfl, rfl, h2, hA⟩ := trodAll_cons hA
  obtain ⟨rfl, rfl, rfl⟩ := trodAll_nil hA
  have ha : args = #[v0, v1, v2] := by
    cases args; simpa using ha0
  subst ha
  obtain ⟨a0, w0, R0⟩ := rep_bids (M := fun b => b < W.heap.size) (fun _ h => h) (hval 0 22 v0 rfl rfl) h0
  obtain ⟨a1, w1, R1⟩ := rep_int (M := fun b => b < W.heap.size) Tryd.underlying3 (hval 1 3 v1 rfl rfl) h1
  have w1 := wf_i64 w1
  obtain ⟨a2, w2, R2⟩ := rep_is (M := fun b => b < W.heap.size) (fun _ h => h) (hval 2 25 v2 rfl rfl) h2
  refine (bshares_m a0 w0 a1 a2 w2 (fun b => b < W.heap.size) W #[v0, v1, v2] (fun _ h => h) (glob_of_laid hL) rfl ?_).mono fun e W' ⟨x, he, hb, hx⟩ => ?_
  · intro j x e h1 h2
    match j with
    | 0 => simp at h1 h2; subst h1; subst h2; exact R0
    | 1 => simp at h1 h2; subst h1; subst h2; exact R1
    | 2 => simp at h1 h2; subst h1; subst h2; exact R2
    | j + 3 => simp at h1
  · have : x = .bool true := by cases hx; rfl
    subst this
    exact ⟨_, he, post_law (by kernel_rfl) Tryd.underlying4 rfl rfl Tryd.laidOut (by kernel_rfl) hW' hb⟩

theorem bidsShares_holds : Rows.BidsSharesSaid :=
  OpenClaim.holds_of_wide 4 Tryd.f4 rfl rfl rfl rfl rfl rfl rfl ⟨rfl, rfl, rfl, rfl, rfl⟩ rfl rfl rfl rfl rfl (by kernel_rfl) Tryd.func4 (by kernel_rfl)
    (of_decide_eq_true (by kernel_rfl)) (by unfold Func.isWrapper; first | (rw [if_pos (by decide +kernel)]; kernel_rfl) | (rw [if_neg (by decide +kernel)]; exact ⟨rfl, rfl⟩))
    (fun os started H enc _ => bidsShares_lifted os started H enc)

theorem bidsShares_card : Rows.BidsSharesCardSaid :=
  Claim7.holds_tied_plain_at .later [] [.data, .data, .data] true (true, "513977f5e9ffd81fbc320b1d3643206116dd0da3aa28e53c584ec207b8533d74") false
    bidsShares_holds (fun _ h => by cases h) (by kernel_rfl) (fun _ h => by cases h) bidsShares_row_tie rfl ⟨rfl, rfl⟩ (by kernel_rfl) rfl
    (fun f fn hf hfn => by
      obtain rfl : f = 4 := Option.some.inj ((show Tryd.prog.funcNamed Rows.bidsSharesRow.func = some 4 by kernel_rfl).symm.trans hf) |>.symm
      obtain rfl : fn = Tryd.f4 := (Option.some.inj (Tryd.func4.symm.trans hfn)).symm
      exact ⟨by kernel_rfl, fun j t ht => by
        rw [Tryd.params4] at ht
        have hm : t ∈ [22, 3, 25] := by simpa using Array.mem_of_getElem? ht
        have hall : ([22, 3, 25].all fun u => !Tryd.prog.wantsStandIn u) = true := by kernel_rfl
        exact (show Tryd.prog.wantsStandIn t = false by simpa using List.all_eq_true.1 hall t hm)⟩)
    (by kernel_rfl)

end Go.Proofs.YtjgkjenbgadacaaDoor
