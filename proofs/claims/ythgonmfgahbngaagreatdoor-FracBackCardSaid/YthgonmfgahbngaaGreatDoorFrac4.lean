/-
  For every input the Go function FracBack returns true, does not panic, and leaves its arguments as they were. Conditions: the listed package-level variable is as the program's text lays it (the card ties it).
-/
import Derived.Test.YthgonmfgahbngaaGreatDoorCards
import Derived.Test.YthgonmfgahbngaaGreatDoorTie
import Derived.SevenTiedAt
import Derived.Test.YthgonmfgahbngaaGreatDoorFracG
import Derived.Test.YthgonmfgahbngaaGreatDoorFracR
set_option linter.all false
namespace Go.Proofs.YthgonmfgahbngaaGreatDoor
open Go.ChangeShapes Go.WideShapes Go.ChangeAt Go.RowKit Go.Ab

set_option maxRecDepth 100000 in
theorem fracBack_lifted (os : Os) (started : os.Started) (H : Type) (enc : TypeId × Value → H) :
    ReturnsInHanded {} Tryz.checked os 6 .any (fun w args => (Rows.fracBackSpec.pre enc Tryz.prog Tryz.f6 Rows.fracBackRow.domain false w args ∧ laidMet Tryz.prog Rows.fracBackRow.laid w) ∧ sizedMet enc Tryz.prog Tryz.f6 (OpenSpec.ofChange Rows.fracBackSpec) false w args) (Rows.fracBackSpec.post enc Tryz.prog Tryz.f6 false true false false) := by
  refine returnsInHanded_shaped (C := Tryz.checked) (X := fun w _ => laidMet Tryz.prog Rows.fracBackRow.laid w) (fun _ _ _ hh h => h.of_heap hh) Tryz.own started (by kernel_rfl) Tryz.func6
    (ChangeSpec.witness_at (enc := enc) (C := Tryz.checked) (os := os) (X := fun w _ => laidMet Tryz.prog Rows.fracBackRow.laid w) false (laidWorld os) #[.agg #[.int .i64 0, .slice none 0 0, .int .i64 0, .slice none 0 0], .int .i64 0, .string ⟨#[]⟩] 8 rfl (by kernel_rfl) (by kernel_rfl) (by kernel_rfl) (by kernel_rfl) (by kernel_rfl) (laid_met os _)) ?_
  intro W base args ds gs before hSh hval0 hW hcnd _ hL _
  have hval : ∀ (j : Nat) t v, Tryz.f6.params[j]? = some t → args[j]? = some v → Value.okWide Tryz.prog W .any base t v := hval0
  have hW' := hW
  obtain ⟨p, q, hA0, hV, rfl, hfz, hnd⟩ := hW
  have hA : DataW.TrodAll enc Tryz.prog W 0 (fun _ => true) true Tryz.f6.params.toList args.toList ds p := hA0
  rw [Tryz.params6] at hA hval
  obtain ⟨rfl, rfl⟩ := trodVars_none hV
  obtain ⟨v0, r0, d0, e0, p0, q0, ha0, rfl, rfl, h0, hA⟩ := trodAll_cons hA
  obtain ⟨v1, r1, d1, e1, p1, q1, rfl, rfl, rfl, h1, hA⟩ := trodAll_cons hA
  obtain ⟨v2, r2, d2, e2, p2, q2, rfl, rfl, rfl, h2, hA⟩ := trodAll_cons hA
  obtain ⟨rfl, rfl, rfl⟩ := trodAll_nil hA
  have ha : args = #[v0, v1, v2] := by
    cases args; simpa using ha0
  subst ha
  obtain ⟨a0, w0, R0⟩ := rep_frac (M := fun b => b < W.heap.size) (fun _ h => h) (hval 0 26 v0 rfl rfl) h0
  obtain ⟨a1, w1, R1⟩ := rep_int (M := fun b => b < W.heap.size) Tryz.underlying3 (hval 1 3 v1 rfl rfl) h1
  have w1 := wf_i64 w1
  obtain ⟨a2, w2, R2⟩ := rep_string (M := fun b => b < W.heap.size) (fun _ h => h) (hval 2 9 v2 rfl rfl) h2
  refine (fracBack_m a0.s a0.L a0.h a0.t a0.K a0.g a1 w1 a2 w2 (fun b => b < W.heap.size) W #[v0, v1, v2] (fun _ h => h) (glob_of_laid hSh hL) rfl ?_).mono fun e W' ⟨x, he, hb, hx⟩ => ?_
  · intro j x e h1 h2
    match j with
    | 0 => simp at h1 h2; subst h1; subst h2; exact R0
    | 1 => simp at h1 h2; subst h1; subst h2; exact R1
    | 2 => simp at h1 h2; subst h1; subst h2; exact R2
    | j + 3 => simp at h1
  · have : x = .bool true := by cases hx; rfl
    subst this
    exact ⟨_, he, post_law (by kernel_rfl) Tryz.underlying4 rfl rfl Tryz.laidOut (by kernel_rfl) hW' hb⟩

theorem fracBack_holds : Rows.FracBackSaid :=
  OpenClaim.holds_of_wide 6 Tryz.f6 rfl rfl rfl rfl rfl rfl rfl ⟨rfl, rfl, rfl, rfl, rfl⟩ rfl rfl rfl rfl rfl (by kernel_rfl) Tryz.func6 (by kernel_rfl)
    (of_decide_eq_true (by kernel_rfl)) (by unfold Func.isWrapper; first | (rw [if_pos (by decide +kernel)]; kernel_rfl) | (rw [if_neg (by decide +kernel)]; exact ⟨rfl, rfl⟩))
    (fun os started H enc _ => fracBack_lifted os started H enc)

theorem fracBack_card : Rows.FracBackCardSaid :=
  Claim7.holds_tied_plain_at .later [] [.data, .data, .data, .data, .pinned] true (true, "e5bc46aedfd1aab8b9490c428bbb093962006e53fa8bb6713f74ac0535e988b1") false
    fracBack_holds (fun _ h => by cases h) (by kernel_rfl) (fun _ h => by cases h) fracBack_row_tie rfl ⟨rfl, rfl⟩ (by kernel_rfl) rfl
    (fun f fn hf hfn => by
      obtain rfl : f = 6 := Option.some.inj ((show Tryz.prog.funcNamed Rows.fracBackRow.func = some 6 by kernel_rfl).symm.trans hf) |>.symm
      obtain rfl : fn = Tryz.f6 := (Option.some.inj (Tryz.func6.symm.trans hfn)).symm
      exact ⟨by kernel_rfl, fun j t ht => by
        rw [Tryz.params6] at ht
        have hm : t ∈ [26, 3, 9] := by simpa using Array.mem_of_getElem? ht
        have hall : ([26, 3, 9].all fun u => !Tryz.prog.wantsStandIn u) = true := by kernel_rfl
        exact (show Tryz.prog.wantsStandIn t = false by simpa using List.all_eq_true.1 hall t hm)⟩)
    (by kernel_rfl)

end Go.Proofs.YthgonmfgahbngaaGreatDoor
