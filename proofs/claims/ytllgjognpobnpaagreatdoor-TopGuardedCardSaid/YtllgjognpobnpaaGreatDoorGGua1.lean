/-
  For every input the Go function TopGuarded returns true, does not panic, and leaves its arguments as they were. Conditions: the listed package-level variable is as the program's text lays it (the card ties it).
-/
import Derived.Test.YtllgjognpobnpaaGreatDoorCards
import Derived.Test.YtllgjognpobnpaaGreatDoorTie
import Derived.SevenTiedAt
import Derived.Test.YtllgjognpobnpaaGreatDoorGP17
set_option linter.all false
namespace Go.Proofs.YtllgjognpobnpaaGreatDoor
open Go.ChangeShapes Go.WideShapes Go.ChangeAt Go.RowKit Go.Ab
set_option maxRecDepth 100000 in
theorem jX (os : Os) (started : os.Started) (H : Type) (enc : TypeId × Value → H) :
    ReturnsInHanded {} Tryz.checked os 3 .any (fun w args => (Rows.topGuardedSpec.pre enc Tryz.prog Tryz.f3 Rows.topGuardedRow.domain false w args ∧ laidMet Tryz.prog Rows.topGuardedRow.laid w) ∧ sizedMet enc Tryz.prog Tryz.f3 (OpenSpec.ofChange Rows.topGuardedSpec) false w args) (Rows.topGuardedSpec.post enc Tryz.prog Tryz.f3 false true false false) := by
  refine fE (C := Tryz.checked) (X := fun w _ => laidMet Tryz.prog Rows.topGuardedRow.laid w) (fun _ _ _ hh h => h.of_heap hh) Tryz.own started (by kernel_rfl) Tryz.func3
    (ChangeSpec.witness_at (enc := enc) (C := Tryz.checked) (os := os) (X := fun w _ => laidMet Tryz.prog Rows.topGuardedRow.laid w) false (laidWorld os) #[.string ⟨#[]⟩, .int .i64 0, .slice none 0 0, .slice none 0 0] 8 rfl (by kernel_rfl) (by kernel_rfl) (by kernel_rfl) (by kernel_rfl) (by kernel_rfl) (D5 os _)) ?_
  intro W base args ds gs before hSh hval0 hW hcnd _ hL _
  have hval : ∀ (j : Nat) t v, Tryz.f3.params[j]? = some t → args[j]? = some v → Value.okWide Tryz.prog W .any base t v := hval0
  have hW' := hW
  obtain ⟨p, q, hA0, hV, rfl, hfz, hnd⟩ := hW
  have hA : DataW.TrodAll enc Tryz.prog W 0 (fun _ => true) true Tryz.f3.params.toList args.toList ds p := hA0
  rw [Tryz.params3] at hA hval
  obtain ⟨rfl, rfl⟩ := trodVars_none hV
  obtain ⟨v0, r0, d0, e0, p0, q0, ha0, rfl, rfl, h0, hA⟩ := trodAll_cons hA
  obtain ⟨v1, r1, d1, e1, p1, q1, rfl, rfl, rfl, h1, hA⟩ := trodAll_cons hA
  obtain ⟨v2, r2, d2, e2, p2, q2, rfl, rfl, rfl, h2, hA⟩ := trodAll_cons hA
  obtain ⟨v3, r3, d3, e3, p3, q3, rfl, rfl, rfl, h3, hA⟩ := trodAll_cons hA
  obtain ⟨rfl, rfl, rfl⟩ := trodAll_nil hA
  have ha : args = #[v0, v1, v2, v3] := by
    cases args; simpa using ha0
  subst ha
  obtain ⟨a0, w0, R0⟩ := vC (M := fun b => b < W.heap.size) (fun _ h => h) (hval 0 9 v0 rfl rfl) h0
  obtain ⟨a1, w1, R1⟩ := DX (M := fun b => b < W.heap.size) Tryz.underlying3 (hval 1 3 v1 rfl rfl) h1
  have w1 := GP w1
  obtain ⟨a2, w2, R2⟩ := D4 (M := fun b => b < W.heap.size) (fun _ h => h) (hval 2 22 v2 rfl rfl) h2
  obtain ⟨a3, w3, R3⟩ := D4 (M := fun b => b < W.heap.size) (fun _ h => h) (hval 3 22 v3 rfl rfl) h3
  refine (FQ a0 a1 a2 a3 (fun b => b < W.heap.size) W #[v0, v1, v2, v3] (fun _ h => h) (r7 hSh hL) rfl ?_).mono fun e W' ⟨x, he, hb, hx⟩ => ?_
  · intro j x e h1 h2
    match j with
    | 0 => simp at h1 h2; subst h1; subst h2; exact R0
    | 1 => simp at h1 h2; subst h1; subst h2; exact R1
    | 2 => simp at h1 h2; subst h1; subst h2; exact R2
    | 3 => simp at h1 h2; subst h1; subst h2; exact R3
    | j + 4 => simp at h1
  · have : x = .bool true := by cases hx; rfl
    subst this
    exact ⟨_, he, A7 (by kernel_rfl) Tryz.underlying4 rfl rfl Tryz.laidOut (by kernel_rfl) hW' hb⟩
theorem kM : Rows.TopGuardedSaid :=
  OpenClaim.holds_of_wide 3 Tryz.f3 rfl rfl rfl rfl rfl rfl rfl ⟨rfl, rfl, rfl, rfl, rfl⟩ rfl rfl rfl rfl rfl (by kernel_rfl) Tryz.func3 (by kernel_rfl)
    (of_decide_eq_true (by kernel_rfl)) (by unfold Func.isWrapper; first | (rw [if_pos (by decide +kernel)]; kernel_rfl) | (rw [if_neg (by decide +kernel)]; exact ⟨rfl, rfl⟩))
    (fun os started H enc _ => jX os started H enc)
theorem topGuarded_card : Rows.TopGuardedCardSaid :=
  Claim7.holds_tied_plain_at .later [] [.data, .data] true (true, "99377bb6df8c06b8145fb711e2264cdaf2cc1eac78eca5fd52102d6e9d89ce1b") true
    kM (fun _ h => by cases h) (by kernel_rfl) (fun _ h => by cases h) topGuarded_row_tie rfl ⟨rfl, rfl⟩ (by kernel_rfl) rfl
    (fun f fn hf hfn => by
      obtain rfl : f = 3 := Option.some.inj ((show Tryz.prog.funcNamed Rows.topGuardedRow.func = some 3 by kernel_rfl).symm.trans hf) |>.symm
      obtain rfl : fn = Tryz.f3 := (Option.some.inj (Tryz.func3.symm.trans hfn)).symm
      exact ⟨by kernel_rfl, fun j t ht => by
        rw [Tryz.params3] at ht
        have hm : t ∈ [9, 3, 22, 22] := by simpa using Array.mem_of_getElem? ht
        have hall : ([9, 3, 22, 22].all fun u => !Tryz.prog.wantsStandIn u) = true := by kernel_rfl
        exact (show Tryz.prog.wantsStandIn t = false by simpa using List.all_eq_true.1 hall t hm)⟩)
    (by kernel_rfl)
end Go.Proofs.YtllgjognpobnpaaGreatDoor

