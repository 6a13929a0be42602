/-
  For every input the Go function PoolTells returns true, does not panic, and leaves its arguments as they were. Conditions: none.
-/
import Derived.Test.YtknbcehhjffndaaGreatYeP18
set_option linter.all false
namespace Go.Proofs.YtknbcehhjffndaaGreat
open Go.ChangeShapes Go.WideShapes Go.ChangeAt Go.RowKit Go.Ab
set_option maxRecDepth 100000 in
theorem lV (os : Os) (started : os.Started) (H : Type) (enc : TypeId × Value → H) :
  ReturnsInHanded {} Tryz.checked os 3 .any (Rows.poolTellsSpec.pre6 enc Tryz.prog Tryz.f3 Rows.poolTellsRow.domain false) (Rows.poolTellsSpec.post enc Tryz.prog Tryz.f3 false true false false) :=by
 refine returnsInHanded_of_change (C :=Tryz.checked) Tryz.own started (by kernel_rfl) Tryz.func3
  (ChangeSpec.witness6 (enc :=enc) (C :=Tryz.checked) false ⟨#[],#[.slice none 0 0],[]⟩ 8 (by kernel_rfl) (by kernel_rfl) (by kernel_rfl) (by kernel_rfl)) ?_
 intro W base args ds gs before hval0 hW hcnd _
 have hval : ∀ (j : Nat) t v,Tryz.f3.params[j]? = some t → args[j]? = some v → Value.okWide Tryz.prog W .any base t v :=hval0
 have hW' :=hW
 obtain ⟨p,q,hA0,hV,rfl,hfz,hnd⟩ :=hW
 have hA : DataW.TrodAll enc Tryz.prog W 0 (fun _ => true) true Tryz.f3.params.toList args.toList ds p :=hA0
 rw [Tryz.params3] at hA hval
 obtain ⟨rfl,rfl⟩ :=trodVars_none hV
 obtain ⟨v0,r0,d0,e0,p0,q0,ha0,rfl,rfl,h0,hA⟩ :=trodAll_cons hA
 obtain ⟨rfl,rfl,rfl⟩ :=trodAll_nil hA
 have ha : args = #[v0] :=by
  cases args; simpa using ha0
 subst ha
 obtain ⟨a0,w0,R0⟩ :=H6 (M :=fun b => b < W.heap.size) (fun _ h => h) (hval 0 22 v0 rfl rfl) h0
 refine (vO a0 w0 (fun b => b < W.heap.size) W #[v0] (fun _ h => h) ⟨fun p hp => by simp [globs] at hp,fun g hg => by simp [globI] at hg⟩ rfl ?_).mono fun e W' ⟨x,he,hb,hx⟩ => ?_
 · intro j x e h1 h2
   match j with
   | 0 => simp at h1 h2; subst h1; subst h2; exact R0
   | j + 1 => simp at h1
 · have : x = .bool true :=by cases hx; rfl
   subst this
   exact ⟨_,he,DM (by kernel_rfl) Tryz.underlying4 rfl rfl Tryz.laidOut (by kernel_rfl) hW' hb⟩
theorem poolTells_holds : Rows.PoolTellsSaid :=
 OpenClaim.holds_of_wide 3 Tryz.f3 rfl rfl rfl rfl rfl rfl rfl ⟨rfl,rfl,rfl,rfl,rfl⟩ rfl rfl rfl rfl rfl (by kernel_rfl) Tryz.func3 (by kernel_rfl)
  (of_decide_eq_true (by kernel_rfl)) (by unfold Func.isWrapper; first | (rw [if_pos (by decide +kernel)]; kernel_rfl) | (rw [if_neg (by decide +kernel)]; exact ⟨rfl,rfl⟩))
  (fun os started H enc _ => lV os started H enc)
end Go.Proofs.YtknbcehhjffndaaGreat

