/-
  For every input the Go function PoolYears returns true, does not panic, and leaves its arguments as they were. Conditions: none.
-/
import Derived.Test.YtndiamkmcoghdaaYdP15
set_option linter.all false
namespace Go.Proofs.Ytndiamkmcoghdaa
open Go.ChangeShapes Go.WideShapes Go.ChangeAt Go.RowKit Go.Ab
set_option maxRecDepth 100000 in
theorem poolYears_lifted (os : Os) (started : os.Started) (H : Type) (enc : TypeId × Value → H) :
  ReturnsInHanded {} Try.checked os 6 .any (Rows.poolYearsSpec.pre6 enc Try.prog Try.f6 Rows.poolYearsRow.domain false) (Rows.poolYearsSpec.post enc Try.prog Try.f6 false true false false) :=by
 refine returnsInHanded_of_change (C :=Try.checked) Try.own started (by kernel_rfl) Try.func6
  (ChangeSpec.witness6 (enc :=enc) (C :=Try.checked) false ⟨#[],#[.slice none 0 0,.slice none 0 0,.int .i64 0,.int .u8 0],[]⟩ 8 (by kernel_rfl) (by kernel_rfl) (by kernel_rfl) (by kernel_rfl)) ?_
 intro W base args ds gs before hval0 hW hcnd _
 have hval : ∀ (j : Nat) t v,Try.f6.params[j]? = some t → args[j]? = some v → Value.okWide Try.prog W .any base t v :=hval0
 have hW' :=hW
 obtain ⟨p,q,hA0,hV,rfl,hfz,hnd⟩ :=hW
 have hA : DataW.TrodAll enc Try.prog W 0 (fun _ => true) true Try.f6.params.toList args.toList ds p :=hA0
 rw [Try.params6] at hA hval
 obtain ⟨rfl,rfl⟩ :=trodVars_none hV
 obtain ⟨v0,r0,d0,e0,p0,q0,ha0,rfl,rfl,h0,hA⟩ :=trodAll_cons hA
 obtain ⟨v1,r1,d1,e1,p1,q1,rfl,rfl,rfl,h1,hA⟩ :=trodAll_cons hA
 obtain ⟨v2,r2,d2,e2,p2,q2,rfl,rfl,rfl,h2,hA⟩ :=trodAll_cons hA
 obtain ⟨v3,r3,d3,e3,p3,q3,rfl,rfl,rfl,h3,hA⟩ :=trodAll_cons hA
 obtain ⟨rfl,rfl,rfl⟩ :=trodAll_nil hA
 have ha : args = #[v0,v1,v2,v3] :=by
  cases args; simpa using ha0
 subst ha
 obtain ⟨a0,w0,R0⟩ :=rep_fds (M :=fun b => b < W.heap.size) (fun _ h => h) (hval 0 22 v0 rfl rfl) h0
 obtain ⟨a1,w1,R1⟩ :=rep_is (M :=fun b => b < W.heap.size) (fun _ h => h) (hval 1 25 v1 rfl rfl) h1
 obtain ⟨a2,w2,R2⟩ :=rep_int (M :=fun b => b < W.heap.size) Try.underlying3 (hval 2 3 v2 rfl rfl) h2
 have w2 :=wf_i64 w2
 obtain ⟨a3,w3,R3⟩ :=rep_int (M :=fun b => b < W.heap.size) Try.underlying5 (hval 3 5 v3 rfl rfl) h3
 have w3 :=wf_u8 w3
 refine (poolYears_m a0 w0 a1 w1 a2 a3 w3 (fun b => b < W.heap.size) W #[v0,v1,v2,v3] (fun _ h => h) ⟨fun p hp => by simp [globs] at hp,fun g hg => by simp [globI] at hg⟩ rfl ?_).mono fun e W' ⟨x,he,hb,hx⟩ => ?_
 · intro j x e h1 h2
   match j with
   | 0 => simp at h1 h2; subst h1; subst h2; exact R0
   | 1 => simp at h1 h2; subst h1; subst h2; exact R1
   | 2 => simp at h1 h2; subst h1; subst h2; exact R2
   | 3 => simp at h1 h2; subst h1; subst h2; exact R3
   | j + 4 => simp at h1
 · have : x = .bool true :=by cases hx; rfl
   subst this
   exact ⟨_,he,post_law (by kernel_rfl) Try.underlying4 rfl rfl Try.laidOut (by kernel_rfl) hW' hb⟩
theorem poolYears_holds : Rows.PoolYearsSaid :=
 OpenClaim.holds_of_wide 6 Try.f6 rfl rfl rfl rfl rfl rfl rfl ⟨rfl,rfl,rfl,rfl,rfl⟩ rfl rfl rfl rfl rfl (by kernel_rfl) Try.func6 (by kernel_rfl)
  (of_decide_eq_true (by kernel_rfl)) (by unfold Func.isWrapper; first | (rw [if_pos (by decide +kernel)]; kernel_rfl) | (rw [if_neg (by decide +kernel)]; exact ⟨rfl,rfl⟩))
  (fun os started H enc _ => poolYears_lifted os started H enc)
end Go.Proofs.Ytndiamkmcoghdaa

