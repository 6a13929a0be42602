/-
  Layer 39: how two places are compared.
-/
import Derived.Test.YtnifpooobleahaaBigK
import Derived.Test.YtnifpooobleahaaSortP
set_option linter.all false
namespace Go.Proofs.Ytnifpooobleahaa
open Go.RowKit Go.Ab
attribute [local irreducible] AWP Go.Ab.Sub Means MeansH CallK CallG CallT CallGT

abbrev rowI (L : List Int) : Cell := .row ⟨3, 1, L.map ii⟩
theorem getD_lt {L : List Int} {j : Nat} (h : j < L.length) : L.getD j 0 = L[j] := by rw [List.getD_eq_getElem?_getD, List.getElem?_eq_getElem h]; rfl
/-- What stands at a place. -/
def kf (R : List Int) (x : Int) : Int := R.getD x.toNat 0
def okR (R : List Int) : Prop := ∀ r ∈ R, 0 ≤ r ∧ r ≤ 4611686018427387904
def cmpC (R : List Int) (x y : Int) : Int := kf R y - kf R x
theorem cmp_neg (R : List Int) (x y : Int) : cmpC R x y < 0 ↔ kf R y < kf R x := by unfold cmpC; omega
theorem kf_at {R : List Int} {x : Int} (h : 0 ≤ x ∧ x < R.length) : ∃ k, ∃ hk : k < R.length, x = (k : Int) ∧ kf R x = R[k] := ⟨x.toNat, by omega, by omega, getD_lt (by omega)⟩
theorem clo_m (R : List Int) (hok : okR R) (x y : Int) (hx : 0 ≤ x ∧ x < R.length) (hy : 0 ≤ y ∧ y < R.length) : MeansH Try.prog 24 [.row ⟨22, 1, [.ow 1]⟩, rowI R] [ii x, ii y, .el 0 1 0 0] (ii (cmpC R x y)) [.row ⟨22, 1, [.ow 1]⟩, rowI R] := by
  obtain ⟨i, hi, rfl, e1⟩ := kf_at hx
  obtain ⟨j, hj, rfl, e2⟩ := kf_at hy
  have h1 := hok R[i] (List.getElem_mem hi)
  have h2 := hok R[j] (List.getElem_mem hj)
  have hw := w64 (x := R[j] - R[i]) (by omega) (by omega)
  have e : cmpC R i j = R[j] - R[i] := by unfold cmpC; rw [e1, e2]
  rw [e]
  refine meansH_fn 2 15 [.tmp 5] Try.func24 rfl rfl rfl (by simp) (by decide) rfl fun X hX => ?_
  (repeat (first | refine awp_seq ?_ | refine awp_block ?_ | ((first | refine awp_runG [0, 1, 2, 5, 1000000, 1000001] hX ?_ | refine awp_drawnG [0, 1, 2, 5, 1000000, 1000001] hX mixed ?_ | refine awp_skip ?_ | refine awp_exit ?_); (simp [go_sem, hi, hj, hw]; try (refine ⟨by kernel_rfl, ?_⟩)))))
  refine awp_ret ?_; (try simp only [thenQ, blkQ, loopQ]); refine retH_ret [(5, ii (R[j] - R[i])), (1000000, .ow 0), (1000001, .ow 1)] [.old 0 ⟨22, 1, [.ow 1]⟩, .old 1 ⟨3, 1, R.map ii⟩] ?_
  simp [go_sem]

end Go.Proofs.Ytnifpooobleahaa
