/-
  Layer 18: how two places are compared.
-/
import Derived.Test.YtlcmmaokfbjojaaBigK
import Derived.Test.YtlcmmaokfbjojaaRefA
import Derived.Test.YtlcmmaokfbjojaaSortP
set_option linter.all false
namespace Go.Proofs.Ytlcmmaokfbjojaa
open Go.RowKit Go.Ab
attribute [local irreducible] AWP Go.Ab.Sub Means MeansH CallK CallG CallT CallGT

theorem getD_lt {L : List Int} {j : Nat} (h : j < L.length) : L.getD j 0 = L[j] := by rw [List.getD_eq_getElem?_getD, List.getElem?_eq_getElem h]; rfl
/-- What stands at a place. -/
def kf (R : List Int) (x : Int) : Int := R.getD x.toNat 0
def okR (R : List Int) : Prop := ∀ r ∈ R, 0 ≤ r ∧ r ≤ 4611686018427387904
def cmpC (R : List Int) (x y : Int) : Int := cmpI (kf R y) (kf R x)
theorem cmp_neg (R : List Int) (x y : Int) : cmpC R x y < 0 ↔ kf R y < kf R x := by unfold cmpC; exact cmpI_lt
theorem kf_at {R : List Int} {x : Int} (h : 0 ≤ x ∧ x < R.length) : ∃ k, ∃ hk : k < R.length, x = (k : Int) ∧ kf R x = R[k] := ⟨x.toNat, by omega, by omega, getD_lt (by omega)⟩

end Go.Proofs.Ytlcmmaokfbjojaa
