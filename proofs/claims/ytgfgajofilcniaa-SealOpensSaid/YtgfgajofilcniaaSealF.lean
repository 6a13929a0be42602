/-
  The walks of layer 6: the reference's ring, on.
-/
import Derived.Test.YtgfgajofilcniaaSealP
import Derived.Test.YtgfgajofilcniaaFw5
set_option linter.all false
namespace Go.Proofs.Ytgfgajofilcniaa
open Go.RowKit Go.Ab
attribute [local irreducible] AWP Go.Ab.Sub Means MeansH CallK CallG CallT CallGT

/-- Whether a signature holds, by the reference. -/
def rholds (L : List E) (g : G) : Bool := decide (0 ≤ g.mark) && decide (L[g.mark.toNat]? = some ⟨g.key, g.text⟩)

theorem nth_out (L : List E) {i : Nat} (h : L.length ≤ i) : nth (L.map eo) i = .bad := by
  unfold nth; rw [List.getD_eq_getElem?_getD, List.getElem?_eq_none (by simpa using h)]; rfl


end Go.Proofs.Ytgfgajofilcniaa
