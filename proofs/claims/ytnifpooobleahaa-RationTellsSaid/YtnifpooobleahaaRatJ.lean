/-
  Layer 39: sharing in proportion, for all claims.
-/
import Derived.Test.YtnifpooobleahaaRatU
import Derived.Test.YtnifpooobleahaaRatH
import Derived.Test.YtnifpooobleahaaStahRatC
set_option linter.all false
namespace Go.Proofs.Ytnifpooobleahaa
open Go.RowKit Go.Ab
attribute [local irreducible] AWP Go.Ab.Sub Means MeansH CallK CallG CallT CallGT CallU

theorem sort_any (C : List Int) (hl : C.length ≤ 400) (h : Int) : rightC C h = true → ¬ sumL C ≤ h → MeansH Try.prog 23 (sH (idxI C.length) (rF h (sumL C) C)) [.ow 0, clo] (.tup []) (sH (srt (kf (rF h (sumL C) C)) (idxI C.length)) (rF h (sumL C) C)) := by
  intro hr hs
  simp only [rightC, okH, Bool.and_eq_true, decide_eq_true_eq] at hr
  obtain ⟨hok, ⟨_, hh0⟩, hh1⟩ := hr
  have hsb := sum_bd hok
  refine sortG_m _ _ (List.pairwise_iff_getElem.2 fun i j hi hj hij => idxI_ord _ i j hi hj hij) (fun x hx => ?_) (by rw [idxI_len]; omega) (by rw [rF_len]; omega) (rF_ok (by omega) C)
  rw [rF_len]
  exact idxI_mem.1 hx
theorem prop_all (C : List Int) (hl : C.length ≤ 400) (h : Int) (hr : rightC C h = true) : Means true Try.prog 10 [il C, ii h] (.tup [il (prop C h), ii 0]) := by
  have := prop_m C hl h (sort_any C hl h)
  rwa [hr, if_pos rfl, if_pos rfl] at this

end Go.Proofs.Ytnifpooobleahaa
