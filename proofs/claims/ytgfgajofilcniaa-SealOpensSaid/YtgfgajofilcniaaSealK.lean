/-
  The walks of layer 6: a map's clone.
-/
import Derived.Test.YtgfgajofilcniaaSealG
import Derived.Test.YtgfgajofilcniaaFw5
import Derived.Test.YtgfgajofilcniaaShelf
set_option linter.all false
namespace Go.Proofs.Ytgfgajofilcniaa
open Go.RowKit Go.Ab Go.Shelf

theorem mclone_m (m : MOb) : MeansH Try.prog 15 [.map m] [.ow 0] (.ow 1) [.map m, .map m] :=
  mapClone (fun b es clock w hb => AnyW.maps_Clone Try.cloneM b es clock w hb) m

attribute [local irreducible] AWP Go.Ab.Sub Means MeansH CallK CallG CallT CallGT
theorem cloneH_m (L : List E) (hl : L.length ≤ 1000) : MeansH Try.prog 14 [.row ⟨24, 2, L.map eo⟩] [.ow 0] (.ow 1) [.row ⟨24, 2, L.map eo⟩, .row ⟨24, 2, L.map eo⟩] := by
  refine meansH_fn 1 8 [.tmp 2] Try.func14 rfl rfl rfl (by simp) (by decide) rfl fun X hX => ?_
  (repeat (refine awp_stepH [0, 2, 4, 1000000] hX mixed rfl ?_; (simp [go_sem]; try (refine ⟨by kernel_rfl, ?_⟩))))
  refine ⟨?_, fun hL => ?_⟩
  · refine awp_cond (b := false) (by simp [go_sem]) (fun hb => by cases hb) (fun _ => ?_)
    (repeat (refine awp_stepH [0, 2, 4, 1000000] hX mixed rfl ?_; (simp [go_sem]; try (refine ⟨by kernel_rfl, ?_⟩))))
    (repeat refine And.intro (by first | omega | (unfold maxLen; omega) | kernel_rfl | (refine ⟨by first | omega | (unfold maxLen; omega), by first | omega | (unfold maxLen; omega)⟩) | grind) ?_)
    (repeat (refine awp_stepH [0, 2, 4, 1000000] hX mixed rfl ?_; (simp [go_sem]; try (refine ⟨by kernel_rfl, ?_⟩))))
    refine awp_ret ?_; (try simp only [thenQ, blkQ, loopQ]); refine retH_ret [(2, .ow 1), (1000000, .ow 0)] [.old 0 ⟨24, 2, L.map eo⟩, .old 2 ⟨24, 2, L.map eo⟩] ?_
    simp [go_sem]
  · subst hL
    refine awp_cond (b := true) (by simp [go_sem]) (fun _ => ?_) (fun hb => by cases hb)
    (repeat (refine awp_stepH [0, 2, 4, 1000000] hX mixed rfl ?_; (simp [go_sem]; try (refine ⟨by kernel_rfl, ?_⟩))))
    refine awp_ret ?_; (try simp only [thenQ, blkQ, loopQ]); refine retH_ret [(2, .ow 1), (1000000, .ow 0)] [.old 0 ⟨24, 2, []⟩, .birth 24 2] ?_
    simp [go_sem]

/-- A ring and its copy. -/
abbrev copyH (L : List E) : List Cell := [.row ⟨42, 2, [.agg [.ow 1, .ow 2]]⟩, .row ⟨24, 2, L.map eo⟩, .map ⟨24, 3, marks 0 L⟩, .row ⟨24, 2, L.map eo⟩, .map ⟨24, 3, marks 0 L⟩, .row ⟨42, 2, [.agg [.ow 3, .ow 4]]⟩]
set_option maxRecDepth 20000 in
theorem copy_m (L : List E) (hl : L.length ≤ 1000) : MeansH Try.prog 12 (ringH L) [.el 0 2 0 0] (.el 5 2 0 0) (copyH L) := by
  refine meansH_fn 3 15 [.tmp 2] Try.func12 rfl rfl rfl (by simp) (by decide) rfl fun X hX => ?_
  (repeat (refine awp_stepH [0, 2, 1000000, 1000001, 1000002] hX mixed rfl ?_; (simp [go_sem]; try (refine ⟨by kernel_rfl, ?_⟩))))
  first | refine callH_intro [1] (cloneH_m L hl) (by simp [go_sem]) ?_ | refine callTQ_intro [1] (cloneH_m L hl) (by simp [go_sem]) ?_ | refine callTE_intro [1] (cloneH_m L hl) (by simp [go_sem]) ?_
  try (simp [go_sem]; try (refine ⟨by kernel_rfl, ?_⟩))
  first | refine callH_intro [2] (mclone_m ⟨24, 3, marks 0 L⟩) (by simp [go_sem]) ?_ | refine callTQ_intro [2] (mclone_m ⟨24, 3, marks 0 L⟩) (by simp [go_sem]) ?_ | refine callTE_intro [2] (mclone_m ⟨24, 3, marks 0 L⟩) (by simp [go_sem]) ?_
  try (simp [go_sem]; try (refine ⟨by kernel_rfl, ?_⟩))
  refine awp_ret ?_; (try simp only [thenQ, blkQ, loopQ]); refine retH_ret [(2, .el 5 2 0 0), (1000000, .ow 0), (1000001, .ow 1), (1000002, .ow 2)] [.old 0 ⟨42, 2, [.agg [.ow 1, .ow 2]]⟩, .old 1 ⟨24, 2, L.map eo⟩, .oldM 2 ⟨24, 3, marks 0 L⟩, .old 3 ⟨24, 2, L.map eo⟩, .oldM 4 ⟨24, 3, marks 0 L⟩, .old 5 ⟨42, 2, [.agg [.ow 3, .ow 4]]⟩] ?_
  simp [go_sem]

end Go.Proofs.Ytgfgajofilcniaa
