/-
  The small examples of layer 6.
-/
import Derived.Test.YtgfgajofilcniaaSealB
set_option linter.all false
namespace Go.Proofs.Ytgfgajofilcniaa
open Go.RowKit Go.Ab
attribute [local irreducible] AWP Go.Ab.Sub Means MeansH CallK CallG CallT CallGT

abbrev ta : ByteArray := ⟨#[97]⟩
abbrev tb : ByteArray := ⟨#[98]⟩
abbrev eA : E := ⟨3, ta⟩
abbrev eB : E := ⟨4, ta⟩
theorem s_1 : MeansH Try.prog 7 (ringH []) [.el 0 2 0 0, ii 3, ss ta] (go ⟨3, ta, 0⟩) (ringN [eA]) := by
  have h := sign_m [] (by decide) 3 ta
  rwa [show sigOf [] 3 ta = ⟨3, ta, 0⟩ by decide, show sigL [] 3 ta = [eA] by decide] at h
theorem s_2 : MeansH Try.prog 7 (ringH [eA]) [.el 0 2 0 0, ii 4, ss ta] (go ⟨4, ta, 1⟩) (ringN [eA, eB]) := by
  have h := sign_m [eA] (by decide) 4 ta
  rwa [show sigOf [eA] 4 ta = ⟨4, ta, 1⟩ by decide, show sigL [eA] 4 ta = [eA, eB] by decide] at h
theorem s_3 : MeansH Try.prog 7 (ringH [eA, eB]) [.el 0 2 0 0, ii 3, ss ta] (go ⟨3, ta, 0⟩) (ringN [eA, eB]) := by
  have h := sign_m [eA, eB] (by decide) 3 ta
  rwa [show sigOf [eA, eB] 3 ta = ⟨3, ta, 0⟩ by decide, show sigL [eA, eB] 3 ta = [eA, eB] by decide] at h
theorem s_4 : MeansH Try.prog 7 (ringH [eA, eB]) [.el 0 2 0 0, ii 200, ss ta] (go ⟨0, ⟨#[]⟩, 0⟩) (ringN [eA, eB]) := by
  have h := sign_m [eA, eB] (by decide) 200 ta
  rwa [show sigOf [eA, eB] 200 ta = ⟨0, ⟨#[]⟩, 0⟩ by decide, show sigL [eA, eB] 200 ta = [eA, eB] by decide] at h
theorem v_1 : MeansH Try.prog 11 (ringH [eA, eB]) [.el 0 2 0 0, go ⟨3, ta, 0⟩] (bb true) (ringH [eA, eB]) := by
  have h := valid_m [eA, eB] ⟨3, ta, 0⟩
  rwa [show holds [eA, eB] ⟨3, ta, 0⟩ = true by decide] at h
theorem v_2 : MeansH Try.prog 11 (ringH [eA, eB]) [.el 0 2 0 0, go ⟨3, ta, 1⟩] (bb false) (ringH [eA, eB]) := by
  have h := valid_m [eA, eB] ⟨3, ta, 1⟩
  rwa [show holds [eA, eB] ⟨3, ta, 1⟩ = false by decide] at h
theorem v_3 : MeansH Try.prog 11 (ringH [eA, eB]) [.el 0 2 0 0, go ⟨3, tb, 0⟩] (bb false) (ringH [eA, eB]) := by
  have h := valid_m [eA, eB] ⟨3, tb, 0⟩
  rwa [show holds [eA, eB] ⟨3, tb, 0⟩ = false by decide] at h

set_option maxHeartbeats 4000000 in
set_option maxRecDepth 20000 in
theorem small_m : Means true Try.prog 4 [] (bb true) := by
  refine means_fn true 60 [.tmp 0] Try.func4 rfl rfl rfl (by simp) (by decide) rfl fun X hX => ?_
  (repeat (refine awp_stepG [0, 1, 2, 3, 4, 5, 6, 9] hX mixed rfl ?_; (simp [go_sem]; try (refine ⟨by kernel_rfl, ?_⟩))))
  first | refine callH_intro [] (new_m) (by simp [go_sem]) ?_ | refine callTQ_intro [] (new_m) (by simp [go_sem]) ?_ | refine callTE_intro [] (new_m) (by simp [go_sem]) ?_
  try (simp [go_sem]; try (refine ⟨by kernel_rfl, ?_⟩))
  (repeat (refine awp_stepG [0, 1, 2, 3, 4, 5, 6, 9] hX mixed rfl ?_; (simp [go_sem]; try (refine ⟨by kernel_rfl, ?_⟩))))
  refine awp_cond (b := false) (by simp [go_sem]) (fun h => by cases h) (fun _ => ?_)
  (repeat (refine awp_stepG [0, 1, 2, 3, 4, 5, 6, 9] hX mixed rfl ?_; (simp [go_sem]; try (refine ⟨by kernel_rfl, ?_⟩))))
  first | refine callH_intro [0, 1, 2] (s_1) (by simp [go_sem]) ?_ | refine callTQ_intro [0, 1, 2] (s_1) (by simp [go_sem]) ?_ | refine callTE_intro [0, 1, 2] (s_1) (by simp [go_sem]) ?_
  try (simp [go_sem]; try (refine ⟨by kernel_rfl, ?_⟩))
  (repeat (refine awp_stepG [0, 1, 2, 3, 4, 5, 6, 9] hX mixed rfl ?_; (simp [go_sem]; try (refine ⟨by kernel_rfl, ?_⟩))))
  first | refine callH_intro [0, 3, 2] (s_2) (by simp [go_sem]) ?_ | refine callTQ_intro [0, 3, 2] (s_2) (by simp [go_sem]) ?_ | refine callTE_intro [0, 3, 2] (s_2) (by simp [go_sem]) ?_
  try (simp [go_sem]; try (refine ⟨by kernel_rfl, ?_⟩))
  (repeat (refine awp_stepG [0, 1, 2, 3, 4, 5, 6, 9] hX mixed rfl ?_; (simp [go_sem]; try (refine ⟨by kernel_rfl, ?_⟩))))
  first | refine callH_intro [0, 5, 2] (s_3) (by simp [go_sem]) ?_ | refine callTQ_intro [0, 5, 2] (s_3) (by simp [go_sem]) ?_ | refine callTE_intro [0, 5, 2] (s_3) (by simp [go_sem]) ?_
  try (simp [go_sem]; try (refine ⟨by kernel_rfl, ?_⟩))
  (repeat (refine awp_stepG [0, 1, 2, 3, 4, 5, 6, 9] hX mixed rfl ?_; (simp [go_sem]; try (refine ⟨by kernel_rfl, ?_⟩))))
  first | refine callH_intro [0, 7, 2] (s_4) (by simp [go_sem]) ?_ | refine callTQ_intro [0, 7, 2] (s_4) (by simp [go_sem]) ?_ | refine callTE_intro [0, 7, 2] (s_4) (by simp [go_sem]) ?_
  try (simp [go_sem]; try (refine ⟨by kernel_rfl, ?_⟩))
  (repeat (refine awp_stepG [0, 1, 2, 3, 4, 5, 6, 9] hX mixed rfl ?_; (simp [go_sem]; try (refine ⟨by kernel_rfl, ?_⟩))))
  first | refine callHG_intro [0, 9, 2] (fun hg => v_1) (by simp [go_sem]) (by simp [go_sem]) ?_ | refine callHGT_intro [0, 9, 2] (fun hg => v_1) (by simp [go_sem]) ?_
  try (simp [go_sem]; try (refine ⟨by kernel_rfl, ?_⟩))
  (repeat (refine awp_stepG [0, 1, 2, 3, 4, 5, 6, 9] hX mixed rfl ?_; (simp [go_sem]; try (refine ⟨by kernel_rfl, ?_⟩))))
  first | refine callHG_intro [0, 9, 2] (fun hg => v_2) (by simp [go_sem]) (by simp [go_sem]) ?_ | refine callHGT_intro [0, 9, 2] (fun hg => v_2) (by simp [go_sem]) ?_
  try (simp [go_sem]; try (refine ⟨by kernel_rfl, ?_⟩))
  (repeat (refine awp_stepG [0, 1, 2, 3, 4, 5, 6, 9] hX mixed rfl ?_; (simp [go_sem]; try (refine ⟨by kernel_rfl, ?_⟩))))
  first | refine callHG_intro [0, 9, 2] (fun hg => v_3) (by simp [go_sem]) (by simp [go_sem]) ?_ | refine callHGT_intro [0, 9, 2] (fun hg => v_3) (by simp [go_sem]) ?_
  try (simp [go_sem]; try (refine ⟨by kernel_rfl, ?_⟩))
  (repeat (refine awp_stepG [0, 1, 2, 3, 4, 5, 6, 9] hX mixed rfl ?_; (simp [go_sem]; try (refine ⟨by kernel_rfl, ?_⟩))))
  first | refine callHG_intro [0, 9, 2] (fun hg => all_m [eA, eB] (by decide)) (by simp [go_sem]) (by simp [go_sem]) ?_ | refine callHGT_intro [0, 9, 2] (fun hg => all_m [eA, eB] (by decide)) (by simp [go_sem]) ?_
  try (simp [go_sem]; try (refine ⟨by kernel_rfl, ?_⟩))
  (repeat (refine awp_stepG [0, 1, 2, 3, 4, 5, 6, 9] hX mixed rfl ?_; (simp [go_sem]; try (refine ⟨by kernel_rfl, ?_⟩))))

end Go.Proofs.Ytgfgajofilcniaa
