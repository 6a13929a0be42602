/-
  Layer 39: the examples.
-/
import Derived.Test.YtnifpooobleahaaRatF
set_option linter.all false
namespace Go.Proofs.Ytnifpooobleahaa
open Go.RowKit Go.Ab
attribute [local irreducible] AWP Go.Ab.Sub Means MeansH CallK CallG CallT CallGT CallU

theorem sort_few (C : List Int) (hl : C.length < 20) (h : Int) : rightC C h = true → ¬ sumL C ≤ h → MeansH Try.prog 23 (sH (idxI C.length) (rF h (sumL C) C)) [.ow 0, clo] (.tup []) (sH (srt (kf (rF h (sumL C) C)) (idxI C.length)) (rF h (sumL C) C)) := by
  intro hr hs
  simp only [rightC, okH, Bool.and_eq_true, decide_eq_true_eq] at hr
  obtain ⟨hok, ⟨_, hh0⟩, hh1⟩ := hr
  have hsb := sum_bd hok
  refine sortS_m _ _ (idxI_nodup _) (idxI_ord _) (fun x hx => ?_) (by rw [idxI_len]; exact hl) (by rw [rF_len]; omega) (rF_ok (by omega) C)
  rw [rF_len]
  exact idxI_mem.1 hx
theorem prop_few (C : List Int) (hl : C.length < 20) (h : Int) (R : List Int) (hr : rightC C h = true) (e : prop C h = R) : Means true Try.prog 10 [il C, ii h] (.tup [il R, ii 0]) := by
  have := prop_m C (by omega) h (sort_few C hl h)
  rwa [hr, if_pos rfl, if_pos rfl, e] at this
theorem share_ok (C : List Int) (hl : C.length ≤ 400) (h : Int) (R : List Int) (hr : rightC C h = true) (e : share C h = R) : Means true Try.prog 8 [il C, ii h] (.tup [il R, ii 0]) := by
  have := share_m C hl h
  rwa [hr, if_pos rfl, if_pos rfl, e] at this
theorem share_all {C : List Int} {h : Int} (hs : sumL C ≤ h) : share C h = C := if_pos hs
theorem share_at {C : List Int} {h l : Int} (hs : ¬ sumL C ≤ h) (hl : isLv C h l) : share C h = shr l (h - fill C l) C := by rw [share, if_neg hs, lvl_eq hl]
theorem same_t (a b : List Int) (h : a = b) (hl : a.length ≤ 100000) : Means true Try.prog 12 [il a, il b] (bb true) := by
  have := ints_m a b (by omega) (by subst h; omega)
  rwa [decide_eq_true h] at this
theorem p1 : prop [30, 100, 70] 150 = [23, 75, 52] := by decide
theorem p2 : prop [30, 100, 70] 151 = [23, 75, 53] := by decide
theorem p3 : prop [5, 5, 5] 2 = [1, 1, 0] := by decide
theorem p4 : prop [] 7 = [] := by decide
theorem s1 : share [30, 100, 70] 300 = [30, 100, 70] := share_all (by decide)
theorem s2 : share [30, 100, 70] 150 = [30, 60, 60] := (share_at (l := 60) (by decide) ⟨by decide, by decide, by decide⟩).trans (by decide)
theorem s3 : share [30, 100, 70] 151 = [30, 61, 60] := (share_at (l := 60) (by decide) ⟨by decide, by decide, by decide⟩).trans (by decide)
theorem s4 : share [5, 5, 5] 2 = [1, 1, 0] := (share_at (l := 0) (by decide) ⟨by decide, by decide, by decide⟩).trans (by decide)

set_option maxHeartbeats 8000000 in
set_option maxRecDepth 20000 in
theorem small_m : Means true Try.prog 7 [] (bb true) := by
  refine means_fn true 130 [.tmp 0] Try.func7 rfl rfl rfl (by simp) (by decide) rfl fun X hX => ?_
  (repeat (first | refine awp_seq ?_ | refine awp_block ?_ | ((first | refine awp_runG [0, 1, 2, 3, 4, 5, 6, 7, 8, 9, 10, 11, 12, 13, 14, 15, 16, 17, 18] hX ?_ | refine awp_drawnG [0, 1, 2, 3, 4, 5, 6, 7, 8, 9, 10, 11, 12, 13, 14, 15, 16, 17, 18] hX mixed ?_ | refine awp_ret ?_ | refine awp_skip ?_ | refine awp_exit ?_); (simp [go_sem]; try (refine ⟨by kernel_rfl, ?_⟩)))))
  first | refine callK_intro (share_ok [30, 100, 70] (by decide) 300 _ (by decide) s1) rfl (by simp [go_sem]) rfl ?_ | refine callT_intro (share_ok [30, 100, 70] (by decide) 300 _ (by decide) s1) rfl (by simp [go_sem]) rfl ?_
  try (simp [go_sem]; try (refine ⟨by kernel_rfl, ?_⟩))
  (repeat (first | refine awp_seq ?_ | refine awp_block ?_ | ((first | refine awp_runG [0, 1, 2, 3, 4, 5, 6, 7, 8, 9, 10, 11, 12, 13, 14, 15, 16, 17, 18] hX ?_ | refine awp_drawnG [0, 1, 2, 3, 4, 5, 6, 7, 8, 9, 10, 11, 12, 13, 14, 15, 16, 17, 18] hX mixed ?_ | refine awp_ret ?_ | refine awp_skip ?_ | refine awp_exit ?_); (simp [go_sem]; try (refine ⟨by kernel_rfl, ?_⟩)))))
  first | refine callK_intro (share_ok [30, 100, 70] (by decide) 150 _ (by decide) s2) rfl (by simp [go_sem]) rfl ?_ | refine callT_intro (share_ok [30, 100, 70] (by decide) 150 _ (by decide) s2) rfl (by simp [go_sem]) rfl ?_
  try (simp [go_sem]; try (refine ⟨by kernel_rfl, ?_⟩))
  (repeat (first | refine awp_seq ?_ | refine awp_block ?_ | ((first | refine awp_runG [0, 1, 2, 3, 4, 5, 6, 7, 8, 9, 10, 11, 12, 13, 14, 15, 16, 17, 18] hX ?_ | refine awp_drawnG [0, 1, 2, 3, 4, 5, 6, 7, 8, 9, 10, 11, 12, 13, 14, 15, 16, 17, 18] hX mixed ?_ | refine awp_ret ?_ | refine awp_skip ?_ | refine awp_exit ?_); (simp [go_sem]; try (refine ⟨by kernel_rfl, ?_⟩)))))
  first | refine callK_intro (share_ok [30, 100, 70] (by decide) 151 _ (by decide) s3) rfl (by simp [go_sem]) rfl ?_ | refine callT_intro (share_ok [30, 100, 70] (by decide) 151 _ (by decide) s3) rfl (by simp [go_sem]) rfl ?_
  try (simp [go_sem]; try (refine ⟨by kernel_rfl, ?_⟩))
  (repeat (first | refine awp_seq ?_ | refine awp_block ?_ | ((first | refine awp_runG [0, 1, 2, 3, 4, 5, 6, 7, 8, 9, 10, 11, 12, 13, 14, 15, 16, 17, 18] hX ?_ | refine awp_drawnG [0, 1, 2, 3, 4, 5, 6, 7, 8, 9, 10, 11, 12, 13, 14, 15, 16, 17, 18] hX mixed ?_ | refine awp_ret ?_ | refine awp_skip ?_ | refine awp_exit ?_); (simp [go_sem]; try (refine ⟨by kernel_rfl, ?_⟩)))))
  first | refine callK_intro (share_ok [5, 5, 5] (by decide) 2 _ (by decide) s4) rfl (by simp [go_sem]) rfl ?_ | refine callT_intro (share_ok [5, 5, 5] (by decide) 2 _ (by decide) s4) rfl (by simp [go_sem]) rfl ?_
  try (simp [go_sem]; try (refine ⟨by kernel_rfl, ?_⟩))
  (repeat (first | refine awp_seq ?_ | refine awp_block ?_ | ((first | refine awp_runG [0, 1, 2, 3, 4, 5, 6, 7, 8, 9, 10, 11, 12, 13, 14, 15, 16, 17, 18] hX ?_ | refine awp_drawnG [0, 1, 2, 3, 4, 5, 6, 7, 8, 9, 10, 11, 12, 13, 14, 15, 16, 17, 18] hX mixed ?_ | refine awp_ret ?_ | refine awp_skip ?_ | refine awp_exit ?_); (simp [go_sem]; try (refine ⟨by kernel_rfl, ?_⟩)))))
  first | refine callK_intro (prop_few [30, 100, 70] (by decide) 150 _ (by decide) p1) rfl (by simp [go_sem]) rfl ?_ | refine callT_intro (prop_few [30, 100, 70] (by decide) 150 _ (by decide) p1) rfl (by simp [go_sem]) rfl ?_
  try (simp [go_sem]; try (refine ⟨by kernel_rfl, ?_⟩))
  (repeat (first | refine awp_seq ?_ | refine awp_block ?_ | ((first | refine awp_runG [0, 1, 2, 3, 4, 5, 6, 7, 8, 9, 10, 11, 12, 13, 14, 15, 16, 17, 18] hX ?_ | refine awp_drawnG [0, 1, 2, 3, 4, 5, 6, 7, 8, 9, 10, 11, 12, 13, 14, 15, 16, 17, 18] hX mixed ?_ | refine awp_ret ?_ | refine awp_skip ?_ | refine awp_exit ?_); (simp [go_sem]; try (refine ⟨by kernel_rfl, ?_⟩)))))
  first | refine callK_intro (prop_few [30, 100, 70] (by decide) 151 _ (by decide) p2) rfl (by simp [go_sem]) rfl ?_ | refine callT_intro (prop_few [30, 100, 70] (by decide) 151 _ (by decide) p2) rfl (by simp [go_sem]) rfl ?_
  try (simp [go_sem]; try (refine ⟨by kernel_rfl, ?_⟩))
  (repeat (first | refine awp_seq ?_ | refine awp_block ?_ | ((first | refine awp_runG [0, 1, 2, 3, 4, 5, 6, 7, 8, 9, 10, 11, 12, 13, 14, 15, 16, 17, 18] hX ?_ | refine awp_drawnG [0, 1, 2, 3, 4, 5, 6, 7, 8, 9, 10, 11, 12, 13, 14, 15, 16, 17, 18] hX mixed ?_ | refine awp_ret ?_ | refine awp_skip ?_ | refine awp_exit ?_); (simp [go_sem]; try (refine ⟨by kernel_rfl, ?_⟩)))))
  first | refine callK_intro (prop_few [5, 5, 5] (by decide) 2 _ (by decide) p3) rfl (by simp [go_sem]) rfl ?_ | refine callT_intro (prop_few [5, 5, 5] (by decide) 2 _ (by decide) p3) rfl (by simp [go_sem]) rfl ?_
  try (simp [go_sem]; try (refine ⟨by kernel_rfl, ?_⟩))
  (repeat (first | refine awp_seq ?_ | refine awp_block ?_ | ((first | refine awp_runG [0, 1, 2, 3, 4, 5, 6, 7, 8, 9, 10, 11, 12, 13, 14, 15, 16, 17, 18] hX ?_ | refine awp_drawnG [0, 1, 2, 3, 4, 5, 6, 7, 8, 9, 10, 11, 12, 13, 14, 15, 16, 17, 18] hX mixed ?_ | refine awp_ret ?_ | refine awp_skip ?_ | refine awp_exit ?_); (simp [go_sem]; try (refine ⟨by kernel_rfl, ?_⟩)))))
  first | refine callK_intro (prop_few [] (by decide) 7 _ (by decide) p4) rfl (by simp [go_sem]) rfl ?_ | refine callT_intro (prop_few [] (by decide) 7 _ (by decide) p4) rfl (by simp [go_sem]) rfl ?_
  try (simp [go_sem]; try (refine ⟨by kernel_rfl, ?_⟩))
  (repeat (first | refine awp_seq ?_ | refine awp_block ?_ | ((first | refine awp_runG [0, 1, 2, 3, 4, 5, 6, 7, 8, 9, 10, 11, 12, 13, 14, 15, 16, 17, 18] hX ?_ | refine awp_drawnG [0, 1, 2, 3, 4, 5, 6, 7, 8, 9, 10, 11, 12, 13, 14, 15, 16, 17, 18] hX mixed ?_ | refine awp_ret ?_ | refine awp_skip ?_ | refine awp_exit ?_); (simp [go_sem]; try (refine ⟨by kernel_rfl, ?_⟩)))))
  first | refine callG_intro (fun hg => same_t [30, 100, 70] [30, 100, 70] rfl (by decide)) rfl (by simp [go_sem]) rfl ?_ | refine callGT_intro (fun hg => same_t [30, 100, 70] [30, 100, 70] rfl (by decide)) rfl (by simp [go_sem]) rfl ?_
  try (simp [go_sem]; try (refine ⟨by kernel_rfl, ?_⟩))
  first | refine callG_intro (fun hg => same_t [30, 60, 60] [30, 60, 60] rfl (by decide)) rfl (by simp [go_sem]) rfl ?_ | refine callGT_intro (fun hg => same_t [30, 60, 60] [30, 60, 60] rfl (by decide)) rfl (by simp [go_sem]) rfl ?_
  try (simp [go_sem]; try (refine ⟨by kernel_rfl, ?_⟩))
  first | refine callG_intro (fun hg => same_t [30, 61, 60] [30, 61, 60] rfl (by decide)) rfl (by simp [go_sem]) rfl ?_ | refine callGT_intro (fun hg => same_t [30, 61, 60] [30, 61, 60] rfl (by decide)) rfl (by simp [go_sem]) rfl ?_
  try (simp [go_sem]; try (refine ⟨by kernel_rfl, ?_⟩))
  first | refine callG_intro (fun hg => same_t [1, 1, 0] [1, 1, 0] rfl (by decide)) rfl (by simp [go_sem]) rfl ?_ | refine callGT_intro (fun hg => same_t [1, 1, 0] [1, 1, 0] rfl (by decide)) rfl (by simp [go_sem]) rfl ?_
  try (simp [go_sem]; try (refine ⟨by kernel_rfl, ?_⟩))
  (repeat (first | refine awp_seq ?_ | refine awp_block ?_ | ((first | refine awp_runG [0, 1, 2, 3, 4, 5, 6, 7, 8, 9, 10, 11, 12, 13, 14, 15, 16, 17, 18] hX ?_ | refine awp_drawnG [0, 1, 2, 3, 4, 5, 6, 7, 8, 9, 10, 11, 12, 13, 14, 15, 16, 17, 18] hX mixed ?_ | refine awp_ret ?_ | refine awp_skip ?_ | refine awp_exit ?_); (simp [go_sem]; try (refine ⟨by kernel_rfl, ?_⟩)))))
  first | refine callG_intro (fun hg => same_t [23, 75, 52] [23, 75, 52] rfl (by decide)) rfl (by simp [go_sem]) rfl ?_ | refine callGT_intro (fun hg => same_t [23, 75, 52] [23, 75, 52] rfl (by decide)) rfl (by simp [go_sem]) rfl ?_
  try (simp [go_sem]; try (refine ⟨by kernel_rfl, ?_⟩))
  first | refine callG_intro (fun hg => same_t [23, 75, 53] [23, 75, 53] rfl (by decide)) rfl (by simp [go_sem]) rfl ?_ | refine callGT_intro (fun hg => same_t [23, 75, 53] [23, 75, 53] rfl (by decide)) rfl (by simp [go_sem]) rfl ?_
  try (simp [go_sem]; try (refine ⟨by kernel_rfl, ?_⟩))
  first | refine callG_intro (fun hg => same_t [1, 1, 0] [1, 1, 0] rfl (by decide)) rfl (by simp [go_sem]) rfl ?_ | refine callGT_intro (fun hg => same_t [1, 1, 0] [1, 1, 0] rfl (by decide)) rfl (by simp [go_sem]) rfl ?_
  try (simp [go_sem]; try (refine ⟨by kernel_rfl, ?_⟩))
  (repeat (first | refine awp_seq ?_ | refine awp_block ?_ | ((first | refine awp_runG [0, 1, 2, 3, 4, 5, 6, 7, 8, 9, 10, 11, 12, 13, 14, 15, 16, 17, 18] hX ?_ | refine awp_drawnG [0, 1, 2, 3, 4, 5, 6, 7, 8, 9, 10, 11, 12, 13, 14, 15, 16, 17, 18] hX mixed ?_ | refine awp_ret ?_ | refine awp_skip ?_ | refine awp_exit ?_); (simp [go_sem]; try (refine ⟨by kernel_rfl, ?_⟩)))))

end Go.Proofs.Ytnifpooobleahaa
