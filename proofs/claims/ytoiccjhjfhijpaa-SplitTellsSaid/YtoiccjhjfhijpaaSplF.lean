/-
  Layer 18: the examples.
-/
import Derived.Test.YtoiccjhjfhijpaaSplI
import Derived.Test.YtoiccjhjfhijpaaSplE
set_option linter.all false
namespace Go.Proofs.Ytoiccjhjfhijpaa
open Go.RowKit Go.Ab
attribute [local irreducible] AWP Go.Ab.Sub Means MeansH CallK CallG CallT CallGT CallU

theorem is_m (l : List Int) (e : Int) (w : List Int) (hl : l.length ≤ 9223372036854775807) (hw : w.length ≤ 9223372036854775807) : Means true Try.prog 24 [il l, ii e, il w] (bb (decide (e = 0) && decide (l = w))) := by
  refine means_fn true 14 [.tmp 6] Try.func24 rfl rfl rfl (by simp) (by decide) rfl fun X hX => ?_
  (repeat (first | refine awp_seq ?_ | refine awp_block ?_ | ((first | refine awp_runG [0, 1, 2, 6] hX ?_ | refine awp_drawnG [0, 1, 2, 6] hX mixed ?_ | refine awp_ret ?_ | refine awp_skip ?_ | refine awp_exit ?_); (simp [go_sem]; try (refine ⟨by kernel_rfl, ?_⟩)))))
  first | refine callG_intro (fun hg => ints_m l w hl hw) rfl (by simp [go_sem]) rfl ?_ | refine callGT_intro (fun hg => ints_m l w hl hw) rfl (by simp [go_sem]) rfl ?_
  try (simp [go_sem]; try (refine ⟨by kernel_rfl, ?_⟩))
  (repeat (first | refine awp_seq ?_ | refine awp_block ?_ | ((first | refine awp_runG [0, 1, 2, 6] hX ?_ | refine awp_drawnG [0, 1, 2, 6] hX mixed ?_ | refine awp_ret ?_ | refine awp_skip ?_ | refine awp_exit ?_); (simp [go_sem]; try (refine ⟨by kernel_rfl, ?_⟩)))))
theorem is_t (l : List Int) (hl : l.length ≤ 9223372036854775807) : Means true Try.prog 24 [il l, ii 0, il l] (bb true) := by
  have := is_m l 0 l hl hl
  rwa [decide_eq_true rfl, decide_eq_true rfl] at this
theorem even_t (n p : Int) (R : List Int) (h : isAm n = true ∧ 1 ≤ p ∧ p ≤ 60) (e : wtd (List.replicate p.toNat 1) n = R) : Means false Try.prog 9 [ii n, ii p] (.tup [il R, ii 0]) := by
  have := even_m n p
  rwa [if_pos h, if_pos h, e] at this
theorem weighted_t (n : Int) (W R : List Int) (hl : W.length ≤ 9223372036854775807) (h : isAm n = true ∧ wsum W ≠ 0) (e : wtd W n = R) : Means true Try.prog 11 [ii n, il W] (.tup [il R, ii 0]) := by
  have := weighted_m n W hl
  rwa [if_pos h, if_pos h, e] at this
theorem given_t (W : List Int) (n : Int) (R : List Int) (hl : W.length ≤ 9223372036854775807) (h : givenE W n = 0) (e : given W n = R) : Means true Try.prog 15 [il W, ii n] (.tup [il R, ii 0]) := by
  rw [← e]; exact given_ok W n hl h
theorem fair_t (n : Int) (W : List Int) (b : Int) (R : List Int) (hl : W.length ≤ 9223372036854775807) (h : fairE n W b = 0) (e : fair n W b = R) : Means true Try.prog 17 [ii n, il W, ii b] (.tup [il R, ii 0]) := by
  have := fair_m n W b hl
  rwa [h, if_pos rfl, e] at this

set_option maxHeartbeats 8000000 in
set_option maxRecDepth 20000 in
theorem small_m : Means true Try.prog 8 [] (bb true) := by
  refine means_fn true 92 [.tmp 0] Try.func8 rfl rfl rfl (by simp) (by decide) rfl fun X hX => ?_
  (repeat (first | refine awp_seq ?_ | refine awp_block ?_ | ((first | refine awp_runG [0, 1, 2, 3, 4, 5, 6, 7, 8, 9, 10, 11, 12, 13, 14, 15, 16] hX ?_ | refine awp_drawnG [0, 1, 2, 3, 4, 5, 6, 7, 8, 9, 10, 11, 12, 13, 14, 15, 16] hX mixed ?_ | refine awp_ret ?_ | refine awp_skip ?_ | refine awp_exit ?_); (simp [go_sem]; try (refine ⟨by kernel_rfl, ?_⟩)))))
  first | refine callK_intro (even_t 10 3 [4, 3, 3] (by decide) (by decide)) rfl (by simp [go_sem]) rfl ?_ | refine callT_intro (even_t 10 3 [4, 3, 3] (by decide) (by decide)) rfl (by simp [go_sem]) rfl ?_
  try (simp [go_sem]; try (refine ⟨by kernel_rfl, ?_⟩))
  (repeat (first | refine awp_seq ?_ | refine awp_block ?_ | ((first | refine awp_runG [0, 1, 2, 3, 4, 5, 6, 7, 8, 9, 10, 11, 12, 13, 14, 15, 16] hX ?_ | refine awp_drawnG [0, 1, 2, 3, 4, 5, 6, 7, 8, 9, 10, 11, 12, 13, 14, 15, 16] hX mixed ?_ | refine awp_ret ?_ | refine awp_skip ?_ | refine awp_exit ?_); (simp [go_sem]; try (refine ⟨by kernel_rfl, ?_⟩)))))
  first | refine callK_intro (even_t 2 3 [1, 1, 0] (by decide) (by decide)) rfl (by simp [go_sem]) rfl ?_ | refine callT_intro (even_t 2 3 [1, 1, 0] (by decide) (by decide)) rfl (by simp [go_sem]) rfl ?_
  try (simp [go_sem]; try (refine ⟨by kernel_rfl, ?_⟩))
  (repeat (first | refine awp_seq ?_ | refine awp_block ?_ | ((first | refine awp_runG [0, 1, 2, 3, 4, 5, 6, 7, 8, 9, 10, 11, 12, 13, 14, 15, 16] hX ?_ | refine awp_drawnG [0, 1, 2, 3, 4, 5, 6, 7, 8, 9, 10, 11, 12, 13, 14, 15, 16] hX mixed ?_ | refine awp_ret ?_ | refine awp_skip ?_ | refine awp_exit ?_); (simp [go_sem]; try (refine ⟨by kernel_rfl, ?_⟩)))))
  first | refine callK_intro (weighted_t 10 [1, 1, 1, 0] [4, 3, 3, 0] (by decide) (by decide) (by decide)) rfl (by simp [go_sem]) rfl ?_ | refine callT_intro (weighted_t 10 [1, 1, 1, 0] [4, 3, 3, 0] (by decide) (by decide) (by decide)) rfl (by simp [go_sem]) rfl ?_
  try (simp [go_sem]; try (refine ⟨by kernel_rfl, ?_⟩))
  (repeat (first | refine awp_seq ?_ | refine awp_block ?_ | ((first | refine awp_runG [0, 1, 2, 3, 4, 5, 6, 7, 8, 9, 10, 11, 12, 13, 14, 15, 16] hX ?_ | refine awp_drawnG [0, 1, 2, 3, 4, 5, 6, 7, 8, 9, 10, 11, 12, 13, 14, 15, 16] hX mixed ?_ | refine awp_ret ?_ | refine awp_skip ?_ | refine awp_exit ?_); (simp [go_sem]; try (refine ⟨by kernel_rfl, ?_⟩)))))
  first | refine callK_intro (weighted_t 7 [3, 2, 2] [3, 2, 2] (by decide) (by decide) (by decide)) rfl (by simp [go_sem]) rfl ?_ | refine callT_intro (weighted_t 7 [3, 2, 2] [3, 2, 2] (by decide) (by decide) (by decide)) rfl (by simp [go_sem]) rfl ?_
  try (simp [go_sem]; try (refine ⟨by kernel_rfl, ?_⟩))
  (repeat (first | refine awp_seq ?_ | refine awp_block ?_ | ((first | refine awp_runG [0, 1, 2, 3, 4, 5, 6, 7, 8, 9, 10, 11, 12, 13, 14, 15, 16] hX ?_ | refine awp_drawnG [0, 1, 2, 3, 4, 5, 6, 7, 8, 9, 10, 11, 12, 13, 14, 15, 16] hX mixed ?_ | refine awp_ret ?_ | refine awp_skip ?_ | refine awp_exit ?_); (simp [go_sem]; try (refine ⟨by kernel_rfl, ?_⟩)))))
  first | refine callK_intro (given_t [3, 2, 1] 4 [2, 2, 0] (by decide) (by decide) (by decide)) rfl (by simp [go_sem]) rfl ?_ | refine callT_intro (given_t [3, 2, 1] 4 [2, 2, 0] (by decide) (by decide) (by decide)) rfl (by simp [go_sem]) rfl ?_
  try (simp [go_sem]; try (refine ⟨by kernel_rfl, ?_⟩))
  (repeat (first | refine awp_seq ?_ | refine awp_block ?_ | ((first | refine awp_runG [0, 1, 2, 3, 4, 5, 6, 7, 8, 9, 10, 11, 12, 13, 14, 15, 16] hX ?_ | refine awp_drawnG [0, 1, 2, 3, 4, 5, 6, 7, 8, 9, 10, 11, 12, 13, 14, 15, 16] hX mixed ?_ | refine awp_ret ?_ | refine awp_skip ?_ | refine awp_exit ?_); (simp [go_sem]; try (refine ⟨by kernel_rfl, ?_⟩)))))
  first | refine callK_intro (given_t [3, 2, 1] 7 [4, 2, 1] (by decide) (by decide) (by decide)) rfl (by simp [go_sem]) rfl ?_ | refine callT_intro (given_t [3, 2, 1] 7 [4, 2, 1] (by decide) (by decide) (by decide)) rfl (by simp [go_sem]) rfl ?_
  try (simp [go_sem]; try (refine ⟨by kernel_rfl, ?_⟩))
  (repeat (first | refine awp_seq ?_ | refine awp_block ?_ | ((first | refine awp_runG [0, 1, 2, 3, 4, 5, 6, 7, 8, 9, 10, 11, 12, 13, 14, 15, 16] hX ?_ | refine awp_drawnG [0, 1, 2, 3, 4, 5, 6, 7, 8, 9, 10, 11, 12, 13, 14, 15, 16] hX mixed ?_ | refine awp_ret ?_ | refine awp_skip ?_ | refine awp_exit ?_); (simp [go_sem]; try (refine ⟨by kernel_rfl, ?_⟩)))))
  first | refine callK_intro (fair_t 2 [3, 2, 1] 3 [1, 1, 0] (by decide) (by decide) (by decide)) rfl (by simp [go_sem]) rfl ?_ | refine callT_intro (fair_t 2 [3, 2, 1] 3 [1, 1, 0] (by decide) (by decide) (by decide)) rfl (by simp [go_sem]) rfl ?_
  try (simp [go_sem]; try (refine ⟨by kernel_rfl, ?_⟩))
  (repeat (first | refine awp_seq ?_ | refine awp_block ?_ | ((first | refine awp_runG [0, 1, 2, 3, 4, 5, 6, 7, 8, 9, 10, 11, 12, 13, 14, 15, 16] hX ?_ | refine awp_drawnG [0, 1, 2, 3, 4, 5, 6, 7, 8, 9, 10, 11, 12, 13, 14, 15, 16] hX mixed ?_ | refine awp_ret ?_ | refine awp_skip ?_ | refine awp_exit ?_); (simp [go_sem]; try (refine ⟨by kernel_rfl, ?_⟩)))))
  first | refine callK_intro (is_t [4, 3, 3] (by decide)) rfl (by simp [go_sem]) rfl ?_ | refine callT_intro (is_t [4, 3, 3] (by decide)) rfl (by simp [go_sem]) rfl ?_
  try (simp [go_sem]; try (refine ⟨by kernel_rfl, ?_⟩))
  first | refine callG_intro (fun hg => is_t [1, 1, 0] (by decide)) rfl (by simp [go_sem]) rfl ?_ | refine callGT_intro (fun hg => is_t [1, 1, 0] (by decide)) rfl (by simp [go_sem]) rfl ?_
  try (simp [go_sem]; try (refine ⟨by kernel_rfl, ?_⟩))
  first | refine callG_intro (fun hg => is_t [4, 3, 3, 0] (by decide)) rfl (by simp [go_sem]) rfl ?_ | refine callGT_intro (fun hg => is_t [4, 3, 3, 0] (by decide)) rfl (by simp [go_sem]) rfl ?_
  try (simp [go_sem]; try (refine ⟨by kernel_rfl, ?_⟩))
  first | refine callG_intro (fun hg => is_t [3, 2, 2] (by decide)) rfl (by simp [go_sem]) rfl ?_ | refine callGT_intro (fun hg => is_t [3, 2, 2] (by decide)) rfl (by simp [go_sem]) rfl ?_
  try (simp [go_sem]; try (refine ⟨by kernel_rfl, ?_⟩))
  (repeat (first | refine awp_seq ?_ | refine awp_block ?_ | ((first | refine awp_runG [0, 1, 2, 3, 4, 5, 6, 7, 8, 9, 10, 11, 12, 13, 14, 15, 16] hX ?_ | refine awp_drawnG [0, 1, 2, 3, 4, 5, 6, 7, 8, 9, 10, 11, 12, 13, 14, 15, 16] hX mixed ?_ | refine awp_ret ?_ | refine awp_skip ?_ | refine awp_exit ?_); (simp [go_sem]; try (refine ⟨by kernel_rfl, ?_⟩)))))
  first | refine callG_intro (fun hg => is_t [2, 2, 0] (by decide)) rfl (by simp [go_sem]) rfl ?_ | refine callGT_intro (fun hg => is_t [2, 2, 0] (by decide)) rfl (by simp [go_sem]) rfl ?_
  try (simp [go_sem]; try (refine ⟨by kernel_rfl, ?_⟩))
  first | refine callG_intro (fun hg => is_t [4, 2, 1] (by decide)) rfl (by simp [go_sem]) rfl ?_ | refine callGT_intro (fun hg => is_t [4, 2, 1] (by decide)) rfl (by simp [go_sem]) rfl ?_
  try (simp [go_sem]; try (refine ⟨by kernel_rfl, ?_⟩))
  first | refine callG_intro (fun hg => is_t [1, 1, 0] (by decide)) rfl (by simp [go_sem]) rfl ?_ | refine callGT_intro (fun hg => is_t [1, 1, 0] (by decide)) rfl (by simp [go_sem]) rfl ?_
  try (simp [go_sem]; try (refine ⟨by kernel_rfl, ?_⟩))
  (repeat (first | refine awp_seq ?_ | refine awp_block ?_ | ((first | refine awp_runG [0, 1, 2, 3, 4, 5, 6, 7, 8, 9, 10, 11, 12, 13, 14, 15, 16] hX ?_ | refine awp_drawnG [0, 1, 2, 3, 4, 5, 6, 7, 8, 9, 10, 11, 12, 13, 14, 15, 16] hX mixed ?_ | refine awp_ret ?_ | refine awp_skip ?_ | refine awp_exit ?_); (simp [go_sem]; try (refine ⟨by kernel_rfl, ?_⟩)))))

end Go.Proofs.Ytoiccjhjfhijpaa
