/-
  Layer 14: the small examples.
-/
import Derived.Test.YtgkafceckdoabaaDoorLexH
set_option linter.all false
namespace Go.Proofs.YtgkafceckdoabaaDoor
open Go.RowKit Go.Ab
attribute [local irreducible] AWP Go.Ab.Sub Means MeansH CallK CallG CallT CallGT

theorem lx1 : lexAV [120, 32, 61, 61, 32, 49, 50, 97] = .tup [.sl ([⟨1, [120], 0, 0⟩, ⟨3, [61, 61], 0, 2⟩, ⟨2, [49, 50], 12, 5⟩, ⟨1, [97], 0, 7⟩, ⟨0, [], 0, 8⟩].map tk), ii 0, ii 0] :=
  lexAV_ok (by decide) (by decide +kernel)
theorem lx2 : lexAV [97, 49, 61, 61, 48, 48, 55] = .tup [.sl [], ii 4, ii 3] := lexAV_err (i := 4) (by decide) (by decide +kernel)
theorem lx3 : lexAV [97, 32, 58] = .tup [.sl [], ii 2, ii 11] := lexAV_err (i := 2) (by decide) (by decide +kernel)
theorem lx4 : lexAV [97, 61, 98, 32, 59] = .tup [.sl ([⟨1, [97], 0, 0⟩, ⟨3, [61], 0, 1⟩, ⟨1, [98], 0, 2⟩, ⟨3, [59], 0, 4⟩, ⟨0, [], 0, 5⟩].map tk), ii 0, ii 0] :=
  lexAV_ok (by decide) (by decide +kernel)
theorem nu1 : numAV [49, 50] = .tup [ii 12, bb true] := by
  unfold numAV; rw [show isNum [49, 50] = true by decide +kernel, show numVal [49, 50] = 12 by decide +kernel]; rfl
theorem nu2 : numAV [48, 49, 50] = .tup [ii 0, bb false] := by
  unfold numAV; rw [show isNum [48, 49, 50] = false by decide +kernel]; rfl
theorem tx1 : textOf [⟨1, [97], 0, 0⟩, ⟨3, [61], 0, 1⟩, ⟨1, [98], 0, 2⟩, ⟨3, [59], 0, 4⟩, ⟨0, [], 0, 5⟩] = [97, 32, 61, 32, 98, 32, 59] := by decide +kernel
theorem wo1 : isWord [97, 49] = true := by decide +kernel
theorem wo2 : isWord [49, 97] = false := by decide +kernel

abbrev wantL : List Tk := [⟨1, [120], 0, 0⟩, ⟨3, [61, 61], 0, 2⟩, ⟨2, [49, 50], 12, 5⟩, ⟨1, [97], 0, 7⟩, ⟨0, [], 0, 8⟩]
set_option maxHeartbeats 4000000 in
set_option maxRecDepth 20000 in
theorem small_m : Means true Tryd.prog 9 [] (bb true) := by
  have h1 := lex_m [120, 32, 61, 61, 32, 49, 50, 97]
  have h2 := lex_m [97, 49, 61, 61, 48, 48, 55]
  have h3 := lex_m [97, 32, 58]
  have h4 := lex_m [97, 61, 98, 32, 59]
  have h5 := number_m [49, 50] (by decide)
  have h6 := number_m [48, 49, 50] (by decide)
  have h7 := same_m wantL wantL (by decide)
  have h8 := text_m [⟨1, [97], 0, 0⟩, ⟨3, [61], 0, 1⟩, ⟨1, [98], 0, 2⟩, ⟨3, [59], 0, 4⟩, ⟨0, [], 0, 5⟩] (by decide) (by decide +kernel)
  have h9 := word_m [97, 49] (by decide)
  have h10 := word_m [49, 97] (by decide)
  rw [lx1] at h1
  rw [lx2] at h2
  rw [lx3] at h3
  rw [lx4] at h4
  rw [nu1] at h5
  rw [nu2] at h6
  rw [tx1] at h8
  rw [wo1] at h9
  rw [wo2] at h10
  rw [decide_eq_true rfl] at h7
  refine means_fn true 104 [.tmp 0] Tryd.func9 rfl rfl rfl (by simp) (by decide) rfl fun X hX => ?_
  (repeat (first | refine awp_seq ?_ | refine awp_block ?_ | (refine awp_runG [0, 1, 3, 5, 6, 8, 9, 10, 12, 13, 14, 15, 17, 18] hX ?_; (simp [go_sem]; try (refine ⟨by kernel_rfl, ?_⟩))) | (refine awp_drawnG [0, 1, 3, 5, 6, 8, 9, 10, 12, 13, 14, 15, 17, 18] hX mixed ?_; (simp [go_sem]; try (refine ⟨by kernel_rfl, ?_⟩))) | (refine awp_ret ?_; (simp [go_sem]; try (refine ⟨by kernel_rfl, ?_⟩))) | (refine awp_skip ?_; (simp [go_sem]; try (refine ⟨by kernel_rfl, ?_⟩))) | (refine awp_exit ?_; (simp [go_sem]; try (refine ⟨by kernel_rfl, ?_⟩)))))
  first | refine callK_intro (h1) rfl (by simp [go_sem]) rfl ?_ | refine callT_intro (h1) rfl (by simp [go_sem]) rfl ?_
  try (simp [go_sem]; try (refine ⟨by kernel_rfl, ?_⟩))
  (repeat (first | refine awp_seq ?_ | refine awp_block ?_ | (refine awp_runG [0, 1, 3, 5, 6, 8, 9, 10, 12, 13, 14, 15, 17, 18] hX ?_; (simp [go_sem]; try (refine ⟨by kernel_rfl, ?_⟩))) | (refine awp_drawnG [0, 1, 3, 5, 6, 8, 9, 10, 12, 13, 14, 15, 17, 18] hX mixed ?_; (simp [go_sem]; try (refine ⟨by kernel_rfl, ?_⟩))) | (refine awp_ret ?_; (simp [go_sem]; try (refine ⟨by kernel_rfl, ?_⟩))) | (refine awp_skip ?_; (simp [go_sem]; try (refine ⟨by kernel_rfl, ?_⟩))) | (refine awp_exit ?_; (simp [go_sem]; try (refine ⟨by kernel_rfl, ?_⟩)))))
  first | refine callK_intro (h2) rfl (by simp [go_sem]) rfl ?_ | refine callT_intro (h2) rfl (by simp [go_sem]) rfl ?_
  try (simp [go_sem]; try (refine ⟨by kernel_rfl, ?_⟩))
  (repeat (first | refine awp_seq ?_ | refine awp_block ?_ | (refine awp_runG [0, 1, 3, 5, 6, 8, 9, 10, 12, 13, 14, 15, 17, 18] hX ?_; (simp [go_sem]; try (refine ⟨by kernel_rfl, ?_⟩))) | (refine awp_drawnG [0, 1, 3, 5, 6, 8, 9, 10, 12, 13, 14, 15, 17, 18] hX mixed ?_; (simp [go_sem]; try (refine ⟨by kernel_rfl, ?_⟩))) | (refine awp_ret ?_; (simp [go_sem]; try (refine ⟨by kernel_rfl, ?_⟩))) | (refine awp_skip ?_; (simp [go_sem]; try (refine ⟨by kernel_rfl, ?_⟩))) | (refine awp_exit ?_; (simp [go_sem]; try (refine ⟨by kernel_rfl, ?_⟩)))))
  first | refine callK_intro (h3) rfl (by simp [go_sem]) rfl ?_ | refine callT_intro (h3) rfl (by simp [go_sem]) rfl ?_
  try (simp [go_sem]; try (refine ⟨by kernel_rfl, ?_⟩))
  (repeat (first | refine awp_seq ?_ | refine awp_block ?_ | (refine awp_runG [0, 1, 3, 5, 6, 8, 9, 10, 12, 13, 14, 15, 17, 18] hX ?_; (simp [go_sem]; try (refine ⟨by kernel_rfl, ?_⟩))) | (refine awp_drawnG [0, 1, 3, 5, 6, 8, 9, 10, 12, 13, 14, 15, 17, 18] hX mixed ?_; (simp [go_sem]; try (refine ⟨by kernel_rfl, ?_⟩))) | (refine awp_ret ?_; (simp [go_sem]; try (refine ⟨by kernel_rfl, ?_⟩))) | (refine awp_skip ?_; (simp [go_sem]; try (refine ⟨by kernel_rfl, ?_⟩))) | (refine awp_exit ?_; (simp [go_sem]; try (refine ⟨by kernel_rfl, ?_⟩)))))
  first | refine callK_intro (h4) rfl (by simp [go_sem]) rfl ?_ | refine callT_intro (h4) rfl (by simp [go_sem]) rfl ?_
  try (simp [go_sem]; try (refine ⟨by kernel_rfl, ?_⟩))
  (repeat (first | refine awp_seq ?_ | refine awp_block ?_ | (refine awp_runG [0, 1, 3, 5, 6, 8, 9, 10, 12, 13, 14, 15, 17, 18] hX ?_; (simp [go_sem]; try (refine ⟨by kernel_rfl, ?_⟩))) | (refine awp_drawnG [0, 1, 3, 5, 6, 8, 9, 10, 12, 13, 14, 15, 17, 18] hX mixed ?_; (simp [go_sem]; try (refine ⟨by kernel_rfl, ?_⟩))) | (refine awp_ret ?_; (simp [go_sem]; try (refine ⟨by kernel_rfl, ?_⟩))) | (refine awp_skip ?_; (simp [go_sem]; try (refine ⟨by kernel_rfl, ?_⟩))) | (refine awp_exit ?_; (simp [go_sem]; try (refine ⟨by kernel_rfl, ?_⟩)))))
  first | refine callK_intro (h5) rfl (by simp [go_sem]) rfl ?_ | refine callT_intro (h5) rfl (by simp [go_sem]) rfl ?_
  try (simp [go_sem]; try (refine ⟨by kernel_rfl, ?_⟩))
  (repeat (first | refine awp_seq ?_ | refine awp_block ?_ | (refine awp_runG [0, 1, 3, 5, 6, 8, 9, 10, 12, 13, 14, 15, 17, 18] hX ?_; (simp [go_sem]; try (refine ⟨by kernel_rfl, ?_⟩))) | (refine awp_drawnG [0, 1, 3, 5, 6, 8, 9, 10, 12, 13, 14, 15, 17, 18] hX mixed ?_; (simp [go_sem]; try (refine ⟨by kernel_rfl, ?_⟩))) | (refine awp_ret ?_; (simp [go_sem]; try (refine ⟨by kernel_rfl, ?_⟩))) | (refine awp_skip ?_; (simp [go_sem]; try (refine ⟨by kernel_rfl, ?_⟩))) | (refine awp_exit ?_; (simp [go_sem]; try (refine ⟨by kernel_rfl, ?_⟩)))))
  first | refine callK_intro (h6) rfl (by simp [go_sem]) rfl ?_ | refine callT_intro (h6) rfl (by simp [go_sem]) rfl ?_
  try (simp [go_sem]; try (refine ⟨by kernel_rfl, ?_⟩))
  (repeat (first | refine awp_seq ?_ | refine awp_block ?_ | (refine awp_runG [0, 1, 3, 5, 6, 8, 9, 10, 12, 13, 14, 15, 17, 18] hX ?_; (simp [go_sem]; try (refine ⟨by kernel_rfl, ?_⟩))) | (refine awp_drawnG [0, 1, 3, 5, 6, 8, 9, 10, 12, 13, 14, 15, 17, 18] hX mixed ?_; (simp [go_sem]; try (refine ⟨by kernel_rfl, ?_⟩))) | (refine awp_ret ?_; (simp [go_sem]; try (refine ⟨by kernel_rfl, ?_⟩))) | (refine awp_skip ?_; (simp [go_sem]; try (refine ⟨by kernel_rfl, ?_⟩))) | (refine awp_exit ?_; (simp [go_sem]; try (refine ⟨by kernel_rfl, ?_⟩)))))
  first | refine callK_intro (h7) rfl (by simp [go_sem]) rfl ?_ | refine callT_intro (h7) rfl (by simp [go_sem]) rfl ?_
  try (simp [go_sem]; try (refine ⟨by kernel_rfl, ?_⟩))
  (repeat (first | refine awp_seq ?_ | refine awp_block ?_ | (refine awp_runG [0, 1, 3, 5, 6, 8, 9, 10, 12, 13, 14, 15, 17, 18] hX ?_; (simp [go_sem]; try (refine ⟨by kernel_rfl, ?_⟩))) | (refine awp_drawnG [0, 1, 3, 5, 6, 8, 9, 10, 12, 13, 14, 15, 17, 18] hX mixed ?_; (simp [go_sem]; try (refine ⟨by kernel_rfl, ?_⟩))) | (refine awp_ret ?_; (simp [go_sem]; try (refine ⟨by kernel_rfl, ?_⟩))) | (refine awp_skip ?_; (simp [go_sem]; try (refine ⟨by kernel_rfl, ?_⟩))) | (refine awp_exit ?_; (simp [go_sem]; try (refine ⟨by kernel_rfl, ?_⟩)))))
  first | refine callG_intro (fun hg => h8) rfl (by simp [go_sem]) rfl ?_ | refine callGT_intro (fun hg => h8) rfl (by simp [go_sem]) rfl ?_
  try (simp [go_sem]; try (refine ⟨by kernel_rfl, ?_⟩))
  (repeat (first | refine awp_seq ?_ | refine awp_block ?_ | (refine awp_runG [0, 1, 3, 5, 6, 8, 9, 10, 12, 13, 14, 15, 17, 18] hX ?_; (simp [go_sem]; try (refine ⟨by kernel_rfl, ?_⟩))) | (refine awp_drawnG [0, 1, 3, 5, 6, 8, 9, 10, 12, 13, 14, 15, 17, 18] hX mixed ?_; (simp [go_sem]; try (refine ⟨by kernel_rfl, ?_⟩))) | (refine awp_ret ?_; (simp [go_sem]; try (refine ⟨by kernel_rfl, ?_⟩))) | (refine awp_skip ?_; (simp [go_sem]; try (refine ⟨by kernel_rfl, ?_⟩))) | (refine awp_exit ?_; (simp [go_sem]; try (refine ⟨by kernel_rfl, ?_⟩)))))
  first | refine callG_intro (fun hg => h9) rfl (by simp [go_sem]) rfl ?_ | refine callGT_intro (fun hg => h9) rfl (by simp [go_sem]) rfl ?_
  try (simp [go_sem]; try (refine ⟨by kernel_rfl, ?_⟩))
  (repeat (first | refine awp_seq ?_ | refine awp_block ?_ | (refine awp_runG [0, 1, 3, 5, 6, 8, 9, 10, 12, 13, 14, 15, 17, 18] hX ?_; (simp [go_sem]; try (refine ⟨by kernel_rfl, ?_⟩))) | (refine awp_drawnG [0, 1, 3, 5, 6, 8, 9, 10, 12, 13, 14, 15, 17, 18] hX mixed ?_; (simp [go_sem]; try (refine ⟨by kernel_rfl, ?_⟩))) | (refine awp_ret ?_; (simp [go_sem]; try (refine ⟨by kernel_rfl, ?_⟩))) | (refine awp_skip ?_; (simp [go_sem]; try (refine ⟨by kernel_rfl, ?_⟩))) | (refine awp_exit ?_; (simp [go_sem]; try (refine ⟨by kernel_rfl, ?_⟩)))))
  first | refine callG_intro (fun hg => h10) rfl (by simp [go_sem]) rfl ?_ | refine callGT_intro (fun hg => h10) rfl (by simp [go_sem]) rfl ?_
  try (simp [go_sem]; try (refine ⟨by kernel_rfl, ?_⟩))
  (repeat (first | refine awp_seq ?_ | refine awp_block ?_ | (refine awp_runG [0, 1, 3, 5, 6, 8, 9, 10, 12, 13, 14, 15, 17, 18] hX ?_; (simp [go_sem]; try (refine ⟨by kernel_rfl, ?_⟩))) | (refine awp_drawnG [0, 1, 3, 5, 6, 8, 9, 10, 12, 13, 14, 15, 17, 18] hX mixed ?_; (simp [go_sem]; try (refine ⟨by kernel_rfl, ?_⟩))) | (refine awp_ret ?_; (simp [go_sem]; try (refine ⟨by kernel_rfl, ?_⟩))) | (refine awp_skip ?_; (simp [go_sem]; try (refine ⟨by kernel_rfl, ?_⟩))) | (refine awp_exit ?_; (simp [go_sem]; try (refine ⟨by kernel_rfl, ?_⟩)))))

end Go.Proofs.YtgkafceckdoabaaDoor
