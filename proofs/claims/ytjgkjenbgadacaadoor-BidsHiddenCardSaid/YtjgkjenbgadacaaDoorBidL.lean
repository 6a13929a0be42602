/-
  Layer 24: the documentation's examples.
-/
import Derived.Test.YtjgkjenbgadacaaDoorBidJ
import Derived.Test.YtjgkjenbgadacaaDoorBidK
set_option linter.all false
namespace Go.Proofs.YtjgkjenbgadacaaDoor
open Go.RowKit Go.Ab
attribute [local irreducible] AWP Go.Ab.Sub Means MeansH CallK CallG CallT CallGT CallU

def smp (n : Int) (o : Bool) : List Bd := [⟨1, 3, 5, true⟩, ⟨2, 4, 9, true⟩, ⟨3, 5, n, o⟩]
theorem sample_m : Means true Tryd.prog 30 [] (bl (smp (-1) false)) := by
  refine means_fn true 5 [.tmp 0] Tryd.func30 rfl rfl rfl (by simp) (by decide) rfl fun X hX => ?_
  (repeat (first | refine awp_seq ?_ | refine awp_block ?_ | ((first | refine awp_runG [0] hX ?_ | refine awp_drawnG [0] hX mixed ?_ | refine awp_ret ?_ | refine awp_skip ?_ | refine awp_exit ?_); (simp [go_sem]; try (refine ⟨by kernel_rfl, ?_⟩)))))
  rfl
theorem s_w1 : winP (smp (-1) false) 20 = (1, true) := by kernel_rfl
theorem s_w2 : winP (smp 12 true) 20 = (2, true) := by kernel_rfl
theorem s_w3 : winP (smp 21 true) 20 = (1, true) := by kernel_rfl
theorem s_o1 : opn (smp (-1) false) 3 12 = (smp 12 true, 0) := by kernel_rfl
theorem s_o2 : opn (smp (-1) false) 3 21 = (smp 21 true, 0) := by kernel_rfl
theorem s_o3 : opn (smp (-1) false) 3 9 = (smp 9 true, 0) := by kernel_rfl
theorem s_o4 : opn (smp (-1) false) 3 20 = (smp 20 true, 0) := by kernel_rfl
theorem s_p1 : potS (smp (-1) false) 20 [3, 4, 5, 6] = ([3, 11, 3, 3], 0) := by kernel_rfl
theorem s_p2 : potS (smp 20 true) 20 [3, 4, 5, 6] = ([7, 7, 0, 6], 0) := by kernel_rfl
theorem s_u : put (smp (-1) false) ⟨4, 5, 1, true⟩ = ([], 5) := by kernel_rfl
theorem s_r : ranked (smp 9 true) 20 = [1, 2, 0] := by kernel_rfl
theorem s_h : hidT 7 2 9 = [98, 105, 100, 58, 55, 59, 50, 59, 57, 59] := by kernel_rfl
theorem s_k : okL (smp (-1) false) = true := by kernel_rfl

set_option maxHeartbeats 16000000 in
set_option maxRecDepth 20000 in
theorem small_m : Means true Tryd.prog 8 [] (bb true) := by
  have hl : ∀ n o, (smp n o).length ≤ 1000 := fun n o => by simp [smp]
  have c1 := sample_m
  have c2 := winner_m (smp (-1) false) 20 (hl _ _)
  have c3 := winner_m (smp 12 true) 20 (hl _ _)
  have c4 := winner_m (smp 21 true) 20 (hl _ _)
  have c5 := open_m (smp (-1) false) 3 12 (by simp [smp])
  have c6 := open_m (smp (-1) false) 3 21 (by simp [smp])
  have c7 := open_m (smp (-1) false) 3 9 (by simp [smp])
  have c8 := open_m (smp (-1) false) 3 20 (by simp [smp])
  have c9 := shares_m (smp (-1) false) 20 [3, 4, 5, 6] (hl _ _) (by simp)
  have c10 := shares_m (smp 20 true) 20 [3, 4, 5, 6] (hl _ _) (by simp)
  have c11 := put_m (smp (-1) false) ⟨4, 5, 1, true⟩ (by simp [smp])
  have c12 := ranked_m (smp 9 true) 20 (hl _ _)
  have c13 := hidden_m 7 2 9 (by omega) (by omega) (by omega)
  have c14 := rightL_m (smp (-1) false) (by simp [smp])
  have i1 := ints_t [1, 2, 0] (by simp)
  have i2 := ints_t [3, 11, 3, 3] (by simp)
  have i3 := ints_t [7, 7, 0, 6] (by simp)
  rw [s_w1] at c2; rw [s_w2] at c3; rw [s_w3] at c4; rw [s_o1] at c5; rw [s_o2] at c6; rw [s_o3] at c7; rw [s_o4] at c8; rw [s_p1] at c9; rw [s_p2] at c10; rw [s_u] at c11; rw [s_r] at c12; rw [s_h] at c13; rw [s_k] at c14
  generalize smp (-1) false = S0 at *
  generalize smp 12 true = S1 at *
  generalize smp 21 true = S2 at *
  generalize smp 9 true = S3 at *
  generalize smp 20 true = S4 at *
  refine means_fn true 153 [.tmp 0] Tryd.func8 rfl rfl rfl (by simp) (by decide) rfl fun X hX => ?_
  (repeat (first | refine awp_seq ?_ | refine awp_block ?_ | ((first | refine awp_runG [0, 1, 2, 3, 4, 5, 6, 7, 8, 9, 10, 11, 12, 13, 14, 15, 16, 17, 18, 19, 20, 22, 23, 24] hX ?_ | refine awp_drawnG [0, 1, 2, 3, 4, 5, 6, 7, 8, 9, 10, 11, 12, 13, 14, 15, 16, 17, 18, 19, 20, 22, 23, 24] hX mixed ?_ | refine awp_ret ?_ | refine awp_skip ?_ | refine awp_exit ?_); (simp [go_sem]; try (refine ⟨by kernel_rfl, ?_⟩)))))
  first | refine callK_intro (c1) rfl (by simp [go_sem]) rfl ?_ | refine callT_intro (c1) rfl (by simp [go_sem]) rfl ?_
  try (simp [go_sem]; try (refine ⟨by kernel_rfl, ?_⟩))
  (repeat (first | refine awp_seq ?_ | refine awp_block ?_ | ((first | refine awp_runG [0, 1, 2, 3, 4, 5, 6, 7, 8, 9, 10, 11, 12, 13, 14, 15, 16, 17, 18, 19, 20, 22, 23, 24] hX ?_ | refine awp_drawnG [0, 1, 2, 3, 4, 5, 6, 7, 8, 9, 10, 11, 12, 13, 14, 15, 16, 17, 18, 19, 20, 22, 23, 24] hX mixed ?_ | refine awp_ret ?_ | refine awp_skip ?_ | refine awp_exit ?_); (simp [go_sem]; try (refine ⟨by kernel_rfl, ?_⟩)))))
  first | refine callK_intro (c2) rfl (by simp [go_sem]) rfl ?_ | refine callT_intro (c2) rfl (by simp [go_sem]) rfl ?_
  try (simp [go_sem]; try (refine ⟨by kernel_rfl, ?_⟩))
  (repeat (first | refine awp_seq ?_ | refine awp_block ?_ | ((first | refine awp_runG [0, 1, 2, 3, 4, 5, 6, 7, 8, 9, 10, 11, 12, 13, 14, 15, 16, 17, 18, 19, 20, 22, 23, 24] hX ?_ | refine awp_drawnG [0, 1, 2, 3, 4, 5, 6, 7, 8, 9, 10, 11, 12, 13, 14, 15, 16, 17, 18, 19, 20, 22, 23, 24] hX mixed ?_ | refine awp_ret ?_ | refine awp_skip ?_ | refine awp_exit ?_); (simp [go_sem]; try (refine ⟨by kernel_rfl, ?_⟩)))))
  first | refine callK_intro (c5) rfl (by simp [go_sem]) rfl ?_ | refine callT_intro (c5) rfl (by simp [go_sem]) rfl ?_
  try (simp [go_sem]; try (refine ⟨by kernel_rfl, ?_⟩))
  (repeat (first | refine awp_seq ?_ | refine awp_block ?_ | ((first | refine awp_runG [0, 1, 2, 3, 4, 5, 6, 7, 8, 9, 10, 11, 12, 13, 14, 15, 16, 17, 18, 19, 20, 22, 23, 24] hX ?_ | refine awp_drawnG [0, 1, 2, 3, 4, 5, 6, 7, 8, 9, 10, 11, 12, 13, 14, 15, 16, 17, 18, 19, 20, 22, 23, 24] hX mixed ?_ | refine awp_ret ?_ | refine awp_skip ?_ | refine awp_exit ?_); (simp [go_sem]; try (refine ⟨by kernel_rfl, ?_⟩)))))
  first | refine callK_intro (c6) rfl (by simp [go_sem]) rfl ?_ | refine callT_intro (c6) rfl (by simp [go_sem]) rfl ?_
  try (simp [go_sem]; try (refine ⟨by kernel_rfl, ?_⟩))
  (repeat (first | refine awp_seq ?_ | refine awp_block ?_ | ((first | refine awp_runG [0, 1, 2, 3, 4, 5, 6, 7, 8, 9, 10, 11, 12, 13, 14, 15, 16, 17, 18, 19, 20, 22, 23, 24] hX ?_ | refine awp_drawnG [0, 1, 2, 3, 4, 5, 6, 7, 8, 9, 10, 11, 12, 13, 14, 15, 16, 17, 18, 19, 20, 22, 23, 24] hX mixed ?_ | refine awp_ret ?_ | refine awp_skip ?_ | refine awp_exit ?_); (simp [go_sem]; try (refine ⟨by kernel_rfl, ?_⟩)))))
  first | refine callK_intro (c7) rfl (by simp [go_sem]) rfl ?_ | refine callT_intro (c7) rfl (by simp [go_sem]) rfl ?_
  try (simp [go_sem]; try (refine ⟨by kernel_rfl, ?_⟩))
  (repeat (first | refine awp_seq ?_ | refine awp_block ?_ | ((first | refine awp_runG [0, 1, 2, 3, 4, 5, 6, 7, 8, 9, 10, 11, 12, 13, 14, 15, 16, 17, 18, 19, 20, 22, 23, 24] hX ?_ | refine awp_drawnG [0, 1, 2, 3, 4, 5, 6, 7, 8, 9, 10, 11, 12, 13, 14, 15, 16, 17, 18, 19, 20, 22, 23, 24] hX mixed ?_ | refine awp_ret ?_ | refine awp_skip ?_ | refine awp_exit ?_); (simp [go_sem]; try (refine ⟨by kernel_rfl, ?_⟩)))))
  first | refine callK_intro (c8) rfl (by simp [go_sem]) rfl ?_ | refine callT_intro (c8) rfl (by simp [go_sem]) rfl ?_
  try (simp [go_sem]; try (refine ⟨by kernel_rfl, ?_⟩))
  (repeat (first | refine awp_seq ?_ | refine awp_block ?_ | ((first | refine awp_runG [0, 1, 2, 3, 4, 5, 6, 7, 8, 9, 10, 11, 12, 13, 14, 15, 16, 17, 18, 19, 20, 22, 23, 24] hX ?_ | refine awp_drawnG [0, 1, 2, 3, 4, 5, 6, 7, 8, 9, 10, 11, 12, 13, 14, 15, 16, 17, 18, 19, 20, 22, 23, 24] hX mixed ?_ | refine awp_ret ?_ | refine awp_skip ?_ | refine awp_exit ?_); (simp [go_sem]; try (refine ⟨by kernel_rfl, ?_⟩)))))
  first | refine callK_intro (c3) rfl (by simp [go_sem]) rfl ?_ | refine callT_intro (c3) rfl (by simp [go_sem]) rfl ?_
  try (simp [go_sem]; try (refine ⟨by kernel_rfl, ?_⟩))
  (repeat (first | refine awp_seq ?_ | refine awp_block ?_ | ((first | refine awp_runG [0, 1, 2, 3, 4, 5, 6, 7, 8, 9, 10, 11, 12, 13, 14, 15, 16, 17, 18, 19, 20, 22, 23, 24] hX ?_ | refine awp_drawnG [0, 1, 2, 3, 4, 5, 6, 7, 8, 9, 10, 11, 12, 13, 14, 15, 16, 17, 18, 19, 20, 22, 23, 24] hX mixed ?_ | refine awp_ret ?_ | refine awp_skip ?_ | refine awp_exit ?_); (simp [go_sem]; try (refine ⟨by kernel_rfl, ?_⟩)))))
  first | refine callK_intro (c4) rfl (by simp [go_sem]) rfl ?_ | refine callT_intro (c4) rfl (by simp [go_sem]) rfl ?_
  try (simp [go_sem]; try (refine ⟨by kernel_rfl, ?_⟩))
  (repeat (first | refine awp_seq ?_ | refine awp_block ?_ | ((first | refine awp_runG [0, 1, 2, 3, 4, 5, 6, 7, 8, 9, 10, 11, 12, 13, 14, 15, 16, 17, 18, 19, 20, 22, 23, 24] hX ?_ | refine awp_drawnG [0, 1, 2, 3, 4, 5, 6, 7, 8, 9, 10, 11, 12, 13, 14, 15, 16, 17, 18, 19, 20, 22, 23, 24] hX mixed ?_ | refine awp_ret ?_ | refine awp_skip ?_ | refine awp_exit ?_); (simp [go_sem]; try (refine ⟨by kernel_rfl, ?_⟩)))))
  first | refine callK_intro (c9) rfl (by simp [go_sem]) rfl ?_ | refine callT_intro (c9) rfl (by simp [go_sem]) rfl ?_
  try (simp [go_sem]; try (refine ⟨by kernel_rfl, ?_⟩))
  (repeat (first | refine awp_seq ?_ | refine awp_block ?_ | ((first | refine awp_runG [0, 1, 2, 3, 4, 5, 6, 7, 8, 9, 10, 11, 12, 13, 14, 15, 16, 17, 18, 19, 20, 22, 23, 24] hX ?_ | refine awp_drawnG [0, 1, 2, 3, 4, 5, 6, 7, 8, 9, 10, 11, 12, 13, 14, 15, 16, 17, 18, 19, 20, 22, 23, 24] hX mixed ?_ | refine awp_ret ?_ | refine awp_skip ?_ | refine awp_exit ?_); (simp [go_sem]; try (refine ⟨by kernel_rfl, ?_⟩)))))
  first | refine callK_intro (c10) rfl (by simp [go_sem]) rfl ?_ | refine callT_intro (c10) rfl (by simp [go_sem]) rfl ?_
  try (simp [go_sem]; try (refine ⟨by kernel_rfl, ?_⟩))
  (repeat (first | refine awp_seq ?_ | refine awp_block ?_ | ((first | refine awp_runG [0, 1, 2, 3, 4, 5, 6, 7, 8, 9, 10, 11, 12, 13, 14, 15, 16, 17, 18, 19, 20, 22, 23, 24] hX ?_ | refine awp_drawnG [0, 1, 2, 3, 4, 5, 6, 7, 8, 9, 10, 11, 12, 13, 14, 15, 16, 17, 18, 19, 20, 22, 23, 24] hX mixed ?_ | refine awp_ret ?_ | refine awp_skip ?_ | refine awp_exit ?_); (simp [go_sem]; try (refine ⟨by kernel_rfl, ?_⟩)))))
  first | refine callK_intro (c11) rfl (by simp [go_sem]) rfl ?_ | refine callT_intro (c11) rfl (by simp [go_sem]) rfl ?_
  try (simp [go_sem]; try (refine ⟨by kernel_rfl, ?_⟩))
  (repeat (first | refine awp_seq ?_ | refine awp_block ?_ | ((first | refine awp_runG [0, 1, 2, 3, 4, 5, 6, 7, 8, 9, 10, 11, 12, 13, 14, 15, 16, 17, 18, 19, 20, 22, 23, 24] hX ?_ | refine awp_drawnG [0, 1, 2, 3, 4, 5, 6, 7, 8, 9, 10, 11, 12, 13, 14, 15, 16, 17, 18, 19, 20, 22, 23, 24] hX mixed ?_ | refine awp_ret ?_ | refine awp_skip ?_ | refine awp_exit ?_); (simp [go_sem]; try (refine ⟨by kernel_rfl, ?_⟩)))))
  first | refine callG_intro (fun hg => c12) rfl (by simp [go_sem]) rfl ?_ | refine callGT_intro (fun hg => c12) rfl (by simp [go_sem]) rfl ?_
  try (simp [go_sem]; try (refine ⟨by kernel_rfl, ?_⟩))
  first | refine callG_intro (fun hg => i1) rfl (by simp [go_sem]) rfl ?_ | refine callGT_intro (fun hg => i1) rfl (by simp [go_sem]) rfl ?_
  try (simp [go_sem]; try (refine ⟨by kernel_rfl, ?_⟩))
  (repeat (first | refine awp_seq ?_ | refine awp_block ?_ | ((first | refine awp_runG [0, 1, 2, 3, 4, 5, 6, 7, 8, 9, 10, 11, 12, 13, 14, 15, 16, 17, 18, 19, 20, 22, 23, 24] hX ?_ | refine awp_drawnG [0, 1, 2, 3, 4, 5, 6, 7, 8, 9, 10, 11, 12, 13, 14, 15, 16, 17, 18, 19, 20, 22, 23, 24] hX mixed ?_ | refine awp_ret ?_ | refine awp_skip ?_ | refine awp_exit ?_); (simp [go_sem]; try (refine ⟨by kernel_rfl, ?_⟩)))))
  first | refine callG_intro (fun hg => c13) rfl (by simp [go_sem]) rfl ?_ | refine callGT_intro (fun hg => c13) rfl (by simp [go_sem]) rfl ?_
  have hbe : ((⟨#[98, 105, 100, 58, 55, 59, 50, 59, 57, 59]⟩ : ByteArray) == ⟨#[98, 105, 100, 58, 55, 59, 50, 59, 57, 59]⟩) = true := by decide
  try (simp [go_sem, hbe]; try (refine ⟨by kernel_rfl, ?_⟩))
  first | refine callG_intro (fun hg => i2) rfl (by simp [go_sem]) rfl ?_ | refine callGT_intro (fun hg => i2) rfl (by simp [go_sem]) rfl ?_
  try (simp [go_sem]; try (refine ⟨by kernel_rfl, ?_⟩))
  first | refine callG_intro (fun hg => i3) rfl (by simp [go_sem]) rfl ?_ | refine callGT_intro (fun hg => i3) rfl (by simp [go_sem]) rfl ?_
  try (simp [go_sem]; try (refine ⟨by kernel_rfl, ?_⟩))
  first | refine callG_intro (fun hg => c14) rfl (by simp [go_sem]) rfl ?_ | refine callGT_intro (fun hg => c14) rfl (by simp [go_sem]) rfl ?_
  try (simp [go_sem]; try (refine ⟨by kernel_rfl, ?_⟩))
  (repeat (first | refine awp_seq ?_ | refine awp_block ?_ | ((first | refine awp_runG [0, 1, 2, 3, 4, 5, 6, 7, 8, 9, 10, 11, 12, 13, 14, 15, 16, 17, 18, 19, 20, 22, 23, 24] hX ?_ | refine awp_drawnG [0, 1, 2, 3, 4, 5, 6, 7, 8, 9, 10, 11, 12, 13, 14, 15, 16, 17, 18, 19, 20, 22, 23, 24] hX mixed ?_ | refine awp_ret ?_ | refine awp_skip ?_ | refine awp_exit ?_); (simp [go_sem]; try (refine ⟨by kernel_rfl, ?_⟩)))))

end Go.Proofs.YtjgkjenbgadacaaDoor
