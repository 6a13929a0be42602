/-
  The small examples of layer 31.
-/
import Derived.Test.YtgccheogieddnaaVoteC
set_option linter.all false
namespace Go.Proofs.Ytgccheogieddnaa
open Go.RowKit Go.Ab
attribute [local irreducible] AWP Go.Ab.Sub Means CallK CallG

theorem n_3_600 : Means true Try.prog 9 [ii 3, ii 600] (.tup [ii 2, ii 0]) := needed_m 3 600
theorem n_3_0 : Means true Try.prog 9 [ii 3, ii 0] (.tup [ii 1, ii 0]) := needed_m 3 0
theorem n_60_1000 : Means true Try.prog 9 [ii 60, ii 1000] (.tup [ii 60, ii 0]) := needed_m 60 1000
theorem n_0_600 : Means true Try.prog 9 [ii 0, ii 600] (.tup [ii 0, ii 1]) := needed_m 0 600
def sm : List V := [⟨0, 3, true, 5⟩, ⟨0, 7, true, 5⟩, ⟨0, 3, false, 6⟩, ⟨0, 4, true, 10⟩, ⟨0, 5, false, 7⟩]
def sm2 : List V := [⟨0, 3, true, 5⟩, ⟨0, 7, true, 5⟩, ⟨0, 3, false, 6⟩, ⟨0, 4, true, 10⟩, ⟨0, 5, false, 7⟩, ⟨0, 4, true, 9⟩]
abbrev sM : AV := .sl [ii 3, ii 4, ii 5]
theorem c_sm : Means true Try.prog 16 [sM, .sl (sm.map vo), ii 9] (.sl [vo ⟨0, 3, true, 5⟩, vo ⟨0, 5, false, 7⟩]) := by
  have h := counted_m [3, 4, 5] (by decide) sm (by decide) 9
  rw [show counted [3, 4, 5] sm 9 = [⟨0, 3, true, 5⟩, ⟨0, 5, false, 7⟩] by decide] at h
  exact h
theorem t_1 : Means true Try.prog 11 [sM, .sl (sm.map vo), ii 600, ii 9, ii 9] (.tup [ii 0, ii 0]) := by
  have h := tally_m [3, 4, 5] (by decide) sm (by decide) 600 9 9
  rw [show tally [3, 4, 5] sm 600 9 9 = 0 by decide, show tErr [3, 4, 5] 600 = 0 by decide] at h
  exact h
theorem t_2 : Means true Try.prog 11 [sM, .sl (sm.map vo), ii 600, ii 9, ii 10] (.tup [ii 2, ii 0]) := by
  have h := tally_m [3, 4, 5] (by decide) sm (by decide) 600 9 10
  rw [show tally [3, 4, 5] sm 600 9 10 = 2 by decide, show tErr [3, 4, 5] 600 = 0 by decide] at h
  exact h
theorem t_3 : Means true Try.prog 11 [sM, .sl (sm2.map vo), ii 600, ii 9, ii 8] (.tup [ii 1, ii 0]) := by
  have h := tally_m [3, 4, 5] (by decide) sm2 (by decide) 600 9 8
  rw [show tally [3, 4, 5] sm2 600 9 8 = 1 by decide, show tErr [3, 4, 5] 600 = 0 by decide] at h
  exact h
theorem d_1 : Means true Try.prog 13 [sM, .sl (sm2.map vo), ii 600, ii 9] (.tup [ii 5, bb true]) := by
  have h := decides_m [3, 4, 5] (by decide) sm2 (by decide) 600 9
  rw [show decI [3, 4, 5] sm2 600 9 = 5 by decide, show decB [3, 4, 5] sm2 600 9 = true by decide] at h
  exact h

set_option maxHeartbeats 2000000 in
set_option maxRecDepth 20000 in
theorem small_m : Means true Try.prog 8 [] (bb true) := by
  refine means_fn true 159 [.tmp 0] Try.func8 rfl rfl rfl (by simp) rfl fun X hX => ?_
  (repeat (first | refine awp_seq ?_ | refine awp_block ?_ | (refine awp_runG [0, 1, 2, 3, 4, 5, 6, 7, 8, 9, 10, 11, 12, 13, 14, 15, 16, 17, 18, 20, 21] hX ?_; simp [go_sem, maxLen]) | (refine awp_drawnG [0, 1, 2, 3, 4, 5, 6, 7, 8, 9, 10, 11, 12, 13, 14, 15, 16, 17, 18, 20, 21] hX mixed (by kernel_rfl) ?_; simp [go_sem, maxLen]) | (refine awp_ret ?_; simp [go_sem, maxLen]) | (refine awp_skip ?_; simp [go_sem, maxLen]) | (refine awp_exit ?_; simp [go_sem, maxLen])))
  refine callK_intro (voice_m 3 true 5) rfl (by simp [go_sem]) ?_
  try simp [go_sem, maxLen]
  try (repeat (first | refine awp_seq ?_ | refine awp_block ?_ | (refine awp_runG [0, 1, 2, 3, 4, 5, 6, 7, 8, 9, 10, 11, 12, 13, 14, 15, 16, 17, 18, 20, 21] hX ?_; simp [go_sem, maxLen]) | (refine awp_drawnG [0, 1, 2, 3, 4, 5, 6, 7, 8, 9, 10, 11, 12, 13, 14, 15, 16, 17, 18, 20, 21] hX mixed (by kernel_rfl) ?_; simp [go_sem, maxLen]) | (refine awp_ret ?_; simp [go_sem, maxLen]) | (refine awp_skip ?_; simp [go_sem, maxLen]) | (refine awp_exit ?_; simp [go_sem, maxLen])))
  refine callK_intro (voice_m 7 true 5) rfl (by simp [go_sem]) ?_
  try simp [go_sem, maxLen]
  try (repeat (first | refine awp_seq ?_ | refine awp_block ?_ | (refine awp_runG [0, 1, 2, 3, 4, 5, 6, 7, 8, 9, 10, 11, 12, 13, 14, 15, 16, 17, 18, 20, 21] hX ?_; simp [go_sem, maxLen]) | (refine awp_drawnG [0, 1, 2, 3, 4, 5, 6, 7, 8, 9, 10, 11, 12, 13, 14, 15, 16, 17, 18, 20, 21] hX mixed (by kernel_rfl) ?_; simp [go_sem, maxLen]) | (refine awp_ret ?_; simp [go_sem, maxLen]) | (refine awp_skip ?_; simp [go_sem, maxLen]) | (refine awp_exit ?_; simp [go_sem, maxLen])))
  refine callK_intro (voice_m 3 false 6) rfl (by simp [go_sem]) ?_
  try simp [go_sem, maxLen]
  try (repeat (first | refine awp_seq ?_ | refine awp_block ?_ | (refine awp_runG [0, 1, 2, 3, 4, 5, 6, 7, 8, 9, 10, 11, 12, 13, 14, 15, 16, 17, 18, 20, 21] hX ?_; simp [go_sem, maxLen]) | (refine awp_drawnG [0, 1, 2, 3, 4, 5, 6, 7, 8, 9, 10, 11, 12, 13, 14, 15, 16, 17, 18, 20, 21] hX mixed (by kernel_rfl) ?_; simp [go_sem, maxLen]) | (refine awp_ret ?_; simp [go_sem, maxLen]) | (refine awp_skip ?_; simp [go_sem, maxLen]) | (refine awp_exit ?_; simp [go_sem, maxLen])))
  refine callK_intro (voice_m 4 true 10) rfl (by simp [go_sem]) ?_
  try simp [go_sem, maxLen]
  try (repeat (first | refine awp_seq ?_ | refine awp_block ?_ | (refine awp_runG [0, 1, 2, 3, 4, 5, 6, 7, 8, 9, 10, 11, 12, 13, 14, 15, 16, 17, 18, 20, 21] hX ?_; simp [go_sem, maxLen]) | (refine awp_drawnG [0, 1, 2, 3, 4, 5, 6, 7, 8, 9, 10, 11, 12, 13, 14, 15, 16, 17, 18, 20, 21] hX mixed (by kernel_rfl) ?_; simp [go_sem, maxLen]) | (refine awp_ret ?_; simp [go_sem, maxLen]) | (refine awp_skip ?_; simp [go_sem, maxLen]) | (refine awp_exit ?_; simp [go_sem, maxLen])))
  refine callK_intro (voice_m 5 false 7) rfl (by simp [go_sem]) ?_
  try simp [go_sem, maxLen]
  try (repeat (first | refine awp_seq ?_ | refine awp_block ?_ | (refine awp_runG [0, 1, 2, 3, 4, 5, 6, 7, 8, 9, 10, 11, 12, 13, 14, 15, 16, 17, 18, 20, 21] hX ?_; simp [go_sem, maxLen]) | (refine awp_drawnG [0, 1, 2, 3, 4, 5, 6, 7, 8, 9, 10, 11, 12, 13, 14, 15, 16, 17, 18, 20, 21] hX mixed (by kernel_rfl) ?_; simp [go_sem, maxLen]) | (refine awp_ret ?_; simp [go_sem, maxLen]) | (refine awp_skip ?_; simp [go_sem, maxLen]) | (refine awp_exit ?_; simp [go_sem, maxLen])))
  refine callK_intro (voice_m 4 true 9) rfl (by simp [go_sem]) ?_
  try simp [go_sem, maxLen]
  try (repeat (first | refine awp_seq ?_ | refine awp_block ?_ | (refine awp_runG [0, 1, 2, 3, 4, 5, 6, 7, 8, 9, 10, 11, 12, 13, 14, 15, 16, 17, 18, 20, 21] hX ?_; simp [go_sem, maxLen]) | (refine awp_drawnG [0, 1, 2, 3, 4, 5, 6, 7, 8, 9, 10, 11, 12, 13, 14, 15, 16, 17, 18, 20, 21] hX mixed (by kernel_rfl) ?_; simp [go_sem, maxLen]) | (refine awp_ret ?_; simp [go_sem, maxLen]) | (refine awp_skip ?_; simp [go_sem, maxLen]) | (refine awp_exit ?_; simp [go_sem, maxLen])))
  refine callK_intro (n_3_600) rfl (by simp [go_sem]) ?_
  try simp [go_sem, maxLen]
  try (repeat (first | refine awp_seq ?_ | refine awp_block ?_ | (refine awp_runG [0, 1, 2, 3, 4, 5, 6, 7, 8, 9, 10, 11, 12, 13, 14, 15, 16, 17, 18, 20, 21] hX ?_; simp [go_sem, maxLen]) | (refine awp_drawnG [0, 1, 2, 3, 4, 5, 6, 7, 8, 9, 10, 11, 12, 13, 14, 15, 16, 17, 18, 20, 21] hX mixed (by kernel_rfl) ?_; simp [go_sem, maxLen]) | (refine awp_ret ?_; simp [go_sem, maxLen]) | (refine awp_skip ?_; simp [go_sem, maxLen]) | (refine awp_exit ?_; simp [go_sem, maxLen])))
  refine callK_intro (n_3_0) rfl (by simp [go_sem]) ?_
  try simp [go_sem, maxLen]
  try (repeat (first | refine awp_seq ?_ | refine awp_block ?_ | (refine awp_runG [0, 1, 2, 3, 4, 5, 6, 7, 8, 9, 10, 11, 12, 13, 14, 15, 16, 17, 18, 20, 21] hX ?_; simp [go_sem, maxLen]) | (refine awp_drawnG [0, 1, 2, 3, 4, 5, 6, 7, 8, 9, 10, 11, 12, 13, 14, 15, 16, 17, 18, 20, 21] hX mixed (by kernel_rfl) ?_; simp [go_sem, maxLen]) | (refine awp_ret ?_; simp [go_sem, maxLen]) | (refine awp_skip ?_; simp [go_sem, maxLen]) | (refine awp_exit ?_; simp [go_sem, maxLen])))
  refine callK_intro (n_60_1000) rfl (by simp [go_sem]) ?_
  try simp [go_sem, maxLen]
  try (repeat (first | refine awp_seq ?_ | refine awp_block ?_ | (refine awp_runG [0, 1, 2, 3, 4, 5, 6, 7, 8, 9, 10, 11, 12, 13, 14, 15, 16, 17, 18, 20, 21] hX ?_; simp [go_sem, maxLen]) | (refine awp_drawnG [0, 1, 2, 3, 4, 5, 6, 7, 8, 9, 10, 11, 12, 13, 14, 15, 16, 17, 18, 20, 21] hX mixed (by kernel_rfl) ?_; simp [go_sem, maxLen]) | (refine awp_ret ?_; simp [go_sem, maxLen]) | (refine awp_skip ?_; simp [go_sem, maxLen]) | (refine awp_exit ?_; simp [go_sem, maxLen])))
  refine callK_intro (c_sm) rfl (by simp [go_sem]) ?_
  try simp [go_sem, maxLen]
  try (repeat (first | refine awp_seq ?_ | refine awp_block ?_ | (refine awp_runG [0, 1, 2, 3, 4, 5, 6, 7, 8, 9, 10, 11, 12, 13, 14, 15, 16, 17, 18, 20, 21] hX ?_; simp [go_sem, maxLen]) | (refine awp_drawnG [0, 1, 2, 3, 4, 5, 6, 7, 8, 9, 10, 11, 12, 13, 14, 15, 16, 17, 18, 20, 21] hX mixed (by kernel_rfl) ?_; simp [go_sem, maxLen]) | (refine awp_ret ?_; simp [go_sem, maxLen]) | (refine awp_skip ?_; simp [go_sem, maxLen]) | (refine awp_exit ?_; simp [go_sem, maxLen])))
  refine callK_intro (t_1) rfl (by simp [go_sem]) ?_
  try simp [go_sem, maxLen]
  try (repeat (first | refine awp_seq ?_ | refine awp_block ?_ | (refine awp_runG [0, 1, 2, 3, 4, 5, 6, 7, 8, 9, 10, 11, 12, 13, 14, 15, 16, 17, 18, 20, 21] hX ?_; simp [go_sem, maxLen]) | (refine awp_drawnG [0, 1, 2, 3, 4, 5, 6, 7, 8, 9, 10, 11, 12, 13, 14, 15, 16, 17, 18, 20, 21] hX mixed (by kernel_rfl) ?_; simp [go_sem, maxLen]) | (refine awp_ret ?_; simp [go_sem, maxLen]) | (refine awp_skip ?_; simp [go_sem, maxLen]) | (refine awp_exit ?_; simp [go_sem, maxLen])))
  refine callK_intro (t_2) rfl (by simp [go_sem]) ?_
  try simp [go_sem, maxLen]
  try (repeat (first | refine awp_seq ?_ | refine awp_block ?_ | (refine awp_runG [0, 1, 2, 3, 4, 5, 6, 7, 8, 9, 10, 11, 12, 13, 14, 15, 16, 17, 18, 20, 21] hX ?_; simp [go_sem, maxLen]) | (refine awp_drawnG [0, 1, 2, 3, 4, 5, 6, 7, 8, 9, 10, 11, 12, 13, 14, 15, 16, 17, 18, 20, 21] hX mixed (by kernel_rfl) ?_; simp [go_sem, maxLen]) | (refine awp_ret ?_; simp [go_sem, maxLen]) | (refine awp_skip ?_; simp [go_sem, maxLen]) | (refine awp_exit ?_; simp [go_sem, maxLen])))
  refine callK_intro (t_3) rfl (by simp [go_sem]) ?_
  try simp [go_sem, maxLen]
  try (repeat (first | refine awp_seq ?_ | refine awp_block ?_ | (refine awp_runG [0, 1, 2, 3, 4, 5, 6, 7, 8, 9, 10, 11, 12, 13, 14, 15, 16, 17, 18, 20, 21] hX ?_; simp [go_sem, maxLen]) | (refine awp_drawnG [0, 1, 2, 3, 4, 5, 6, 7, 8, 9, 10, 11, 12, 13, 14, 15, 16, 17, 18, 20, 21] hX mixed (by kernel_rfl) ?_; simp [go_sem, maxLen]) | (refine awp_ret ?_; simp [go_sem, maxLen]) | (refine awp_skip ?_; simp [go_sem, maxLen]) | (refine awp_exit ?_; simp [go_sem, maxLen])))
  refine callK_intro (d_1) rfl (by simp [go_sem]) ?_
  try simp [go_sem, maxLen]
  try (repeat (first | refine awp_seq ?_ | refine awp_block ?_ | (refine awp_runG [0, 1, 2, 3, 4, 5, 6, 7, 8, 9, 10, 11, 12, 13, 14, 15, 16, 17, 18, 20, 21] hX ?_; simp [go_sem, maxLen]) | (refine awp_drawnG [0, 1, 2, 3, 4, 5, 6, 7, 8, 9, 10, 11, 12, 13, 14, 15, 16, 17, 18, 20, 21] hX mixed (by kernel_rfl) ?_; simp [go_sem, maxLen]) | (refine awp_ret ?_; simp [go_sem, maxLen]) | (refine awp_skip ?_; simp [go_sem, maxLen]) | (refine awp_exit ?_; simp [go_sem, maxLen])))
  refine callK_intro (n_0_600) rfl (by simp [go_sem]) ?_
  try simp [go_sem, maxLen]
  try (repeat (first | refine awp_seq ?_ | refine awp_block ?_ | (refine awp_runG [0, 1, 2, 3, 4, 5, 6, 7, 8, 9, 10, 11, 12, 13, 14, 15, 16, 17, 18, 20, 21] hX ?_; simp [go_sem, maxLen]) | (refine awp_drawnG [0, 1, 2, 3, 4, 5, 6, 7, 8, 9, 10, 11, 12, 13, 14, 15, 16, 17, 18, 20, 21] hX mixed (by kernel_rfl) ?_; simp [go_sem, maxLen]) | (refine awp_ret ?_; simp [go_sem, maxLen]) | (refine awp_skip ?_; simp [go_sem, maxLen]) | (refine awp_exit ?_; simp [go_sem, maxLen])))

end Go.Proofs.Ytgccheogieddnaa
