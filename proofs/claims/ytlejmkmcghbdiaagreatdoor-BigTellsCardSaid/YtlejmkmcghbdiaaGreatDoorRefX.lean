/-
  Layer 4: arguments that are not right (printed by tools/genbad.py).
-/
import Derived.Test.YtlejmkmcghbdiaaGreatDoorRefQ
set_option linter.all false
namespace Go.Proofs.YtlejmkmcghbdiaaGreatDoor
open Go.RowKit Go.Ab
attribute [local irreducible] AWP Go.Ab.Sub Means MeansH CallK CallG CallT CallGT CallU

theorem Add_bad (s1 s2 : Int) (a b : List Int) (hla : a.length ≤ 100000) (hlb : b.length ≤ 100000) (h : ¬ (isR s1 a ∧ isR s2 b)) : Means false Tryz.prog 6 [big2 s1 a, big2 s2 b] (.tup [big2 0 [], ii 1]) := by
  have r1 := right_m s1 a (by omega)
  have r2 := right_m s2 b (by omega)
  by_cases h1 : isR s1 a
  · have h2 : ¬ isR s2 b := fun q => h ⟨h1, q⟩
    rw [decide_eq_true h1] at r1
    rw [decide_eq_false h2] at r2
    refine means_fn false 69 [.cell 4 24, .tmp 5] Tryz.func6 rfl rfl rfl (by simp) (by decide) rfl fun X hX => ?_
    (repeat (first | refine awp_seq ?_ | refine awp_block ?_ | ((first | refine awp_runG [0, 1, 2, 3, 4, 5, 13, 18, 40] hX ?_ | refine awp_drawnG [0, 1, 2, 3, 4, 5, 13, 18, 40] hX mixed ?_ | refine awp_ret ?_ | refine awp_skip ?_ | refine awp_exit ?_); (simp [go_sem]; try (refine ⟨by kernel_rfl, ?_⟩)))))
    first | refine callK_intro (r1) rfl (by simp [go_sem]) rfl ?_ | refine callT_intro (r1) rfl (by simp [go_sem]) rfl ?_
    try (simp [go_sem]; try (refine ⟨by kernel_rfl, ?_⟩))
    first | refine callG_intro (fun hg => r2) rfl (by simp [go_sem]) rfl ?_ | refine callGT_intro (fun hg => r2) rfl (by simp [go_sem]) rfl ?_
    try (simp [go_sem]; try (refine ⟨by kernel_rfl, ?_⟩))
    refine awp_cond (b := true) (by simp [go_sem]) (fun _ => ?_) (fun h => by cases h)
    (repeat (first | refine awp_seq ?_ | refine awp_block ?_ | ((first | refine awp_runG [0, 1, 2, 3, 4, 5, 13, 18, 40] hX ?_ | refine awp_drawnG [0, 1, 2, 3, 4, 5, 13, 18, 40] hX mixed ?_ | refine awp_ret ?_ | refine awp_skip ?_ | refine awp_exit ?_); (simp [go_sem]; try (refine ⟨by kernel_rfl, ?_⟩)))))
    first | refine callK_intro (checked_f) rfl (by simp [go_sem]) rfl ?_ | refine callT_intro (checked_f) rfl (by simp [go_sem]) rfl ?_
    try (simp [go_sem]; try (refine ⟨by kernel_rfl, ?_⟩))
    (repeat (first | refine awp_seq ?_ | refine awp_block ?_ | ((first | refine awp_runG [0, 1, 2, 3, 4, 5, 13, 18, 40] hX ?_ | refine awp_drawnG [0, 1, 2, 3, 4, 5, 13, 18, 40] hX mixed ?_ | refine awp_ret ?_ | refine awp_skip ?_ | refine awp_exit ?_); (simp [go_sem]; try (refine ⟨by kernel_rfl, ?_⟩)))))
  · rw [decide_eq_false h1] at r1
    refine means_fn false 69 [.cell 4 24, .tmp 5] Tryz.func6 rfl rfl rfl (by simp) (by decide) rfl fun X hX => ?_
    (repeat (first | refine awp_seq ?_ | refine awp_block ?_ | ((first | refine awp_runG [0, 1, 2, 3, 4, 5, 13, 18, 40] hX ?_ | refine awp_drawnG [0, 1, 2, 3, 4, 5, 13, 18, 40] hX mixed ?_ | refine awp_ret ?_ | refine awp_skip ?_ | refine awp_exit ?_); (simp [go_sem]; try (refine ⟨by kernel_rfl, ?_⟩)))))
    first | refine callK_intro (r1) rfl (by simp [go_sem]) rfl ?_ | refine callT_intro (r1) rfl (by simp [go_sem]) rfl ?_
    try (simp [go_sem]; try (refine ⟨by kernel_rfl, ?_⟩))
    first | refine callG_intro (fun hg => r2) rfl (by simp [go_sem]) rfl ?_ | refine callGT_intro (fun hg => r2) rfl (by simp [go_sem]) rfl ?_
    try (simp [go_sem]; try (refine ⟨by kernel_rfl, ?_⟩))
    refine awp_cond (b := true) (by simp [go_sem]) (fun _ => ?_) (fun h => by cases h)
    (repeat (first | refine awp_seq ?_ | refine awp_block ?_ | ((first | refine awp_runG [0, 1, 2, 3, 4, 5, 13, 18, 40] hX ?_ | refine awp_drawnG [0, 1, 2, 3, 4, 5, 13, 18, 40] hX mixed ?_ | refine awp_ret ?_ | refine awp_skip ?_ | refine awp_exit ?_); (simp [go_sem]; try (refine ⟨by kernel_rfl, ?_⟩)))))
    first | refine callK_intro (checked_f) rfl (by simp [go_sem]) rfl ?_ | refine callT_intro (checked_f) rfl (by simp [go_sem]) rfl ?_
    try (simp [go_sem]; try (refine ⟨by kernel_rfl, ?_⟩))
    (repeat (first | refine awp_seq ?_ | refine awp_block ?_ | ((first | refine awp_runG [0, 1, 2, 3, 4, 5, 13, 18, 40] hX ?_ | refine awp_drawnG [0, 1, 2, 3, 4, 5, 13, 18, 40] hX mixed ?_ | refine awp_ret ?_ | refine awp_skip ?_ | refine awp_exit ?_); (simp [go_sem]; try (refine ⟨by kernel_rfl, ?_⟩)))))
theorem Mul_bad (s1 s2 : Int) (a b : List Int) (hla : a.length ≤ 100000) (hlb : b.length ≤ 100000) (h : ¬ (isR s1 a ∧ isR s2 b)) : Means false Tryz.prog 10 [big2 s1 a, big2 s2 b] (.tup [big2 0 [], ii 1]) := by
  have r1 := right_m s1 a (by omega)
  have r2 := right_m s2 b (by omega)
  by_cases h1 : isR s1 a
  · have h2 : ¬ isR s2 b := fun q => h ⟨h1, q⟩
    rw [decide_eq_true h1] at r1
    rw [decide_eq_false h2] at r2
    refine means_fn false 32 [.cell 4 24, .tmp 5] Tryz.func10 rfl rfl rfl (by simp) (by decide) rfl fun X hX => ?_
    (repeat (first | refine awp_seq ?_ | refine awp_block ?_ | ((first | refine awp_runG [0, 1, 2, 3, 4, 5, 13] hX ?_ | refine awp_drawnG [0, 1, 2, 3, 4, 5, 13] hX mixed ?_ | refine awp_ret ?_ | refine awp_skip ?_ | refine awp_exit ?_); (simp [go_sem]; try (refine ⟨by kernel_rfl, ?_⟩)))))
    first | refine callK_intro (r1) rfl (by simp [go_sem]) rfl ?_ | refine callT_intro (r1) rfl (by simp [go_sem]) rfl ?_
    try (simp [go_sem]; try (refine ⟨by kernel_rfl, ?_⟩))
    first | refine callG_intro (fun hg => r2) rfl (by simp [go_sem]) rfl ?_ | refine callGT_intro (fun hg => r2) rfl (by simp [go_sem]) rfl ?_
    try (simp [go_sem]; try (refine ⟨by kernel_rfl, ?_⟩))
    refine awp_cond (b := true) (by simp [go_sem]) (fun _ => ?_) (fun h => by cases h)
    (repeat (first | refine awp_seq ?_ | refine awp_block ?_ | ((first | refine awp_runG [0, 1, 2, 3, 4, 5, 13] hX ?_ | refine awp_drawnG [0, 1, 2, 3, 4, 5, 13] hX mixed ?_ | refine awp_ret ?_ | refine awp_skip ?_ | refine awp_exit ?_); (simp [go_sem]; try (refine ⟨by kernel_rfl, ?_⟩)))))
    first | refine callK_intro (checked_f) rfl (by simp [go_sem]) rfl ?_ | refine callT_intro (checked_f) rfl (by simp [go_sem]) rfl ?_
    try (simp [go_sem]; try (refine ⟨by kernel_rfl, ?_⟩))
    (repeat (first | refine awp_seq ?_ | refine awp_block ?_ | ((first | refine awp_runG [0, 1, 2, 3, 4, 5, 13] hX ?_ | refine awp_drawnG [0, 1, 2, 3, 4, 5, 13] hX mixed ?_ | refine awp_ret ?_ | refine awp_skip ?_ | refine awp_exit ?_); (simp [go_sem]; try (refine ⟨by kernel_rfl, ?_⟩)))))
  · rw [decide_eq_false h1] at r1
    refine means_fn false 32 [.cell 4 24, .tmp 5] Tryz.func10 rfl rfl rfl (by simp) (by decide) rfl fun X hX => ?_
    (repeat (first | refine awp_seq ?_ | refine awp_block ?_ | ((first | refine awp_runG [0, 1, 2, 3, 4, 5, 13] hX ?_ | refine awp_drawnG [0, 1, 2, 3, 4, 5, 13] hX mixed ?_ | refine awp_ret ?_ | refine awp_skip ?_ | refine awp_exit ?_); (simp [go_sem]; try (refine ⟨by kernel_rfl, ?_⟩)))))
    first | refine callK_intro (r1) rfl (by simp [go_sem]) rfl ?_ | refine callT_intro (r1) rfl (by simp [go_sem]) rfl ?_
    try (simp [go_sem]; try (refine ⟨by kernel_rfl, ?_⟩))
    first | refine callG_intro (fun hg => r2) rfl (by simp [go_sem]) rfl ?_ | refine callGT_intro (fun hg => r2) rfl (by simp [go_sem]) rfl ?_
    try (simp [go_sem]; try (refine ⟨by kernel_rfl, ?_⟩))
    refine awp_cond (b := true) (by simp [go_sem]) (fun _ => ?_) (fun h => by cases h)
    (repeat (first | refine awp_seq ?_ | refine awp_block ?_ | ((first | refine awp_runG [0, 1, 2, 3, 4, 5, 13] hX ?_ | refine awp_drawnG [0, 1, 2, 3, 4, 5, 13] hX mixed ?_ | refine awp_ret ?_ | refine awp_skip ?_ | refine awp_exit ?_); (simp [go_sem]; try (refine ⟨by kernel_rfl, ?_⟩)))))
    first | refine callK_intro (checked_f) rfl (by simp [go_sem]) rfl ?_ | refine callT_intro (checked_f) rfl (by simp [go_sem]) rfl ?_
    try (simp [go_sem]; try (refine ⟨by kernel_rfl, ?_⟩))
    (repeat (first | refine awp_seq ?_ | refine awp_block ?_ | ((first | refine awp_runG [0, 1, 2, 3, 4, 5, 13] hX ?_ | refine awp_drawnG [0, 1, 2, 3, 4, 5, 13] hX mixed ?_ | refine awp_ret ?_ | refine awp_skip ?_ | refine awp_exit ?_); (simp [go_sem]; try (refine ⟨by kernel_rfl, ?_⟩)))))
theorem Gcd_bad (s1 s2 : Int) (a b : List Int) (hla : a.length ≤ 100000) (hlb : b.length ≤ 100000) (h : ¬ (isR s1 a ∧ isR s2 b)) : Means false Tryz.prog 19 [big2 s1 a, big2 s2 b] (.tup [big2 0 [], ii 1]) := by
  have r1 := right_m s1 a (by omega)
  have r2 := right_m s2 b (by omega)
  by_cases h1 : isR s1 a
  · have h2 : ¬ isR s2 b := fun q => h ⟨h1, q⟩
    rw [decide_eq_true h1] at r1
    rw [decide_eq_false h2] at r2
    refine means_fn false 44 [.cell 4 24, .tmp 5] Tryz.func19 rfl rfl rfl (by simp) (by decide) rfl fun X hX => ?_
    (repeat (first | refine awp_seq ?_ | refine awp_block ?_ | ((first | refine awp_runG [0, 1, 2, 3, 4, 5, 6, 7, 9, 17, 29] hX ?_ | refine awp_drawnG [0, 1, 2, 3, 4, 5, 6, 7, 9, 17, 29] hX mixed ?_ | refine awp_ret ?_ | refine awp_skip ?_ | refine awp_exit ?_); (simp [go_sem]; try (refine ⟨by kernel_rfl, ?_⟩)))))
    first | refine callK_intro (r1) rfl (by simp [go_sem]) rfl ?_ | refine callT_intro (r1) rfl (by simp [go_sem]) rfl ?_
    try (simp [go_sem]; try (refine ⟨by kernel_rfl, ?_⟩))
    first | refine callG_intro (fun hg => r2) rfl (by simp [go_sem]) rfl ?_ | refine callGT_intro (fun hg => r2) rfl (by simp [go_sem]) rfl ?_
    try (simp [go_sem]; try (refine ⟨by kernel_rfl, ?_⟩))
    refine awp_cond (b := true) (by simp [go_sem]) (fun _ => ?_) (fun h => by cases h)
    (repeat (first | refine awp_seq ?_ | refine awp_block ?_ | ((first | refine awp_runG [0, 1, 2, 3, 4, 5, 6, 7, 9, 17, 29] hX ?_ | refine awp_drawnG [0, 1, 2, 3, 4, 5, 6, 7, 9, 17, 29] hX mixed ?_ | refine awp_ret ?_ | refine awp_skip ?_ | refine awp_exit ?_); (simp [go_sem]; try (refine ⟨by kernel_rfl, ?_⟩)))))
    first | refine callK_intro (checked_f) rfl (by simp [go_sem]) rfl ?_ | refine callT_intro (checked_f) rfl (by simp [go_sem]) rfl ?_
    try (simp [go_sem]; try (refine ⟨by kernel_rfl, ?_⟩))
    (repeat (first | refine awp_seq ?_ | refine awp_block ?_ | ((first | refine awp_runG [0, 1, 2, 3, 4, 5, 6, 7, 9, 17, 29] hX ?_ | refine awp_drawnG [0, 1, 2, 3, 4, 5, 6, 7, 9, 17, 29] hX mixed ?_ | refine awp_ret ?_ | refine awp_skip ?_ | refine awp_exit ?_); (simp [go_sem]; try (refine ⟨by kernel_rfl, ?_⟩)))))
  · rw [decide_eq_false h1] at r1
    refine means_fn false 44 [.cell 4 24, .tmp 5] Tryz.func19 rfl rfl rfl (by simp) (by decide) rfl fun X hX => ?_
    (repeat (first | refine awp_seq ?_ | refine awp_block ?_ | ((first | refine awp_runG [0, 1, 2, 3, 4, 5, 6, 7, 9, 17, 29] hX ?_ | refine awp_drawnG [0, 1, 2, 3, 4, 5, 6, 7, 9, 17, 29] hX mixed ?_ | refine awp_ret ?_ | refine awp_skip ?_ | refine awp_exit ?_); (simp [go_sem]; try (refine ⟨by kernel_rfl, ?_⟩)))))
    first | refine callK_intro (r1) rfl (by simp [go_sem]) rfl ?_ | refine callT_intro (r1) rfl (by simp [go_sem]) rfl ?_
    try (simp [go_sem]; try (refine ⟨by kernel_rfl, ?_⟩))
    first | refine callG_intro (fun hg => r2) rfl (by simp [go_sem]) rfl ?_ | refine callGT_intro (fun hg => r2) rfl (by simp [go_sem]) rfl ?_
    try (simp [go_sem]; try (refine ⟨by kernel_rfl, ?_⟩))
    refine awp_cond (b := true) (by simp [go_sem]) (fun _ => ?_) (fun h => by cases h)
    (repeat (first | refine awp_seq ?_ | refine awp_block ?_ | ((first | refine awp_runG [0, 1, 2, 3, 4, 5, 6, 7, 9, 17, 29] hX ?_ | refine awp_drawnG [0, 1, 2, 3, 4, 5, 6, 7, 9, 17, 29] hX mixed ?_ | refine awp_ret ?_ | refine awp_skip ?_ | refine awp_exit ?_); (simp [go_sem]; try (refine ⟨by kernel_rfl, ?_⟩)))))
    first | refine callK_intro (checked_f) rfl (by simp [go_sem]) rfl ?_ | refine callT_intro (checked_f) rfl (by simp [go_sem]) rfl ?_
    try (simp [go_sem]; try (refine ⟨by kernel_rfl, ?_⟩))
    (repeat (first | refine awp_seq ?_ | refine awp_block ?_ | ((first | refine awp_runG [0, 1, 2, 3, 4, 5, 6, 7, 9, 17, 29] hX ?_ | refine awp_drawnG [0, 1, 2, 3, 4, 5, 6, 7, 9, 17, 29] hX mixed ?_ | refine awp_ret ?_ | refine awp_skip ?_ | refine awp_exit ?_); (simp [go_sem]; try (refine ⟨by kernel_rfl, ?_⟩)))))
theorem Div_bad (s1 s2 : Int) (a b : List Int) (hla : a.length ≤ 100000) (hlb : b.length ≤ 100000) (h : ¬ (isR s1 a ∧ isR s2 b)) : Means false Tryz.prog 13 [big2 s1 a, big2 s2 b] (.tup [big2 0 [], big2 0 [], ii 1]) := by
  have r1 := right_m s1 a (by omega)
  have r2 := right_m s2 b (by omega)
  by_cases h1 : isR s1 a
  · have h2 : ¬ isR s2 b := fun q => h ⟨h1, q⟩
    rw [decide_eq_true h1] at r1
    rw [decide_eq_false h2] at r2
    refine means_fn false 67 [.cell 4 24, .cell 5 24, .tmp 6] Tryz.func13 rfl rfl rfl (by simp) (by decide) rfl fun X hX => ?_
    (repeat (first | refine awp_seq ?_ | refine awp_block ?_ | ((first | refine awp_runG [0, 1, 2, 3, 4, 5, 6, 7, 8, 9, 20, 44] hX ?_ | refine awp_drawnG [0, 1, 2, 3, 4, 5, 6, 7, 8, 9, 20, 44] hX mixed ?_ | refine awp_ret ?_ | refine awp_skip ?_ | refine awp_exit ?_); (simp [go_sem]; try (refine ⟨by kernel_rfl, ?_⟩)))))
    first | refine callK_intro (r1) rfl (by simp [go_sem]) rfl ?_ | refine callT_intro (r1) rfl (by simp [go_sem]) rfl ?_
    try (simp [go_sem]; try (refine ⟨by kernel_rfl, ?_⟩))
    first | refine callG_intro (fun hg => r2) rfl (by simp [go_sem]) rfl ?_ | refine callGT_intro (fun hg => r2) rfl (by simp [go_sem]) rfl ?_
    try (simp [go_sem]; try (refine ⟨by kernel_rfl, ?_⟩))
    refine awp_cond (b := true) (by simp [go_sem]) (fun _ => ?_) (fun h => by cases h)
    (repeat (first | refine awp_seq ?_ | refine awp_block ?_ | ((first | refine awp_runG [0, 1, 2, 3, 4, 5, 6, 7, 8, 9, 20, 44] hX ?_ | refine awp_drawnG [0, 1, 2, 3, 4, 5, 6, 7, 8, 9, 20, 44] hX mixed ?_ | refine awp_ret ?_ | refine awp_skip ?_ | refine awp_exit ?_); (simp [go_sem]; try (refine ⟨by kernel_rfl, ?_⟩)))))
  · rw [decide_eq_false h1] at r1
    refine means_fn false 67 [.cell 4 24, .cell 5 24, .tmp 6] Tryz.func13 rfl rfl rfl (by simp) (by decide) rfl fun X hX => ?_
    (repeat (first | refine awp_seq ?_ | refine awp_block ?_ | ((first | refine awp_runG [0, 1, 2, 3, 4, 5, 6, 7, 8, 9, 20, 44] hX ?_ | refine awp_drawnG [0, 1, 2, 3, 4, 5, 6, 7, 8, 9, 20, 44] hX mixed ?_ | refine awp_ret ?_ | refine awp_skip ?_ | refine awp_exit ?_); (simp [go_sem]; try (refine ⟨by kernel_rfl, ?_⟩)))))
    first | refine callK_intro (r1) rfl (by simp [go_sem]) rfl ?_ | refine callT_intro (r1) rfl (by simp [go_sem]) rfl ?_
    try (simp [go_sem]; try (refine ⟨by kernel_rfl, ?_⟩))
    first | refine callG_intro (fun hg => r2) rfl (by simp [go_sem]) rfl ?_ | refine callGT_intro (fun hg => r2) rfl (by simp [go_sem]) rfl ?_
    try (simp [go_sem]; try (refine ⟨by kernel_rfl, ?_⟩))
    refine awp_cond (b := true) (by simp [go_sem]) (fun _ => ?_) (fun h => by cases h)
    (repeat (first | refine awp_seq ?_ | refine awp_block ?_ | ((first | refine awp_runG [0, 1, 2, 3, 4, 5, 6, 7, 8, 9, 20, 44] hX ?_ | refine awp_drawnG [0, 1, 2, 3, 4, 5, 6, 7, 8, 9, 20, 44] hX mixed ?_ | refine awp_ret ?_ | refine awp_skip ?_ | refine awp_exit ?_); (simp [go_sem]; try (refine ⟨by kernel_rfl, ?_⟩)))))
theorem Compare_bad (s1 s2 : Int) (a b : List Int) (hla : a.length ≤ 100000) (hlb : b.length ≤ 100000) (h : ¬ (isR s1 a ∧ isR s2 b)) : Means false Tryz.prog 23 [big2 s1 a, big2 s2 b] (ii 0) := by
  have r1 := right_m s1 a (by omega)
  have r2 := right_m s2 b (by omega)
  by_cases h1 : isR s1 a
  · have h2 : ¬ isR s2 b := fun q => h ⟨h1, q⟩
    rw [decide_eq_true h1] at r1
    rw [decide_eq_false h2] at r2
    refine means_fn false 31 [.tmp 4] Tryz.func23 rfl rfl rfl (by simp) (by decide) rfl fun X hX => ?_
    (repeat (first | refine awp_seq ?_ | refine awp_block ?_ | ((first | refine awp_runG [0, 1, 2, 3, 4, 12, 17] hX ?_ | refine awp_drawnG [0, 1, 2, 3, 4, 12, 17] hX mixed ?_ | refine awp_ret ?_ | refine awp_skip ?_ | refine awp_exit ?_); (simp [go_sem]; try (refine ⟨by kernel_rfl, ?_⟩)))))
    first | refine callK_intro (r1) rfl (by simp [go_sem]) rfl ?_ | refine callT_intro (r1) rfl (by simp [go_sem]) rfl ?_
    try (simp [go_sem]; try (refine ⟨by kernel_rfl, ?_⟩))
    first | refine callG_intro (fun hg => r2) rfl (by simp [go_sem]) rfl ?_ | refine callGT_intro (fun hg => r2) rfl (by simp [go_sem]) rfl ?_
    try (simp [go_sem]; try (refine ⟨by kernel_rfl, ?_⟩))
    refine awp_cond (b := true) (by simp [go_sem]) (fun _ => ?_) (fun h => by cases h)
    (repeat (first | refine awp_seq ?_ | refine awp_block ?_ | ((first | refine awp_runG [0, 1, 2, 3, 4, 12, 17] hX ?_ | refine awp_drawnG [0, 1, 2, 3, 4, 12, 17] hX mixed ?_ | refine awp_ret ?_ | refine awp_skip ?_ | refine awp_exit ?_); (simp [go_sem]; try (refine ⟨by kernel_rfl, ?_⟩)))))
  · rw [decide_eq_false h1] at r1
    refine means_fn false 31 [.tmp 4] Tryz.func23 rfl rfl rfl (by simp) (by decide) rfl fun X hX => ?_
    (repeat (first | refine awp_seq ?_ | refine awp_block ?_ | ((first | refine awp_runG [0, 1, 2, 3, 4, 12, 17] hX ?_ | refine awp_drawnG [0, 1, 2, 3, 4, 12, 17] hX mixed ?_ | refine awp_ret ?_ | refine awp_skip ?_ | refine awp_exit ?_); (simp [go_sem]; try (refine ⟨by kernel_rfl, ?_⟩)))))
    first | refine callK_intro (r1) rfl (by simp [go_sem]) rfl ?_ | refine callT_intro (r1) rfl (by simp [go_sem]) rfl ?_
    try (simp [go_sem]; try (refine ⟨by kernel_rfl, ?_⟩))
    first | refine callG_intro (fun hg => r2) rfl (by simp [go_sem]) rfl ?_ | refine callGT_intro (fun hg => r2) rfl (by simp [go_sem]) rfl ?_
    try (simp [go_sem]; try (refine ⟨by kernel_rfl, ?_⟩))
    refine awp_cond (b := true) (by simp [go_sem]) (fun _ => ?_) (fun h => by cases h)
    (repeat (first | refine awp_seq ?_ | refine awp_block ?_ | ((first | refine awp_runG [0, 1, 2, 3, 4, 12, 17] hX ?_ | refine awp_drawnG [0, 1, 2, 3, 4, 12, 17] hX mixed ?_ | refine awp_ret ?_ | refine awp_skip ?_ | refine awp_exit ?_); (simp [go_sem]; try (refine ⟨by kernel_rfl, ?_⟩)))))
theorem rAdd_bad (s1 s2 : Int) (a b : List Int) (hla : a.length ≤ 100000) (hlb : b.length ≤ 100000) (h : ¬ (isR s1 a ∧ isR s2 b)) : Means false Tryz.prog 7 [big2 s1 a, big2 s2 b] (.tup [big2 0 [], ii 1]) := by
  have r1 := rRight_m s1 a (by omega)
  have r2 := rRight_m s2 b (by omega)
  by_cases h1 : isR s1 a
  · have h2 : ¬ isR s2 b := fun q => h ⟨h1, q⟩
    rw [decide_eq_true h1] at r1
    rw [decide_eq_false h2] at r2
    refine means_fn false 71 [.cell 4 24, .tmp 5] Tryz.func7 rfl rfl rfl (by simp) (by decide) rfl fun X hX => ?_
    (repeat (first | refine awp_seq ?_ | refine awp_block ?_ | ((first | refine awp_runG [0, 1, 2, 3, 4, 5, 13, 29, 48] hX ?_ | refine awp_drawnG [0, 1, 2, 3, 4, 5, 13, 29, 48] hX mixed ?_ | refine awp_ret ?_ | refine awp_skip ?_ | refine awp_exit ?_); (simp [go_sem]; try (refine ⟨by kernel_rfl, ?_⟩)))))
    first | refine callK_intro (r1) rfl (by simp [go_sem]) rfl ?_ | refine callT_intro (r1) rfl (by simp [go_sem]) rfl ?_
    try (simp [go_sem]; try (refine ⟨by kernel_rfl, ?_⟩))
    first | refine callG_intro (fun hg => r2) rfl (by simp [go_sem]) rfl ?_ | refine callGT_intro (fun hg => r2) rfl (by simp [go_sem]) rfl ?_
    try (simp [go_sem]; try (refine ⟨by kernel_rfl, ?_⟩))
    refine awp_cond (b := true) (by simp [go_sem]) (fun _ => ?_) (fun h => by cases h)
    (repeat (first | refine awp_seq ?_ | refine awp_block ?_ | ((first | refine awp_runG [0, 1, 2, 3, 4, 5, 13, 29, 48] hX ?_ | refine awp_drawnG [0, 1, 2, 3, 4, 5, 13, 29, 48] hX mixed ?_ | refine awp_ret ?_ | refine awp_skip ?_ | refine awp_exit ?_); (simp [go_sem]; try (refine ⟨by kernel_rfl, ?_⟩)))))
  · rw [decide_eq_false h1] at r1
    refine means_fn false 71 [.cell 4 24, .tmp 5] Tryz.func7 rfl rfl rfl (by simp) (by decide) rfl fun X hX => ?_
    (repeat (first | refine awp_seq ?_ | refine awp_block ?_ | ((first | refine awp_runG [0, 1, 2, 3, 4, 5, 13, 29, 48] hX ?_ | refine awp_drawnG [0, 1, 2, 3, 4, 5, 13, 29, 48] hX mixed ?_ | refine awp_ret ?_ | refine awp_skip ?_ | refine awp_exit ?_); (simp [go_sem]; try (refine ⟨by kernel_rfl, ?_⟩)))))
    first | refine callK_intro (r1) rfl (by simp [go_sem]) rfl ?_ | refine callT_intro (r1) rfl (by simp [go_sem]) rfl ?_
    try (simp [go_sem]; try (refine ⟨by kernel_rfl, ?_⟩))
    first | refine callG_intro (fun hg => r2) rfl (by simp [go_sem]) rfl ?_ | refine callGT_intro (fun hg => r2) rfl (by simp [go_sem]) rfl ?_
    try (simp [go_sem]; try (refine ⟨by kernel_rfl, ?_⟩))
    refine awp_cond (b := true) (by simp [go_sem]) (fun _ => ?_) (fun h => by cases h)
    (repeat (first | refine awp_seq ?_ | refine awp_block ?_ | ((first | refine awp_runG [0, 1, 2, 3, 4, 5, 13, 29, 48] hX ?_ | refine awp_drawnG [0, 1, 2, 3, 4, 5, 13, 29, 48] hX mixed ?_ | refine awp_ret ?_ | refine awp_skip ?_ | refine awp_exit ?_); (simp [go_sem]; try (refine ⟨by kernel_rfl, ?_⟩)))))
theorem rMul_bad (s1 s2 : Int) (a b : List Int) (hla : a.length ≤ 100000) (hlb : b.length ≤ 100000) (h : ¬ (isR s1 a ∧ isR s2 b)) : Means false Tryz.prog 11 [big2 s1 a, big2 s2 b] (.tup [big2 0 [], ii 1]) := by
  have r1 := rRight_m s1 a (by omega)
  have r2 := rRight_m s2 b (by omega)
  by_cases h1 : isR s1 a
  · have h2 : ¬ isR s2 b := fun q => h ⟨h1, q⟩
    rw [decide_eq_true h1] at r1
    rw [decide_eq_false h2] at r2
    refine means_fn false 29 [.cell 4 24, .tmp 5] Tryz.func11 rfl rfl rfl (by simp) (by decide) rfl fun X hX => ?_
    (repeat (first | refine awp_seq ?_ | refine awp_block ?_ | ((first | refine awp_runG [0, 1, 2, 3, 4, 5, 13] hX ?_ | refine awp_drawnG [0, 1, 2, 3, 4, 5, 13] hX mixed ?_ | refine awp_ret ?_ | refine awp_skip ?_ | refine awp_exit ?_); (simp [go_sem]; try (refine ⟨by kernel_rfl, ?_⟩)))))
    first | refine callK_intro (r1) rfl (by simp [go_sem]) rfl ?_ | refine callT_intro (r1) rfl (by simp [go_sem]) rfl ?_
    try (simp [go_sem]; try (refine ⟨by kernel_rfl, ?_⟩))
    first | refine callG_intro (fun hg => r2) rfl (by simp [go_sem]) rfl ?_ | refine callGT_intro (fun hg => r2) rfl (by simp [go_sem]) rfl ?_
    try (simp [go_sem]; try (refine ⟨by kernel_rfl, ?_⟩))
    refine awp_cond (b := true) (by simp [go_sem]) (fun _ => ?_) (fun h => by cases h)
    (repeat (first | refine awp_seq ?_ | refine awp_block ?_ | ((first | refine awp_runG [0, 1, 2, 3, 4, 5, 13] hX ?_ | refine awp_drawnG [0, 1, 2, 3, 4, 5, 13] hX mixed ?_ | refine awp_ret ?_ | refine awp_skip ?_ | refine awp_exit ?_); (simp [go_sem]; try (refine ⟨by kernel_rfl, ?_⟩)))))
  · rw [decide_eq_false h1] at r1
    refine means_fn false 29 [.cell 4 24, .tmp 5] Tryz.func11 rfl rfl rfl (by simp) (by decide) rfl fun X hX => ?_
    (repeat (first | refine awp_seq ?_ | refine awp_block ?_ | ((first | refine awp_runG [0, 1, 2, 3, 4, 5, 13] hX ?_ | refine awp_drawnG [0, 1, 2, 3, 4, 5, 13] hX mixed ?_ | refine awp_ret ?_ | refine awp_skip ?_ | refine awp_exit ?_); (simp [go_sem]; try (refine ⟨by kernel_rfl, ?_⟩)))))
    first | refine callK_intro (r1) rfl (by simp [go_sem]) rfl ?_ | refine callT_intro (r1) rfl (by simp [go_sem]) rfl ?_
    try (simp [go_sem]; try (refine ⟨by kernel_rfl, ?_⟩))
    first | refine callG_intro (fun hg => r2) rfl (by simp [go_sem]) rfl ?_ | refine callGT_intro (fun hg => r2) rfl (by simp [go_sem]) rfl ?_
    try (simp [go_sem]; try (refine ⟨by kernel_rfl, ?_⟩))
    refine awp_cond (b := true) (by simp [go_sem]) (fun _ => ?_) (fun h => by cases h)
    (repeat (first | refine awp_seq ?_ | refine awp_block ?_ | ((first | refine awp_runG [0, 1, 2, 3, 4, 5, 13] hX ?_ | refine awp_drawnG [0, 1, 2, 3, 4, 5, 13] hX mixed ?_ | refine awp_ret ?_ | refine awp_skip ?_ | refine awp_exit ?_); (simp [go_sem]; try (refine ⟨by kernel_rfl, ?_⟩)))))
theorem rGcd_bad (s1 s2 : Int) (a b : List Int) (hla : a.length ≤ 100000) (hlb : b.length ≤ 100000) (h : ¬ (isR s1 a ∧ isR s2 b)) : Means false Tryz.prog 20 [big2 s1 a, big2 s2 b] (.tup [big2 0 [], ii 1]) := by
  have r1 := rRight_m s1 a (by omega)
  have r2 := rRight_m s2 b (by omega)
  by_cases h1 : isR s1 a
  · have h2 : ¬ isR s2 b := fun q => h ⟨h1, q⟩
    rw [decide_eq_true h1] at r1
    rw [decide_eq_false h2] at r2
    refine means_fn false 36 [.cell 4 24, .tmp 5] Tryz.func20 rfl rfl rfl (by simp) (by decide) rfl fun X hX => ?_
    (repeat (first | refine awp_seq ?_ | refine awp_block ?_ | ((first | refine awp_runG [0, 1, 2, 3, 4, 5, 6, 7, 9, 17, 25] hX ?_ | refine awp_drawnG [0, 1, 2, 3, 4, 5, 6, 7, 9, 17, 25] hX mixed ?_ | refine awp_ret ?_ | refine awp_skip ?_ | refine awp_exit ?_); (simp [go_sem]; try (refine ⟨by kernel_rfl, ?_⟩)))))
    first | refine callK_intro (r1) rfl (by simp [go_sem]) rfl ?_ | refine callT_intro (r1) rfl (by simp [go_sem]) rfl ?_
    try (simp [go_sem]; try (refine ⟨by kernel_rfl, ?_⟩))
    first | refine callG_intro (fun hg => r2) rfl (by simp [go_sem]) rfl ?_ | refine callGT_intro (fun hg => r2) rfl (by simp [go_sem]) rfl ?_
    try (simp [go_sem]; try (refine ⟨by kernel_rfl, ?_⟩))
    refine awp_cond (b := true) (by simp [go_sem]) (fun _ => ?_) (fun h => by cases h)
    (repeat (first | refine awp_seq ?_ | refine awp_block ?_ | ((first | refine awp_runG [0, 1, 2, 3, 4, 5, 6, 7, 9, 17, 25] hX ?_ | refine awp_drawnG [0, 1, 2, 3, 4, 5, 6, 7, 9, 17, 25] hX mixed ?_ | refine awp_ret ?_ | refine awp_skip ?_ | refine awp_exit ?_); (simp [go_sem]; try (refine ⟨by kernel_rfl, ?_⟩)))))
  · rw [decide_eq_false h1] at r1
    refine means_fn false 36 [.cell 4 24, .tmp 5] Tryz.func20 rfl rfl rfl (by simp) (by decide) rfl fun X hX => ?_
    (repeat (first | refine awp_seq ?_ | refine awp_block ?_ | ((first | refine awp_runG [0, 1, 2, 3, 4, 5, 6, 7, 9, 17, 25] hX ?_ | refine awp_drawnG [0, 1, 2, 3, 4, 5, 6, 7, 9, 17, 25] hX mixed ?_ | refine awp_ret ?_ | refine awp_skip ?_ | refine awp_exit ?_); (simp [go_sem]; try (refine ⟨by kernel_rfl, ?_⟩)))))
    first | refine callK_intro (r1) rfl (by simp [go_sem]) rfl ?_ | refine callT_intro (r1) rfl (by simp [go_sem]) rfl ?_
    try (simp [go_sem]; try (refine ⟨by kernel_rfl, ?_⟩))
    first | refine callG_intro (fun hg => r2) rfl (by simp [go_sem]) rfl ?_ | refine callGT_intro (fun hg => r2) rfl (by simp [go_sem]) rfl ?_
    try (simp [go_sem]; try (refine ⟨by kernel_rfl, ?_⟩))
    refine awp_cond (b := true) (by simp [go_sem]) (fun _ => ?_) (fun h => by cases h)
    (repeat (first | refine awp_seq ?_ | refine awp_block ?_ | ((first | refine awp_runG [0, 1, 2, 3, 4, 5, 6, 7, 9, 17, 25] hX ?_ | refine awp_drawnG [0, 1, 2, 3, 4, 5, 6, 7, 9, 17, 25] hX mixed ?_ | refine awp_ret ?_ | refine awp_skip ?_ | refine awp_exit ?_); (simp [go_sem]; try (refine ⟨by kernel_rfl, ?_⟩)))))
theorem rDiv_bad (s1 s2 : Int) (a b : List Int) (hla : a.length ≤ 100000) (hlb : b.length ≤ 100000) (h : ¬ (isR s1 a ∧ isR s2 b)) : Means false Tryz.prog 14 [big2 s1 a, big2 s2 b] (.tup [big2 0 [], big2 0 [], ii 1]) := by
  have r1 := rRight_m s1 a (by omega)
  have r2 := rRight_m s2 b (by omega)
  by_cases h1 : isR s1 a
  · have h2 : ¬ isR s2 b := fun q => h ⟨h1, q⟩
    rw [decide_eq_true h1] at r1
    rw [decide_eq_false h2] at r2
    refine means_fn false 65 [.cell 4 24, .cell 5 24, .tmp 6] Tryz.func14 rfl rfl rfl (by simp) (by decide) rfl fun X hX => ?_
    (repeat (first | refine awp_seq ?_ | refine awp_block ?_ | ((first | refine awp_runG [0, 1, 2, 3, 4, 5, 6, 7, 8, 16, 21, 42] hX ?_ | refine awp_drawnG [0, 1, 2, 3, 4, 5, 6, 7, 8, 16, 21, 42] hX mixed ?_ | refine awp_ret ?_ | refine awp_skip ?_ | refine awp_exit ?_); (simp [go_sem]; try (refine ⟨by kernel_rfl, ?_⟩)))))
    first | refine callK_intro (r1) rfl (by simp [go_sem]) rfl ?_ | refine callT_intro (r1) rfl (by simp [go_sem]) rfl ?_
    try (simp [go_sem]; try (refine ⟨by kernel_rfl, ?_⟩))
    first | refine callG_intro (fun hg => r2) rfl (by simp [go_sem]) rfl ?_ | refine callGT_intro (fun hg => r2) rfl (by simp [go_sem]) rfl ?_
    try (simp [go_sem]; try (refine ⟨by kernel_rfl, ?_⟩))
    refine awp_cond (b := true) (by simp [go_sem]) (fun _ => ?_) (fun h => by cases h)
    (repeat (first | refine awp_seq ?_ | refine awp_block ?_ | ((first | refine awp_runG [0, 1, 2, 3, 4, 5, 6, 7, 8, 16, 21, 42] hX ?_ | refine awp_drawnG [0, 1, 2, 3, 4, 5, 6, 7, 8, 16, 21, 42] hX mixed ?_ | refine awp_ret ?_ | refine awp_skip ?_ | refine awp_exit ?_); (simp [go_sem]; try (refine ⟨by kernel_rfl, ?_⟩)))))
  · rw [decide_eq_false h1] at r1
    refine means_fn false 65 [.cell 4 24, .cell 5 24, .tmp 6] Tryz.func14 rfl rfl rfl (by simp) (by decide) rfl fun X hX => ?_
    (repeat (first | refine awp_seq ?_ | refine awp_block ?_ | ((first | refine awp_runG [0, 1, 2, 3, 4, 5, 6, 7, 8, 16, 21, 42] hX ?_ | refine awp_drawnG [0, 1, 2, 3, 4, 5, 6, 7, 8, 16, 21, 42] hX mixed ?_ | refine awp_ret ?_ | refine awp_skip ?_ | refine awp_exit ?_); (simp [go_sem]; try (refine ⟨by kernel_rfl, ?_⟩)))))
    first | refine callK_intro (r1) rfl (by simp [go_sem]) rfl ?_ | refine callT_intro (r1) rfl (by simp [go_sem]) rfl ?_
    try (simp [go_sem]; try (refine ⟨by kernel_rfl, ?_⟩))
    first | refine callG_intro (fun hg => r2) rfl (by simp [go_sem]) rfl ?_ | refine callGT_intro (fun hg => r2) rfl (by simp [go_sem]) rfl ?_
    try (simp [go_sem]; try (refine ⟨by kernel_rfl, ?_⟩))
    refine awp_cond (b := true) (by simp [go_sem]) (fun _ => ?_) (fun h => by cases h)
    (repeat (first | refine awp_seq ?_ | refine awp_block ?_ | ((first | refine awp_runG [0, 1, 2, 3, 4, 5, 6, 7, 8, 16, 21, 42] hX ?_ | refine awp_drawnG [0, 1, 2, 3, 4, 5, 6, 7, 8, 16, 21, 42] hX mixed ?_ | refine awp_ret ?_ | refine awp_skip ?_ | refine awp_exit ?_); (simp [go_sem]; try (refine ⟨by kernel_rfl, ?_⟩)))))
theorem rCompare_bad (s1 s2 : Int) (a b : List Int) (hla : a.length ≤ 100000) (hlb : b.length ≤ 100000) (h : ¬ (isR s1 a ∧ isR s2 b)) : Means false Tryz.prog 24 [big2 s1 a, big2 s2 b] (ii 0) := by
  have r1 := rRight_m s1 a (by omega)
  have r2 := rRight_m s2 b (by omega)
  by_cases h1 : isR s1 a
  · have h2 : ¬ isR s2 b := fun q => h ⟨h1, q⟩
    rw [decide_eq_true h1] at r1
    rw [decide_eq_false h2] at r2
    refine means_fn false 37 [.tmp 4] Tryz.func24 rfl rfl rfl (by simp) (by decide) rfl fun X hX => ?_
    (repeat (first | refine awp_seq ?_ | refine awp_block ?_ | ((first | refine awp_runG [0, 1, 2, 3, 4, 17, 22, 27, 36] hX ?_ | refine awp_drawnG [0, 1, 2, 3, 4, 17, 22, 27, 36] hX mixed ?_ | refine awp_ret ?_ | refine awp_skip ?_ | refine awp_exit ?_); (simp [go_sem]; try (refine ⟨by kernel_rfl, ?_⟩)))))
    first | refine callK_intro (r1) rfl (by simp [go_sem]) rfl ?_ | refine callT_intro (r1) rfl (by simp [go_sem]) rfl ?_
    try (simp [go_sem]; try (refine ⟨by kernel_rfl, ?_⟩))
    first | refine callG_intro (fun hg => r2) rfl (by simp [go_sem]) rfl ?_ | refine callGT_intro (fun hg => r2) rfl (by simp [go_sem]) rfl ?_
    try (simp [go_sem]; try (refine ⟨by kernel_rfl, ?_⟩))
    first | refine callG_intro (fun hg => rSame_m s1 s2 a b (by omega) (by omega)) rfl (by simp [go_sem]) rfl ?_ | refine callGT_intro (fun hg => rSame_m s1 s2 a b (by omega) (by omega)) rfl (by simp [go_sem]) rfl ?_
    try (simp [go_sem]; try (refine ⟨by kernel_rfl, ?_⟩))
    refine awp_cond (b := true) (by simp [go_sem]) (fun _ => ?_) (fun h => by cases h)
    (repeat (first | refine awp_seq ?_ | refine awp_block ?_ | ((first | refine awp_runG [0, 1, 2, 3, 4, 17, 22, 27, 36] hX ?_ | refine awp_drawnG [0, 1, 2, 3, 4, 17, 22, 27, 36] hX mixed ?_ | refine awp_ret ?_ | refine awp_skip ?_ | refine awp_exit ?_); (simp [go_sem]; try (refine ⟨by kernel_rfl, ?_⟩)))))
  · rw [decide_eq_false h1] at r1
    refine means_fn false 37 [.tmp 4] Tryz.func24 rfl rfl rfl (by simp) (by decide) rfl fun X hX => ?_
    (repeat (first | refine awp_seq ?_ | refine awp_block ?_ | ((first | refine awp_runG [0, 1, 2, 3, 4, 17, 22, 27, 36] hX ?_ | refine awp_drawnG [0, 1, 2, 3, 4, 17, 22, 27, 36] hX mixed ?_ | refine awp_ret ?_ | refine awp_skip ?_ | refine awp_exit ?_); (simp [go_sem]; try (refine ⟨by kernel_rfl, ?_⟩)))))
    first | refine callK_intro (r1) rfl (by simp [go_sem]) rfl ?_ | refine callT_intro (r1) rfl (by simp [go_sem]) rfl ?_
    try (simp [go_sem]; try (refine ⟨by kernel_rfl, ?_⟩))
    first | refine callG_intro (fun hg => r2) rfl (by simp [go_sem]) rfl ?_ | refine callGT_intro (fun hg => r2) rfl (by simp [go_sem]) rfl ?_
    try (simp [go_sem]; try (refine ⟨by kernel_rfl, ?_⟩))
    first | refine callG_intro (fun hg => rSame_m s1 s2 a b (by omega) (by omega)) rfl (by simp [go_sem]) rfl ?_ | refine callGT_intro (fun hg => rSame_m s1 s2 a b (by omega) (by omega)) rfl (by simp [go_sem]) rfl ?_
    try (simp [go_sem]; try (refine ⟨by kernel_rfl, ?_⟩))
    refine awp_cond (b := true) (by simp [go_sem]) (fun _ => ?_) (fun h => by cases h)
    (repeat (first | refine awp_seq ?_ | refine awp_block ?_ | ((first | refine awp_runG [0, 1, 2, 3, 4, 17, 22, 27, 36] hX ?_ | refine awp_drawnG [0, 1, 2, 3, 4, 17, 22, 27, 36] hX mixed ?_ | refine awp_ret ?_ | refine awp_skip ?_ | refine awp_exit ?_); (simp [go_sem]; try (refine ⟨by kernel_rfl, ?_⟩)))))
theorem Neg_bad (s : Int) (a : List Int) (hla : a.length ≤ 100000) (h : ¬ isR s a) : Means false Tryz.prog 28 [big2 s a] (big2 0 []) := by
  have r1 := right_m s a (by omega)
  rw [decide_eq_false h] at r1
  refine means_fn false 14 [.cell 2 24] Tryz.func28 rfl rfl rfl (by simp) (by decide) rfl fun X hX => ?_
  (repeat (first | refine awp_seq ?_ | refine awp_block ?_ | ((first | refine awp_runG [0, 1, 2, 5] hX ?_ | refine awp_drawnG [0, 1, 2, 5] hX mixed ?_ | refine awp_ret ?_ | refine awp_skip ?_ | refine awp_exit ?_); (simp [go_sem]; try (refine ⟨by kernel_rfl, ?_⟩)))))
  first | refine callK_intro (r1) rfl (by simp [go_sem]) rfl ?_ | refine callT_intro (r1) rfl (by simp [go_sem]) rfl ?_
  try (simp [go_sem]; try (refine ⟨by kernel_rfl, ?_⟩))
  refine awp_cond (b := true) (by simp [go_sem]) (fun _ => ?_) (fun h => by cases h)
  (repeat (first | refine awp_seq ?_ | refine awp_block ?_ | ((first | refine awp_runG [0, 1, 2, 5] hX ?_ | refine awp_drawnG [0, 1, 2, 5] hX mixed ?_ | refine awp_ret ?_ | refine awp_skip ?_ | refine awp_exit ?_); (simp [go_sem]; try (refine ⟨by kernel_rfl, ?_⟩)))))
theorem rNeg_bad (s : Int) (a : List Int) (hla : a.length ≤ 100000) (h : ¬ isR s a) : Means false Tryz.prog 29 [big2 s a] (big2 0 []) := by
  have r1 := rRight_m s a (by omega)
  rw [decide_eq_false h] at r1
  refine means_fn false 13 [.cell 2 24] Tryz.func29 rfl rfl rfl (by simp) (by decide) rfl fun X hX => ?_
  (repeat (first | refine awp_seq ?_ | refine awp_block ?_ | ((first | refine awp_runG [0, 1, 2, 5] hX ?_ | refine awp_drawnG [0, 1, 2, 5] hX mixed ?_ | refine awp_ret ?_ | refine awp_skip ?_ | refine awp_exit ?_); (simp [go_sem]; try (refine ⟨by kernel_rfl, ?_⟩)))))
  first | refine callK_intro (r1) rfl (by simp [go_sem]) rfl ?_ | refine callT_intro (r1) rfl (by simp [go_sem]) rfl ?_
  try (simp [go_sem]; try (refine ⟨by kernel_rfl, ?_⟩))
  refine awp_cond (b := true) (by simp [go_sem]) (fun _ => ?_) (fun h => by cases h)
  (repeat (first | refine awp_seq ?_ | refine awp_block ?_ | ((first | refine awp_runG [0, 1, 2, 5] hX ?_ | refine awp_drawnG [0, 1, 2, 5] hX mixed ?_ | refine awp_ret ?_ | refine awp_skip ?_ | refine awp_exit ?_); (simp [go_sem]; try (refine ⟨by kernel_rfl, ?_⟩)))))
theorem Int_bad (s : Int) (a : List Int) (hla : a.length ≤ 100000) (h : ¬ isR s a) : Means false Tryz.prog 15 [big2 s a] (.tup [ii 0, bb false]) := by
  have r1 := right_m s a (by omega)
  rw [decide_eq_false h] at r1
  refine means_fn false 59 [.tmp 2, .tmp 3] Tryz.func15 rfl rfl rfl (by simp) (by decide) rfl fun X hX => ?_
  (repeat (first | refine awp_seq ?_ | refine awp_block ?_ | ((first | refine awp_runG [0, 1, 2, 3, 4, 5, 6, 15, 17, 18, 19, 20, 29, 38, 49] hX ?_ | refine awp_drawnG [0, 1, 2, 3, 4, 5, 6, 15, 17, 18, 19, 20, 29, 38, 49] hX mixed ?_ | refine awp_ret ?_ | refine awp_skip ?_ | refine awp_exit ?_); (simp [go_sem]; try (refine ⟨by kernel_rfl, ?_⟩)))))
  first | refine callK_intro (r1) rfl (by simp [go_sem]) rfl ?_ | refine callT_intro (r1) rfl (by simp [go_sem]) rfl ?_
  try (simp [go_sem]; try (refine ⟨by kernel_rfl, ?_⟩))
  refine awp_cond (b := true) (by simp [go_sem]) (fun _ => ?_) (fun h => by cases h)
  (repeat (first | refine awp_seq ?_ | refine awp_block ?_ | ((first | refine awp_runG [0, 1, 2, 3, 4, 5, 6, 15, 17, 18, 19, 20, 29, 38, 49] hX ?_ | refine awp_drawnG [0, 1, 2, 3, 4, 5, 6, 15, 17, 18, 19, 20, 29, 38, 49] hX mixed ?_ | refine awp_ret ?_ | refine awp_skip ?_ | refine awp_exit ?_); (simp [go_sem]; try (refine ⟨by kernel_rfl, ?_⟩)))))
theorem rInt_bad (s : Int) (a : List Int) (hla : a.length ≤ 100000) (h : ¬ isR s a) : Means false Tryz.prog 16 [big2 s a] (.tup [ii 0, bb false]) := by
  have r1 := rRight_m s a (by omega)
  rw [decide_eq_false h] at r1
  refine means_fn false 41 [.tmp 2, .tmp 3] Tryz.func16 rfl rfl rfl (by simp) (by decide) rfl fun X hX => ?_
  (repeat (first | refine awp_seq ?_ | refine awp_block ?_ | ((first | refine awp_runG [0, 1, 2, 3, 4, 5, 6, 9, 20, 26] hX ?_ | refine awp_drawnG [0, 1, 2, 3, 4, 5, 6, 9, 20, 26] hX mixed ?_ | refine awp_ret ?_ | refine awp_skip ?_ | refine awp_exit ?_); (simp [go_sem]; try (refine ⟨by kernel_rfl, ?_⟩)))))
  first | refine callK_intro (r1) rfl (by simp [go_sem]) rfl ?_ | refine callT_intro (r1) rfl (by simp [go_sem]) rfl ?_
  try (simp [go_sem]; try (refine ⟨by kernel_rfl, ?_⟩))
  refine awp_cond (b := true) (by simp [go_sem]) (fun _ => ?_) (fun h => by cases h)
  (repeat (first | refine awp_seq ?_ | refine awp_block ?_ | ((first | refine awp_runG [0, 1, 2, 3, 4, 5, 6, 9, 20, 26] hX ?_ | refine awp_drawnG [0, 1, 2, 3, 4, 5, 6, 9, 20, 26] hX mixed ?_ | refine awp_ret ?_ | refine awp_skip ?_ | refine awp_exit ?_); (simp [go_sem]; try (refine ⟨by kernel_rfl, ?_⟩)))))
theorem rText_bad (s : Int) (a : List Int) (hla : a.length ≤ 100000) (h : ¬ isR s a) : Means false Tryz.prog 27 [big2 s a] (.v (.string ⟨#[]⟩)) := by
  have r1 := rRight_m s a (by omega)
  rw [decide_eq_false h] at r1
  refine means_fn false 36 [.tmp 2] Tryz.func27 rfl rfl rfl (by simp) (by decide) rfl fun X hX => ?_
  (repeat (first | refine awp_seq ?_ | refine awp_block ?_ | ((first | refine awp_runG [0, 1, 2, 3, 4, 5, 6, 9, 12, 17, 32] hX ?_ | refine awp_drawnG [0, 1, 2, 3, 4, 5, 6, 9, 12, 17, 32] hX mixed ?_ | refine awp_ret ?_ | refine awp_skip ?_ | refine awp_exit ?_); (simp [go_sem]; try (refine ⟨by kernel_rfl, ?_⟩)))))
  first | refine callK_intro (r1) rfl (by simp [go_sem]) rfl ?_ | refine callT_intro (r1) rfl (by simp [go_sem]) rfl ?_
  try (simp [go_sem]; try (refine ⟨by kernel_rfl, ?_⟩))
  refine awp_cond (b := true) (by simp [go_sem]) (fun _ => ?_) (fun h => by cases h)
  (repeat (first | refine awp_seq ?_ | refine awp_block ?_ | ((first | refine awp_runG [0, 1, 2, 3, 4, 5, 6, 9, 12, 17, 32] hX ?_ | refine awp_drawnG [0, 1, 2, 3, 4, 5, 6, 9, 12, 17, 32] hX mixed ?_ | refine awp_ret ?_ | refine awp_skip ?_ | refine awp_exit ?_); (simp [go_sem]; try (refine ⟨by kernel_rfl, ?_⟩)))))
theorem Sub_bad2 (s1 s2 : Int) (a b : List Int) (hlb : b.length ≤ 100000) (h : ¬ isR s2 b) : Means false Tryz.prog 8 [big2 s1 a, big2 s2 b] (.tup [big2 0 [], ii 1]) := by
  have r1 := right_m s2 b (by omega)
  rw [decide_eq_false h] at r1
  refine means_fn false 19 [.cell 4 24, .tmp 5] Tryz.func8 rfl rfl rfl (by simp) (by decide) rfl fun X hX => ?_
  (repeat (first | refine awp_seq ?_ | refine awp_block ?_ | ((first | refine awp_runG [0, 1, 2, 3, 4, 5, 8] hX ?_ | refine awp_drawnG [0, 1, 2, 3, 4, 5, 8] hX mixed ?_ | refine awp_ret ?_ | refine awp_skip ?_ | refine awp_exit ?_); (simp [go_sem]; try (refine ⟨by kernel_rfl, ?_⟩)))))
  first | refine callK_intro (r1) rfl (by simp [go_sem]) rfl ?_ | refine callT_intro (r1) rfl (by simp [go_sem]) rfl ?_
  try (simp [go_sem]; try (refine ⟨by kernel_rfl, ?_⟩))
  refine awp_cond (b := true) (by simp [go_sem]) (fun _ => ?_) (fun h => by cases h)
  (repeat (first | refine awp_seq ?_ | refine awp_block ?_ | ((first | refine awp_runG [0, 1, 2, 3, 4, 5, 8] hX ?_ | refine awp_drawnG [0, 1, 2, 3, 4, 5, 8] hX mixed ?_ | refine awp_ret ?_ | refine awp_skip ?_ | refine awp_exit ?_); (simp [go_sem]; try (refine ⟨by kernel_rfl, ?_⟩)))))
  first | refine callK_intro (checked_f) rfl (by simp [go_sem]) rfl ?_ | refine callT_intro (checked_f) rfl (by simp [go_sem]) rfl ?_
  try (simp [go_sem]; try (refine ⟨by kernel_rfl, ?_⟩))
  (repeat (first | refine awp_seq ?_ | refine awp_block ?_ | ((first | refine awp_runG [0, 1, 2, 3, 4, 5, 8] hX ?_ | refine awp_drawnG [0, 1, 2, 3, 4, 5, 8] hX mixed ?_ | refine awp_ret ?_ | refine awp_skip ?_ | refine awp_exit ?_); (simp [go_sem]; try (refine ⟨by kernel_rfl, ?_⟩)))))
theorem Sub_bad1 (s1 : Int) (a : List Int) (w : Int) (hla : a.length ≤ 100000) (hw : rz w) (h : ¬ isR s1 a) : Means false Tryz.prog 8 [big2 s1 a, bigZ w] (.tup [big2 0 [], ii 1]) := by
  have hlw := len60 (rz_neg hw)
  have r1 := right_m (sg w) (dg (ab w)) (by have := len60 hw; omega)
  rw [decide_eq_true (isR_of hw)] at r1
  have c2 := Add_bad s1 (sg (-w)) a (dg (ab (-w))) hla (by omega) (fun q => h q.1)
  refine means_fn false 19 [.cell 4 24, .tmp 5] Tryz.func8 rfl rfl rfl (by simp) (by decide) rfl fun X hX => ?_
  (repeat (first | refine awp_seq ?_ | refine awp_block ?_ | ((first | refine awp_runG [0, 1, 2, 3, 4, 5, 8] hX ?_ | refine awp_drawnG [0, 1, 2, 3, 4, 5, 8] hX mixed ?_ | refine awp_ret ?_ | refine awp_skip ?_ | refine awp_exit ?_); (simp [go_sem]; try (refine ⟨by kernel_rfl, ?_⟩)))))
  first | refine callK_intro (r1) rfl (by simp [go_sem]) rfl ?_ | refine callT_intro (r1) rfl (by simp [go_sem]) rfl ?_
  try (simp [go_sem]; try (refine ⟨by kernel_rfl, ?_⟩))
  refine awp_cond (b := false) (by simp [go_sem]) (fun h => by cases h) (fun _ => ?_)
  (repeat (first | refine awp_seq ?_ | refine awp_block ?_ | ((first | refine awp_runG [0, 1, 2, 3, 4, 5, 8] hX ?_ | refine awp_drawnG [0, 1, 2, 3, 4, 5, 8] hX mixed ?_ | refine awp_ret ?_ | refine awp_skip ?_ | refine awp_exit ?_); (simp [go_sem]; try (refine ⟨by kernel_rfl, ?_⟩)))))
  first | refine callK_intro (Neg_m w hw) rfl (by simp [go_sem]) rfl ?_ | refine callT_intro (Neg_m w hw) rfl (by simp [go_sem]) rfl ?_
  try (simp [go_sem]; try (refine ⟨by kernel_rfl, ?_⟩))
  first | refine callK_intro (c2) rfl (by simp [go_sem]) rfl ?_ | refine callT_intro (c2) rfl (by simp [go_sem]) rfl ?_
  try (simp [go_sem]; try (refine ⟨by kernel_rfl, ?_⟩))
  try (repeat refine And.intro (by first | omega | (unfold maxLen; omega) | kernel_rfl | (refine ⟨by first | omega | (unfold maxLen; omega), by first | omega | (unfold maxLen; omega)⟩) | grind) ?_)
  (repeat (first | refine awp_seq ?_ | refine awp_block ?_ | ((first | refine awp_runG [0, 1, 2, 3, 4, 5, 8] hX ?_ | refine awp_drawnG [0, 1, 2, 3, 4, 5, 8] hX mixed ?_ | refine awp_ret ?_ | refine awp_skip ?_ | refine awp_exit ?_); (simp [go_sem]; try (refine ⟨by kernel_rfl, ?_⟩)))))
theorem Sub_bad (s1 s2 : Int) (a b : List Int) (hla : a.length ≤ 100000) (hlb : b.length ≤ 100000) (h : ¬ (isR s1 a ∧ isR s2 b)) : Means false Tryz.prog 8 [big2 s1 a, big2 s2 b] (.tup [big2 0 [], ii 1]) := by
  by_cases h2 : isR s2 b
  · obtain ⟨w, hw, rfl, rfl⟩ := isR_to h2
    exact Sub_bad1 s1 a w hla hw (fun q => h ⟨q, h2⟩)
  · exact Sub_bad2 s1 s2 a b hlb h2
theorem rSub_bad2 (s1 s2 : Int) (a b : List Int) (hlb : b.length ≤ 100000) (h : ¬ isR s2 b) : Means false Tryz.prog 9 [big2 s1 a, big2 s2 b] (.tup [big2 0 [], ii 1]) := by
  have r1 := rRight_m s2 b (by omega)
  rw [decide_eq_false h] at r1
  refine means_fn false 21 [.cell 4 24, .tmp 5] Tryz.func9 rfl rfl rfl (by simp) (by decide) rfl fun X hX => ?_
  (repeat (first | refine awp_seq ?_ | refine awp_block ?_ | ((first | refine awp_runG [0, 1, 2, 3, 4, 5, 6, 7, 10] hX ?_ | refine awp_drawnG [0, 1, 2, 3, 4, 5, 6, 7, 10] hX mixed ?_ | refine awp_ret ?_ | refine awp_skip ?_ | refine awp_exit ?_); (simp [go_sem]; try (refine ⟨by kernel_rfl, ?_⟩)))))
  first | refine callK_intro (r1) rfl (by simp [go_sem]) rfl ?_ | refine callT_intro (r1) rfl (by simp [go_sem]) rfl ?_
  try (simp [go_sem]; try (refine ⟨by kernel_rfl, ?_⟩))
  refine awp_cond (b := true) (by simp [go_sem]) (fun _ => ?_) (fun h => by cases h)
  (repeat (first | refine awp_seq ?_ | refine awp_block ?_ | ((first | refine awp_runG [0, 1, 2, 3, 4, 5, 6, 7, 10] hX ?_ | refine awp_drawnG [0, 1, 2, 3, 4, 5, 6, 7, 10] hX mixed ?_ | refine awp_ret ?_ | refine awp_skip ?_ | refine awp_exit ?_); (simp [go_sem]; try (refine ⟨by kernel_rfl, ?_⟩)))))
theorem rSub_bad1 (s1 : Int) (a : List Int) (w : Int) (hla : a.length ≤ 100000) (hw : rz w) (h : ¬ isR s1 a) : Means false Tryz.prog 9 [big2 s1 a, bigZ w] (.tup [big2 0 [], ii 1]) := by
  have hlw := len60 (rz_neg hw)
  have r1 := rRight_m (sg w) (dg (ab w)) (by have := len60 hw; omega)
  rw [decide_eq_true (isR_of hw)] at r1
  have c2 := rAdd_bad s1 (sg (-w)) a (dg (ab (-w))) hla (by omega) (fun q => h q.1)
  refine means_fn false 21 [.cell 4 24, .tmp 5] Tryz.func9 rfl rfl rfl (by simp) (by decide) rfl fun X hX => ?_
  (repeat (first | refine awp_seq ?_ | refine awp_block ?_ | ((first | refine awp_runG [0, 1, 2, 3, 4, 5, 6, 7, 10] hX ?_ | refine awp_drawnG [0, 1, 2, 3, 4, 5, 6, 7, 10] hX mixed ?_ | refine awp_ret ?_ | refine awp_skip ?_ | refine awp_exit ?_); (simp [go_sem]; try (refine ⟨by kernel_rfl, ?_⟩)))))
  first | refine callK_intro (r1) rfl (by simp [go_sem]) rfl ?_ | refine callT_intro (r1) rfl (by simp [go_sem]) rfl ?_
  try (simp [go_sem]; try (refine ⟨by kernel_rfl, ?_⟩))
  refine awp_cond (b := false) (by simp [go_sem]) (fun h => by cases h) (fun _ => ?_)
  (repeat (first | refine awp_seq ?_ | refine awp_block ?_ | ((first | refine awp_runG [0, 1, 2, 3, 4, 5, 6, 7, 10] hX ?_ | refine awp_drawnG [0, 1, 2, 3, 4, 5, 6, 7, 10] hX mixed ?_ | refine awp_ret ?_ | refine awp_skip ?_ | refine awp_exit ?_); (simp [go_sem]; try (refine ⟨by kernel_rfl, ?_⟩)))))
  first | refine callK_intro (rNeg_m w hw) rfl (by simp [go_sem]) rfl ?_ | refine callT_intro (rNeg_m w hw) rfl (by simp [go_sem]) rfl ?_
  try (simp [go_sem]; try (refine ⟨by kernel_rfl, ?_⟩))
  first | refine callK_intro (c2) rfl (by simp [go_sem]) rfl ?_ | refine callT_intro (c2) rfl (by simp [go_sem]) rfl ?_
  try (simp [go_sem]; try (refine ⟨by kernel_rfl, ?_⟩))
  try (repeat refine And.intro (by first | omega | (unfold maxLen; omega) | kernel_rfl | (refine ⟨by first | omega | (unfold maxLen; omega), by first | omega | (unfold maxLen; omega)⟩) | grind) ?_)
  (repeat (first | refine awp_seq ?_ | refine awp_block ?_ | ((first | refine awp_runG [0, 1, 2, 3, 4, 5, 6, 7, 10] hX ?_ | refine awp_drawnG [0, 1, 2, 3, 4, 5, 6, 7, 10] hX mixed ?_ | refine awp_ret ?_ | refine awp_skip ?_ | refine awp_exit ?_); (simp [go_sem]; try (refine ⟨by kernel_rfl, ?_⟩)))))
theorem rSub_bad (s1 s2 : Int) (a b : List Int) (hla : a.length ≤ 100000) (hlb : b.length ≤ 100000) (h : ¬ (isR s1 a ∧ isR s2 b)) : Means false Tryz.prog 9 [big2 s1 a, big2 s2 b] (.tup [big2 0 [], ii 1]) := by
  by_cases h2 : isR s2 b
  · obtain ⟨w, hw, rfl, rfl⟩ := isR_to h2
    exact rSub_bad1 s1 a w hla hw (fun q => h ⟨q, h2⟩)
  · exact rSub_bad2 s1 s2 a b hlb h2

end Go.Proofs.YtlejmkmcghbdiaaGreatDoor
