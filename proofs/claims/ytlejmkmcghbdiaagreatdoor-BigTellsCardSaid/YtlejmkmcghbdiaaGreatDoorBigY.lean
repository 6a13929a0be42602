/-
  Layer 4: the documentation's examples.
-/
import Derived.Test.YtlejmkmcghbdiaaGreatDoorBigX
set_option linter.all false
namespace Go.Proofs.YtlejmkmcghbdiaaGreatDoor
open Go.RowKit Go.Ab
attribute [local irreducible] AWP Go.Ab.Sub Means MeansH CallK CallG CallT CallGT

theorem pair_m (z w e q r : Int) (hz : rz z) (hw : rz w) (hq : -9223372036854775808 ≤ q ∧ q ≤ 9223372036854775807) (hr : -9223372036854775808 ≤ r ∧ r ≤ 9223372036854775807) :
    Means false Tryz.prog 32 [bigZ z, bigZ w, ii e, ii q, ii r] (bb (decide (e = 0 ∧ z = q ∧ w = r))) := by
  refine means_fn false 25 [.tmp 10] Tryz.func32 rfl rfl rfl (by simp) (by decide) rfl fun X hX => ?_
  by_cases he : e = 0
  · subst he
    (repeat (first | refine awp_seq ?_ | refine awp_block ?_ | ((first | refine awp_runG [0, 1, 2, 3, 4, 5, 6, 10] hX ?_ | refine awp_drawnG [0, 1, 2, 3, 4, 5, 6, 10] hX mixed ?_ | refine awp_ret ?_ | refine awp_skip ?_ | refine awp_exit ?_); (simp [go_sem]; try (refine ⟨by kernel_rfl, ?_⟩)))))
    first | refine callG_intro (fun hg => Of_m q hq) rfl (by simp [go_sem]) rfl ?_ | refine callGT_intro (fun hg => Of_m q hq) rfl (by simp [go_sem]) rfl ?_
    try (simp [go_sem]; try (refine ⟨by kernel_rfl, ?_⟩))
    first | refine callG_intro (fun hg => SameZ_m z q hz (rz_i hq)) rfl (by simp [go_sem]) rfl ?_ | refine callGT_intro (fun hg => SameZ_m z q hz (rz_i hq)) rfl (by simp [go_sem]) rfl ?_
    try (simp [go_sem]; try (refine ⟨by kernel_rfl, ?_⟩))
    by_cases h1 : z = q
    · (repeat (first | refine awp_seq ?_ | refine awp_block ?_ | ((first | refine awp_runG [0, 1, 2, 3, 4, 5, 6, 10] hX ?_ | refine awp_drawnG [0, 1, 2, 3, 4, 5, 6, 10] hX mixed ?_ | refine awp_ret ?_ | refine awp_skip ?_ | refine awp_exit ?_); (simp [go_sem, h1]; try (refine ⟨by kernel_rfl, ?_⟩)))))
      first | refine callG_intro (fun hg => Of_m r hr) rfl (by simp [go_sem]) rfl ?_ | refine callGT_intro (fun hg => Of_m r hr) rfl (by simp [go_sem]) rfl ?_
      try (simp [go_sem, h1]; try (refine ⟨by kernel_rfl, ?_⟩))
      first | refine callG_intro (fun hg => SameZ_m w r hw (rz_i hr)) rfl (by simp [go_sem]) rfl ?_ | refine callGT_intro (fun hg => SameZ_m w r hw (rz_i hr)) rfl (by simp [go_sem]) rfl ?_
      try (simp [go_sem, h1]; try (refine ⟨by kernel_rfl, ?_⟩))
      (repeat (first | refine awp_seq ?_ | refine awp_block ?_ | ((first | refine awp_runG [0, 1, 2, 3, 4, 5, 6, 10] hX ?_ | refine awp_drawnG [0, 1, 2, 3, 4, 5, 6, 10] hX mixed ?_ | refine awp_ret ?_ | refine awp_skip ?_ | refine awp_exit ?_); (simp [go_sem, h1]; try (refine ⟨by kernel_rfl, ?_⟩)))))
    · (repeat (first | refine awp_seq ?_ | refine awp_block ?_ | ((first | refine awp_runG [0, 1, 2, 3, 4, 5, 6, 10] hX ?_ | refine awp_drawnG [0, 1, 2, 3, 4, 5, 6, 10] hX mixed ?_ | refine awp_ret ?_ | refine awp_skip ?_ | refine awp_exit ?_); (simp [go_sem, h1]; try (refine ⟨by kernel_rfl, ?_⟩)))))
      first | refine callG_intro (fun hg => Of_m r hr) rfl (by simp [go_sem]) rfl ?_ | refine callGT_intro (fun hg => Of_m r hr) rfl (by simp [go_sem]) rfl ?_
      try (simp [go_sem, h1]; try (refine ⟨by kernel_rfl, ?_⟩))
      first | refine callG_intro (fun hg => SameZ_m w r hw (rz_i hr)) rfl (by simp [go_sem]) rfl ?_ | refine callGT_intro (fun hg => SameZ_m w r hw (rz_i hr)) rfl (by simp [go_sem]) rfl ?_
      try (simp [go_sem, h1]; try (refine ⟨by kernel_rfl, ?_⟩))
      (repeat (first | refine awp_seq ?_ | refine awp_block ?_ | ((first | refine awp_runG [0, 1, 2, 3, 4, 5, 6, 10] hX ?_ | refine awp_drawnG [0, 1, 2, 3, 4, 5, 6, 10] hX mixed ?_ | refine awp_ret ?_ | refine awp_skip ?_ | refine awp_exit ?_); (simp [go_sem, h1]; try (refine ⟨by kernel_rfl, ?_⟩)))))
  · (repeat (first | refine awp_seq ?_ | refine awp_block ?_ | ((first | refine awp_runG [0, 1, 2, 3, 4, 5, 6, 10] hX ?_ | refine awp_drawnG [0, 1, 2, 3, 4, 5, 6, 10] hX mixed ?_ | refine awp_ret ?_ | refine awp_skip ?_ | refine awp_exit ?_); (simp [go_sem, he]; try (refine ⟨by kernel_rfl, ?_⟩)))))
    first | refine callG_intro (fun hg => Of_m q hq) rfl (by simp [go_sem]) rfl ?_ | refine callGT_intro (fun hg => Of_m q hq) rfl (by simp [go_sem]) rfl ?_
    try (simp [go_sem, he]; try (refine ⟨by kernel_rfl, ?_⟩))
    first | refine callG_intro (fun hg => SameZ_m z q hz (rz_i hq)) rfl (by simp [go_sem]) rfl ?_ | refine callGT_intro (fun hg => SameZ_m z q hz (rz_i hq)) rfl (by simp [go_sem]) rfl ?_
    try (simp [go_sem, he]; try (refine ⟨by kernel_rfl, ?_⟩))
    first | refine callG_intro (fun hg => Of_m r hr) rfl (by simp [go_sem]) rfl ?_ | refine callGT_intro (fun hg => Of_m r hr) rfl (by simp [go_sem]) rfl ?_
    try (simp [go_sem, he]; try (refine ⟨by kernel_rfl, ?_⟩))
    first | refine callG_intro (fun hg => SameZ_m w r hw (rz_i hr)) rfl (by simp [go_sem]) rfl ?_ | refine callGT_intro (fun hg => SameZ_m w r hw (rz_i hr)) rfl (by simp [go_sem]) rfl ?_
    try (simp [go_sem, he]; try (refine ⟨by kernel_rfl, ?_⟩))
    (repeat (first | refine awp_seq ?_ | refine awp_block ?_ | ((first | refine awp_runG [0, 1, 2, 3, 4, 5, 6, 10] hX ?_ | refine awp_drawnG [0, 1, 2, 3, 4, 5, 6, 10] hX mixed ?_ | refine awp_ret ?_ | refine awp_skip ?_ | refine awp_exit ?_); (simp [go_sem, he]; try (refine ⟨by kernel_rfl, ?_⟩)))))

theorem pair_t {q r : Int} (hq : -9223372036854775808 ≤ q ∧ q ≤ 9223372036854775807) (hr : -9223372036854775808 ≤ r ∧ r ≤ 9223372036854775807) :
    Means false Tryz.prog 32 [bigZ q, bigZ r, ii 0, ii q, ii r] (bb true) := by
  have := pair_m q r 0 q r (rz_i hq) (rz_i hr) hq hr
  rwa [decide_eq_true ⟨rfl, rfl, rfl⟩] at this
set_option maxHeartbeats 4000000 in
set_option maxRecDepth 20000 in
theorem small_m : Means false Tryz.prog 4 [] (bb true) := by
  have c1 : bigZ 1152921504606846976 = big2 1 [0, 0, 0, 1] := rfl
  have c2 : bigZ 9223372036854775808 = big2 1 [0, 0, 0, 8] := rfl
  have c3 : bigZ 1048577 = big2 1 [1, 1] := rfl
  have ht : txt (-9999999999800000000001) = [45, 57, 57, 57, 57, 57, 57, 57, 57, 57, 57, 56, 48, 48, 48, 48, 48, 48, 48, 48, 48, 48, 49] := by decide +kernel
  have hI1 : Means false Tryz.prog 15 [big2 1 [0, 0, 0, 8]] (.tup [ii 0, bb false]) := by
    have := Int_m 9223372036854775808 (rz_c (by decide))
    rwa [c2, show inI 9223372036854775808 = false by decide, if_neg (by decide)] at this
  have hN : Means false Tryz.prog 28 [big2 1 [0, 0, 0, 8]] (bigZ (-9223372036854775808)) := by
    have := Neg_m 9223372036854775808 (rz_c (by decide))
    rwa [c2] at this
  have hI2 : Means false Tryz.prog 15 [bigZ (-9223372036854775808)] (.tup [ii (-9223372036854775808), bb true]) := by
    have := Int_m (-9223372036854775808) (rz_c (by decide))
    rwa [show inI (-9223372036854775808) = true by decide, if_pos (by decide)] at this
  have hS1 : Means false Tryz.prog 12 [bigZ 1048577, big2 1 [1, 1]] (bb true) := by
    have := RSame_m 1048577 1048577 (rz_c (by decide)) (rz_c (by decide))
    rw [decide_eq_true rfl] at this
    exact this
  have hT : Means false Tryz.prog 26 [bigZ (-9999999999800000000001)] (sb [45, 57, 57, 57, 57, 57, 57, 57, 57, 57, 57, 56, 48, 48, 48, 48, 48, 48, 48, 48, 48, 48, 49]) := by
    have := Text_m (-9999999999800000000001) (rz_c (by decide))
    rwa [ht] at this
  refine means_fn false 167 [.tmp 0] Tryz.func4 rfl rfl rfl (by simp) (by decide) rfl fun X hX => ?_
  (repeat (first | refine awp_seq ?_ | refine awp_block ?_ | ((first | refine awp_runG [0, 1, 2, 3, 4, 5, 6, 7, 8, 9, 10, 11, 12, 13, 14, 15, 16, 18, 20, 22, 23, 25, 26, 27, 28] hX ?_ | refine awp_drawnG [0, 1, 2, 3, 4, 5, 6, 7, 8, 9, 10, 11, 12, 13, 14, 15, 16, 18, 20, 22, 23, 25, 26, 27, 28] hX mixed ?_ | refine awp_ret ?_ | refine awp_skip ?_ | refine awp_exit ?_); (simp [go_sem]; try (refine ⟨by kernel_rfl, ?_⟩)))))
  first | refine callK_intro (Of_m 1048577 (by decide)) rfl (by simp [go_sem]) rfl ?_ | refine callT_intro (Of_m 1048577 (by decide)) rfl (by simp [go_sem]) rfl ?_
  try (simp [go_sem]; try (refine ⟨by kernel_rfl, ?_⟩))
  (repeat (first | refine awp_seq ?_ | refine awp_block ?_ | ((first | refine awp_runG [0, 1, 2, 3, 4, 5, 6, 7, 8, 9, 10, 11, 12, 13, 14, 15, 16, 18, 20, 22, 23, 25, 26, 27, 28] hX ?_ | refine awp_drawnG [0, 1, 2, 3, 4, 5, 6, 7, 8, 9, 10, 11, 12, 13, 14, 15, 16, 18, 20, 22, 23, 25, 26, 27, 28] hX mixed ?_ | refine awp_ret ?_ | refine awp_skip ?_ | refine awp_exit ?_); (simp [go_sem]; try (refine ⟨by kernel_rfl, ?_⟩)))))
  first | refine callK_intro (Of_m (-99999999999) (by decide)) rfl (by simp [go_sem]) rfl ?_ | refine callT_intro (Of_m (-99999999999) (by decide)) rfl (by simp [go_sem]) rfl ?_
  try (simp [go_sem]; try (refine ⟨by kernel_rfl, ?_⟩))
  first | refine callK_intro (Of_m 99999999999 (by decide)) rfl (by simp [go_sem]) rfl ?_ | refine callT_intro (Of_m 99999999999 (by decide)) rfl (by simp [go_sem]) rfl ?_
  try (simp [go_sem]; try (refine ⟨by kernel_rfl, ?_⟩))
  first | refine callK_intro (Mul_ok (z := -99999999999) (w := 99999999999) (p := -9999999999800000000001) (rz_c (by decide)) (rz_c (by decide)) (rz_c (by decide)) (by decide)) rfl (by simp [go_sem]) rfl ?_ | refine callT_intro (Mul_ok (z := -99999999999) (w := 99999999999) (p := -9999999999800000000001) (rz_c (by decide)) (rz_c (by decide)) (rz_c (by decide)) (by decide)) rfl (by simp [go_sem]) rfl ?_
  try (simp [go_sem]; try (refine ⟨by kernel_rfl, ?_⟩))
  (repeat (first | refine awp_seq ?_ | refine awp_block ?_ | ((first | refine awp_runG [0, 1, 2, 3, 4, 5, 6, 7, 8, 9, 10, 11, 12, 13, 14, 15, 16, 18, 20, 22, 23, 25, 26, 27, 28] hX ?_ | refine awp_drawnG [0, 1, 2, 3, 4, 5, 6, 7, 8, 9, 10, 11, 12, 13, 14, 15, 16, 18, 20, 22, 23, 25, 26, 27, 28] hX mixed ?_ | refine awp_ret ?_ | refine awp_skip ?_ | refine awp_exit ?_); (simp [go_sem]; try (refine ⟨by kernel_rfl, ?_⟩)))))
  first | refine callK_intro (Of_m (-7) (by decide)) rfl (by simp [go_sem]) rfl ?_ | refine callT_intro (Of_m (-7) (by decide)) rfl (by simp [go_sem]) rfl ?_
  try (simp [go_sem]; try (refine ⟨by kernel_rfl, ?_⟩))
  first | refine callK_intro (Of_m (2) (by decide)) rfl (by simp [go_sem]) rfl ?_ | refine callT_intro (Of_m (2) (by decide)) rfl (by simp [go_sem]) rfl ?_
  try (simp [go_sem]; try (refine ⟨by kernel_rfl, ?_⟩))
  first | refine callK_intro (Div_ok (z := -7) (w := 2) (q := -4) (r := 1) (rz_c (by decide)) (rz_c (by decide)) (by decide) (by decide) (by decide)) rfl (by simp [go_sem]) rfl ?_ | refine callT_intro (Div_ok (z := -7) (w := 2) (q := -4) (r := 1) (rz_c (by decide)) (rz_c (by decide)) (by decide) (by decide) (by decide)) rfl (by simp [go_sem]) rfl ?_
  try (simp [go_sem]; try (refine ⟨by kernel_rfl, ?_⟩))
  (repeat (first | refine awp_seq ?_ | refine awp_block ?_ | ((first | refine awp_runG [0, 1, 2, 3, 4, 5, 6, 7, 8, 9, 10, 11, 12, 13, 14, 15, 16, 18, 20, 22, 23, 25, 26, 27, 28] hX ?_ | refine awp_drawnG [0, 1, 2, 3, 4, 5, 6, 7, 8, 9, 10, 11, 12, 13, 14, 15, 16, 18, 20, 22, 23, 25, 26, 27, 28] hX mixed ?_ | refine awp_ret ?_ | refine awp_skip ?_ | refine awp_exit ?_); (simp [go_sem]; try (refine ⟨by kernel_rfl, ?_⟩)))))
  first | refine callK_intro (Of_m (7) (by decide)) rfl (by simp [go_sem]) rfl ?_ | refine callT_intro (Of_m (7) (by decide)) rfl (by simp [go_sem]) rfl ?_
  try (simp [go_sem]; try (refine ⟨by kernel_rfl, ?_⟩))
  first | refine callK_intro (Of_m (-2) (by decide)) rfl (by simp [go_sem]) rfl ?_ | refine callT_intro (Of_m (-2) (by decide)) rfl (by simp [go_sem]) rfl ?_
  try (simp [go_sem]; try (refine ⟨by kernel_rfl, ?_⟩))
  first | refine callK_intro (Div_ok (z := 7) (w := -2) (q := -4) (r := -1) (rz_c (by decide)) (rz_c (by decide)) (by decide) (by decide) (by decide)) rfl (by simp [go_sem]) rfl ?_ | refine callT_intro (Div_ok (z := 7) (w := -2) (q := -4) (r := -1) (rz_c (by decide)) (rz_c (by decide)) (by decide) (by decide) (by decide)) rfl (by simp [go_sem]) rfl ?_
  try (simp [go_sem]; try (refine ⟨by kernel_rfl, ?_⟩))
  (repeat (first | refine awp_seq ?_ | refine awp_block ?_ | ((first | refine awp_runG [0, 1, 2, 3, 4, 5, 6, 7, 8, 9, 10, 11, 12, 13, 14, 15, 16, 18, 20, 22, 23, 25, 26, 27, 28] hX ?_ | refine awp_drawnG [0, 1, 2, 3, 4, 5, 6, 7, 8, 9, 10, 11, 12, 13, 14, 15, 16, 18, 20, 22, 23, 25, 26, 27, 28] hX mixed ?_ | refine awp_ret ?_ | refine awp_skip ?_ | refine awp_exit ?_); (simp [go_sem]; try (refine ⟨by kernel_rfl, ?_⟩)))))
  first | refine callK_intro (Of_m (-7) (by decide)) rfl (by simp [go_sem]) rfl ?_ | refine callT_intro (Of_m (-7) (by decide)) rfl (by simp [go_sem]) rfl ?_
  try (simp [go_sem]; try (refine ⟨by kernel_rfl, ?_⟩))
  first | refine callK_intro (Of_m (-2) (by decide)) rfl (by simp [go_sem]) rfl ?_ | refine callT_intro (Of_m (-2) (by decide)) rfl (by simp [go_sem]) rfl ?_
  try (simp [go_sem]; try (refine ⟨by kernel_rfl, ?_⟩))
  first | refine callK_intro (Div_ok (z := -7) (w := -2) (q := 3) (r := -1) (rz_c (by decide)) (rz_c (by decide)) (by decide) (by decide) (by decide)) rfl (by simp [go_sem]) rfl ?_ | refine callT_intro (Div_ok (z := -7) (w := -2) (q := 3) (r := -1) (rz_c (by decide)) (rz_c (by decide)) (by decide) (by decide) (by decide)) rfl (by simp [go_sem]) rfl ?_
  try (simp [go_sem]; try (refine ⟨by kernel_rfl, ?_⟩))
  (repeat (first | refine awp_seq ?_ | refine awp_block ?_ | ((first | refine awp_runG [0, 1, 2, 3, 4, 5, 6, 7, 8, 9, 10, 11, 12, 13, 14, 15, 16, 18, 20, 22, 23, 25, 26, 27, 28] hX ?_ | refine awp_drawnG [0, 1, 2, 3, 4, 5, 6, 7, 8, 9, 10, 11, 12, 13, 14, 15, 16, 18, 20, 22, 23, 25, 26, 27, 28] hX mixed ?_ | refine awp_ret ?_ | refine awp_skip ?_ | refine awp_exit ?_); (simp [go_sem]; try (refine ⟨by kernel_rfl, ?_⟩)))))
  first | refine callK_intro (Of_m (-12) (by decide)) rfl (by simp [go_sem]) rfl ?_ | refine callT_intro (Of_m (-12) (by decide)) rfl (by simp [go_sem]) rfl ?_
  try (simp [go_sem]; try (refine ⟨by kernel_rfl, ?_⟩))
  first | refine callK_intro (Of_m (18) (by decide)) rfl (by simp [go_sem]) rfl ?_ | refine callT_intro (Of_m (18) (by decide)) rfl (by simp [go_sem]) rfl ?_
  try (simp [go_sem]; try (refine ⟨by kernel_rfl, ?_⟩))
  first | refine callK_intro (Gcd_ok (z := -12) (w := 18) (g := 6) (rz_c (by decide)) (rz_c (by decide)) (by decide)) rfl (by simp [go_sem]) rfl ?_ | refine callT_intro (Gcd_ok (z := -12) (w := 18) (g := 6) (rz_c (by decide)) (rz_c (by decide)) (by decide)) rfl (by simp [go_sem]) rfl ?_
  try (simp [go_sem]; try (refine ⟨by kernel_rfl, ?_⟩))
  (repeat (first | refine awp_seq ?_ | refine awp_block ?_ | ((first | refine awp_runG [0, 1, 2, 3, 4, 5, 6, 7, 8, 9, 10, 11, 12, 13, 14, 15, 16, 18, 20, 22, 23, 25, 26, 27, 28] hX ?_ | refine awp_drawnG [0, 1, 2, 3, 4, 5, 6, 7, 8, 9, 10, 11, 12, 13, 14, 15, 16, 18, 20, 22, 23, 25, 26, 27, 28] hX mixed ?_ | refine awp_ret ?_ | refine awp_skip ?_ | refine awp_exit ?_); (simp [go_sem]; try (refine ⟨by kernel_rfl, ?_⟩)))))
  first | refine callK_intro (Of_m (0) (by decide)) rfl (by simp [go_sem]) rfl ?_ | refine callT_intro (Of_m (0) (by decide)) rfl (by simp [go_sem]) rfl ?_
  try (simp [go_sem]; try (refine ⟨by kernel_rfl, ?_⟩))
  first | refine callK_intro (Of_m (-5) (by decide)) rfl (by simp [go_sem]) rfl ?_ | refine callT_intro (Of_m (-5) (by decide)) rfl (by simp [go_sem]) rfl ?_
  try (simp [go_sem]; try (refine ⟨by kernel_rfl, ?_⟩))
  first | refine callK_intro (Gcd_ok (z := 0) (w := -5) (g := 5) (rz_c (by decide)) (rz_c (by decide)) (by decide)) rfl (by simp [go_sem]) rfl ?_ | refine callT_intro (Gcd_ok (z := 0) (w := -5) (g := 5) (rz_c (by decide)) (rz_c (by decide)) (by decide)) rfl (by simp [go_sem]) rfl ?_
  try (simp [go_sem]; try (refine ⟨by kernel_rfl, ?_⟩))
  (repeat (first | refine awp_seq ?_ | refine awp_block ?_ | ((first | refine awp_runG [0, 1, 2, 3, 4, 5, 6, 7, 8, 9, 10, 11, 12, 13, 14, 15, 16, 18, 20, 22, 23, 25, 26, 27, 28] hX ?_ | refine awp_drawnG [0, 1, 2, 3, 4, 5, 6, 7, 8, 9, 10, 11, 12, 13, 14, 15, 16, 18, 20, 22, 23, 25, 26, 27, 28] hX mixed ?_ | refine awp_ret ?_ | refine awp_skip ?_ | refine awp_exit ?_); (simp [go_sem]; try (refine ⟨by kernel_rfl, ?_⟩)))))
  first | refine callK_intro (Read_bad (s := [48, 48, 55]) (by decide) (by decide) (by rintro ⟨h1, h2, h3⟩; simp [Lib.trimPrefix, Lib.hasPrefix] at h1 h2)) rfl (by simp [go_sem]) rfl ?_ | refine callT_intro (Read_bad (s := [48, 48, 55]) (by decide) (by decide) (by rintro ⟨h1, h2, h3⟩; simp [Lib.trimPrefix, Lib.hasPrefix] at h1 h2)) rfl (by simp [go_sem]) rfl ?_
  try (simp [go_sem]; try (refine ⟨by kernel_rfl, ?_⟩))
  (repeat (first | refine awp_seq ?_ | refine awp_block ?_ | ((first | refine awp_runG [0, 1, 2, 3, 4, 5, 6, 7, 8, 9, 10, 11, 12, 13, 14, 15, 16, 18, 20, 22, 23, 25, 26, 27, 28] hX ?_ | refine awp_drawnG [0, 1, 2, 3, 4, 5, 6, 7, 8, 9, 10, 11, 12, 13, 14, 15, 16, 18, 20, 22, 23, 25, 26, 27, 28] hX mixed ?_ | refine awp_ret ?_ | refine awp_skip ?_ | refine awp_exit ?_); (simp [go_sem]; try (refine ⟨by kernel_rfl, ?_⟩)))))
  first | refine callK_intro (Read_bad (s := [45, 48]) (by decide) (by decide) (by rintro ⟨h1, h2, h3⟩; simp [Lib.trimPrefix, Lib.hasPrefix] at h1 h2)) rfl (by simp [go_sem]) rfl ?_ | refine callT_intro (Read_bad (s := [45, 48]) (by decide) (by decide) (by rintro ⟨h1, h2, h3⟩; simp [Lib.trimPrefix, Lib.hasPrefix] at h1 h2)) rfl (by simp [go_sem]) rfl ?_
  try (simp [go_sem]; try (refine ⟨by kernel_rfl, ?_⟩))
  (repeat (first | refine awp_seq ?_ | refine awp_block ?_ | ((first | refine awp_runG [0, 1, 2, 3, 4, 5, 6, 7, 8, 9, 10, 11, 12, 13, 14, 15, 16, 18, 20, 22, 23, 25, 26, 27, 28] hX ?_ | refine awp_drawnG [0, 1, 2, 3, 4, 5, 6, 7, 8, 9, 10, 11, 12, 13, 14, 15, 16, 18, 20, 22, 23, 25, 26, 27, 28] hX mixed ?_ | refine awp_ret ?_ | refine awp_skip ?_ | refine awp_exit ?_); (simp [go_sem]; try (refine ⟨by kernel_rfl, ?_⟩)))))
  first | refine callK_intro (Read_bad (s := []) (by decide) (by decide) (by rintro ⟨h1, h2, h3⟩; simp [Lib.trimPrefix, Lib.hasPrefix] at h1 h2)) rfl (by simp [go_sem]) rfl ?_ | refine callT_intro (Read_bad (s := []) (by decide) (by decide) (by rintro ⟨h1, h2, h3⟩; simp [Lib.trimPrefix, Lib.hasPrefix] at h1 h2)) rfl (by simp [go_sem]) rfl ?_
  try (simp [go_sem]; try (refine ⟨by kernel_rfl, ?_⟩))
  (repeat (first | refine awp_seq ?_ | refine awp_block ?_))
  ((first | refine awp_runG [0, 1, 2, 3, 4, 5, 6, 7, 8, 9, 10, 11, 12, 13, 14, 15, 16, 18, 20, 22, 23, 25, 26, 27, 28] hX ?_ | refine awp_drawnG [0, 1, 2, 3, 4, 5, 6, 7, 8, 9, 10, 11, 12, 13, 14, 15, 16, 18, 20, 22, 23, 25, 26, 27, 28] hX mixed ?_ | refine awp_ret ?_ | refine awp_skip ?_ | refine awp_exit ?_); (simp [go_sem]; try (refine ⟨by kernel_rfl, ?_⟩)))
  refine awp_sub (st0 := ⟨mkE [(1, .el 0 2 0 0), (2, .el 1 2 0 0), (3, ii 0), (4, .el 2 2 0 0), (5, .el 3 2 0 0), (6, ii 0), (7, .el 4 2 0 0), (8, .el 5 2 0 0), (9, ii 0), (10, .el 6 2 0 0), (11, .el 7 2 0 0), (12, ii 0), (13, .el 8 2 0 0), (14, ii 0), (15, .el 9 2 0 0), (16, ii 0), (18, ii 2), (20, ii 2), (22, ii 2), (23, .el 13 2 0 0)], [.row ⟨24, 2, [bigZ (1048577)]⟩, .row ⟨24, 2, [bigZ (-9999999999800000000001)]⟩, .row ⟨24, 2, [bigZ (-4)]⟩, .row ⟨24, 2, [bigZ (1)]⟩, .row ⟨24, 2, [bigZ (-4)]⟩, .row ⟨24, 2, [bigZ (-1)]⟩, .row ⟨24, 2, [bigZ (3)]⟩, .row ⟨24, 2, [bigZ (-1)]⟩, .row ⟨24, 2, [bigZ (6)]⟩, .row ⟨24, 2, [bigZ (5)]⟩, .row ⟨24, 2, [bigZ (0)]⟩, .row ⟨24, 2, [bigZ (0)]⟩, .row ⟨24, 2, [bigZ (0)]⟩, .row ⟨24, 2, [big2 1 [0, 0, 0, 8]]⟩]⟩) ?_ ?_
  · refine sub_of _ [.old 0 ⟨24, 2, [bigZ (1048577)]⟩, .old 1 ⟨24, 2, [bigZ (-9999999999800000000001)]⟩, .old 2 ⟨24, 2, [bigZ (-4)]⟩, .old 3 ⟨24, 2, [bigZ (1)]⟩, .old 4 ⟨24, 2, [bigZ (-4)]⟩, .old 5 ⟨24, 2, [bigZ (-1)]⟩, .old 6 ⟨24, 2, [bigZ (3)]⟩, .old 7 ⟨24, 2, [bigZ (-1)]⟩, .old 8 ⟨24, 2, [bigZ (6)]⟩, .old 9 ⟨24, 2, [bigZ (5)]⟩, .old 10 ⟨24, 2, [bigZ (0)]⟩, .old 11 ⟨24, 2, [bigZ (0)]⟩, .old 12 ⟨24, 2, [bigZ (0)]⟩, .old 14 ⟨24, 2, [big2 1 [0, 0, 0, 8]]⟩] (by simp [go_sem]) ?_
    simp [go_sem]
  (repeat (first | refine awp_seq ?_ | refine awp_block ?_ | ((first | refine awp_runG [0, 1, 2, 3, 4, 5, 6, 7, 8, 9, 10, 11, 12, 13, 14, 15, 16, 18, 20, 22, 23, 25, 26, 27, 28] hX ?_ | refine awp_drawnG [0, 1, 2, 3, 4, 5, 6, 7, 8, 9, 10, 11, 12, 13, 14, 15, 16, 18, 20, 22, 23, 25, 26, 27, 28] hX mixed ?_ | refine awp_ret ?_ | refine awp_skip ?_ | refine awp_exit ?_); (simp [go_sem]; try (refine ⟨by kernel_rfl, ?_⟩)))))
  first | refine callK_intro (hI1) rfl (by simp [go_sem]) rfl ?_ | refine callT_intro (hI1) rfl (by simp [go_sem]) rfl ?_
  try (simp [go_sem]; try (refine ⟨by kernel_rfl, ?_⟩))
  (repeat (first | refine awp_seq ?_ | refine awp_block ?_ | ((first | refine awp_runG [0, 1, 2, 3, 4, 5, 6, 7, 8, 9, 10, 11, 12, 13, 14, 15, 16, 18, 20, 22, 23, 25, 26, 27, 28] hX ?_ | refine awp_drawnG [0, 1, 2, 3, 4, 5, 6, 7, 8, 9, 10, 11, 12, 13, 14, 15, 16, 18, 20, 22, 23, 25, 26, 27, 28] hX mixed ?_ | refine awp_ret ?_ | refine awp_skip ?_ | refine awp_exit ?_); (simp [go_sem]; try (refine ⟨by kernel_rfl, ?_⟩)))))
  first | refine callK_intro (hN) rfl (by simp [go_sem]) rfl ?_ | refine callT_intro (hN) rfl (by simp [go_sem]) rfl ?_
  try (simp [go_sem]; try (refine ⟨by kernel_rfl, ?_⟩))
  first | refine callK_intro (hI2) rfl (by simp [go_sem]) rfl ?_ | refine callT_intro (hI2) rfl (by simp [go_sem]) rfl ?_
  try (simp [go_sem]; try (refine ⟨by kernel_rfl, ?_⟩))
  (repeat (first | refine awp_seq ?_ | refine awp_block ?_ | ((first | refine awp_runG [0, 1, 2, 3, 4, 5, 6, 7, 8, 9, 10, 11, 12, 13, 14, 15, 16, 18, 20, 22, 23, 25, 26, 27, 28] hX ?_ | refine awp_drawnG [0, 1, 2, 3, 4, 5, 6, 7, 8, 9, 10, 11, 12, 13, 14, 15, 16, 18, 20, 22, 23, 25, 26, 27, 28] hX mixed ?_ | refine awp_ret ?_ | refine awp_skip ?_ | refine awp_exit ?_); (simp [go_sem]; try (refine ⟨by kernel_rfl, ?_⟩)))))
  (repeat (first | refine awp_seq ?_ | refine awp_block ?_ | ((first | refine awp_runG [0, 1, 2, 3, 4, 5, 6, 7, 8, 9, 10, 11, 12, 13, 14, 15, 16, 18, 20, 22, 23, 25, 26, 27, 28] hX ?_ | refine awp_drawnG [0, 1, 2, 3, 4, 5, 6, 7, 8, 9, 10, 11, 12, 13, 14, 15, 16, 18, 20, 22, 23, 25, 26, 27, 28] hX mixed ?_ | refine awp_ret ?_ | refine awp_skip ?_ | refine awp_exit ?_); (simp [go_sem]; try (refine ⟨by kernel_rfl, ?_⟩)))))
  first | refine callK_intro (hS1) rfl (by simp [go_sem]) rfl ?_ | refine callT_intro (hS1) rfl (by simp [go_sem]) rfl ?_
  try (simp [go_sem]; try (refine ⟨by kernel_rfl, ?_⟩))
  first | refine callG_intro (fun hg => hT) rfl (by simp [go_sem]) rfl ?_ | refine callGT_intro (fun hg => hT) rfl (by simp [go_sem]) rfl ?_
  try (simp [go_sem]; try (refine ⟨by kernel_rfl, ?_⟩))
  first | refine callG_intro (fun hg => pair_t (q := -4) (r := 1) (by decide) (by decide)) rfl (by simp [go_sem]) rfl ?_ | refine callGT_intro (fun hg => pair_t (q := -4) (r := 1) (by decide) (by decide)) rfl (by simp [go_sem]) rfl ?_
  try (simp [go_sem]; try (refine ⟨by kernel_rfl, ?_⟩))
  first | refine callG_intro (fun hg => pair_t (q := -4) (r := -1) (by decide) (by decide)) rfl (by simp [go_sem]) rfl ?_ | refine callGT_intro (fun hg => pair_t (q := -4) (r := -1) (by decide) (by decide)) rfl (by simp [go_sem]) rfl ?_
  try (simp [go_sem]; try (refine ⟨by kernel_rfl, ?_⟩))
  first | refine callG_intro (fun hg => pair_t (q := 3) (r := -1) (by decide) (by decide)) rfl (by simp [go_sem]) rfl ?_ | refine callGT_intro (fun hg => pair_t (q := 3) (r := -1) (by decide) (by decide)) rfl (by simp [go_sem]) rfl ?_
  try (simp [go_sem]; try (refine ⟨by kernel_rfl, ?_⟩))
  (repeat (first | refine awp_seq ?_ | refine awp_block ?_ | ((first | refine awp_runG [0, 1, 2, 3, 4, 5, 6, 7, 8, 9, 10, 11, 12, 13, 14, 15, 16, 18, 20, 22, 23, 25, 26, 27, 28] hX ?_ | refine awp_drawnG [0, 1, 2, 3, 4, 5, 6, 7, 8, 9, 10, 11, 12, 13, 14, 15, 16, 18, 20, 22, 23, 25, 26, 27, 28] hX mixed ?_ | refine awp_ret ?_ | refine awp_skip ?_ | refine awp_exit ?_); (simp [go_sem]; try (refine ⟨by kernel_rfl, ?_⟩)))))
  first | refine callG_intro (fun hg => Of_m 6 (by decide)) rfl (by simp [go_sem]) rfl ?_ | refine callGT_intro (fun hg => Of_m 6 (by decide)) rfl (by simp [go_sem]) rfl ?_
  try (simp [go_sem]; try (refine ⟨by kernel_rfl, ?_⟩))
  first | refine callG_intro (fun hg => Same_t (z := 6) (rz_c (by decide))) rfl (by simp [go_sem]) rfl ?_ | refine callGT_intro (fun hg => Same_t (z := 6) (rz_c (by decide))) rfl (by simp [go_sem]) rfl ?_
  try (simp [go_sem]; try (refine ⟨by kernel_rfl, ?_⟩))
  first | refine callG_intro (fun hg => Of_m 5 (by decide)) rfl (by simp [go_sem]) rfl ?_ | refine callGT_intro (fun hg => Of_m 5 (by decide)) rfl (by simp [go_sem]) rfl ?_
  try (simp [go_sem]; try (refine ⟨by kernel_rfl, ?_⟩))
  first | refine callG_intro (fun hg => Same_t (z := 5) (rz_c (by decide))) rfl (by simp [go_sem]) rfl ?_ | refine callGT_intro (fun hg => Same_t (z := 5) (rz_c (by decide))) rfl (by simp [go_sem]) rfl ?_
  try (simp [go_sem]; try (refine ⟨by kernel_rfl, ?_⟩))
  (repeat (first | refine awp_seq ?_ | refine awp_block ?_ | ((first | refine awp_runG [0, 1, 2, 3, 4, 5, 6, 7, 8, 9, 10, 11, 12, 13, 14, 15, 16, 18, 20, 22, 23, 25, 26, 27, 28] hX ?_ | refine awp_drawnG [0, 1, 2, 3, 4, 5, 6, 7, 8, 9, 10, 11, 12, 13, 14, 15, 16, 18, 20, 22, 23, 25, 26, 27, 28] hX mixed ?_ | refine awp_ret ?_ | refine awp_skip ?_ | refine awp_exit ?_); (simp [go_sem]; try (refine ⟨by kernel_rfl, ?_⟩)))))
  decide +kernel

end Go.Proofs.YtlejmkmcghbdiaaGreatDoor
