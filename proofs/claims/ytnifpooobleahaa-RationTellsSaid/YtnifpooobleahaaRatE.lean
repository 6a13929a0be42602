/-
  Layer 39: a quota.
-/
import Derived.Test.YtnifpooobleahaaBigM
import Derived.Test.YtnifpooobleahaaRatD
set_option linter.all false
namespace Go.Proofs.Ytnifpooobleahaa
open Go.RowKit Go.Ab
attribute [local irreducible] AWP Go.Ab.Sub Means MeansH CallK CallG CallT CallGT CallU

theorem dq_pos' {p q : Int} (h : 0 < q) : dq p q = p / q ∧ dr p q = p % q := by
  unfold dq dr
  have e1 : sg q = 1 := by rcases sg_cases q with h' | h' | h' <;> omega
  have e2 : ab q = q := by unfold ab; rw [if_neg (by omega)]
  rw [e1, e2]; simp

set_option maxHeartbeats 4000000 in
set_option maxRecDepth 20000 in
theorem quota_m (h c s : Int) (hh : 0 ≤ h ∧ h < s) (hc : 0 ≤ c ∧ c ≤ 1099511627776) (hs : s ≤ 1125899906842624) : Means true Try.prog 22 [ii h, ii c, ii s] (.tup [ii (h * c / s), ii (h * c % s)]) := by
  have hs0 : 0 < s := by omega
  have hp : 0 ≤ h * c := Int.mul_nonneg hh.1 hc.1
  have hp2 : h * c ≤ 1125899906842624 * 1099511627776 := Int.mul_le_mul (by omega) hc.2 hc.1 (by omega)
  have hq : 0 ≤ h * c / s := Int.ediv_nonneg hp (by omega)
  have hq2 : h * c / s ≤ c := Int.ediv_le_of_le_mul hs0 (by rw [Int.mul_comm c s]; exact Int.mul_le_mul_of_nonneg_right (by omega) hc.1)
  have hm := Int.emod_nonneg (h * c) (show s ≠ 0 by omega)
  have hm2 := Int.emod_lt_of_pos (h * c) hs0
  obtain ⟨e1, e2⟩ := dq_pos' (p := h * c) hs0
  obtain ⟨P, hP⟩ : ∃ P, h * c = P := ⟨_, rfl⟩
  rw [hP] at hp hp2 hq hq2 hm hm2 e1 e2 ⊢
  have hPz : rz P := rz_c (by unfold ab; split <;> omega)
  obtain ⟨q, hqe⟩ : ∃ q, P / s = q := ⟨_, rfl⟩
  obtain ⟨r, hre⟩ : ∃ r, P % s = r := ⟨_, rfl⟩
  rw [hqe] at hq hq2 e1 ⊢
  rw [hre] at hm hm2 e2 ⊢
  refine means_fn true 45 [.tmp 6, .tmp 7] Try.func22 rfl rfl rfl (by simp) (by decide) rfl fun X hX => ?_
  (repeat (first | refine awp_seq ?_ | refine awp_block ?_ | ((first | refine awp_runG [0, 1, 2, 6, 7, 8, 10, 11, 13, 15] hX ?_ | refine awp_drawnG [0, 1, 2, 6, 7, 8, 10, 11, 13, 15] hX mixed ?_ | refine awp_ret ?_ | refine awp_skip ?_ | refine awp_exit ?_); (simp [go_sem]; try (refine ⟨by kernel_rfl, ?_⟩)))))
  first | refine callK_intro (Of_m h (by omega)) rfl (by simp [go_sem]) rfl ?_ | refine callT_intro (Of_m h (by omega)) rfl (by simp [go_sem]) rfl ?_
  try (simp [go_sem]; try (refine ⟨by kernel_rfl, ?_⟩))
  first | refine callK_intro (Of_m c (by omega)) rfl (by simp [go_sem]) rfl ?_ | refine callT_intro (Of_m c (by omega)) rfl (by simp [go_sem]) rfl ?_
  try (simp [go_sem]; try (refine ⟨by kernel_rfl, ?_⟩))
  first | refine callK_intro (Mul_ok (rz_i (by omega)) (rz_i (by omega)) hPz hP) rfl (by simp [go_sem]) rfl ?_ | refine callT_intro (Mul_ok (rz_i (by omega)) (rz_i (by omega)) hPz hP) rfl (by simp [go_sem]) rfl ?_
  try (simp [go_sem]; try (refine ⟨by kernel_rfl, ?_⟩))
  (repeat (first | refine awp_seq ?_ | refine awp_block ?_ | ((first | refine awp_runG [0, 1, 2, 6, 7, 8, 10, 11, 13, 15] hX ?_ | refine awp_skip ?_ | refine awp_exit ?_); (simp [go_sem]; try (refine ⟨by kernel_rfl, ?_⟩)))))
  refine awp_drawUG [0, 1, 2, 6, 7, 8, 10, 11, 13, 15] 2 hX mixed ?_; (simp [go_sem]; try (refine ⟨by kernel_rfl, ?_⟩))
  refine callU_intro (Of_m s (by omega)) rfl (by simp [go_sem]) rfl ?_
  try (simp [go_sem]; try (refine ⟨by kernel_rfl, ?_⟩))
  refine callU_intro (Div_ok hPz (rz_i (by omega)) (by omega) e1 e2) rfl (by simp [go_sem]) rfl ?_
  try (simp [go_sem]; try (refine ⟨by kernel_rfl, ?_⟩))
  refine ⟨⟨by kernel_rfl, by kernel_rfl⟩, ?_⟩
  (repeat (first | refine awp_seq ?_ | refine awp_block ?_ | ((first | refine awp_runG [0, 1, 2, 6, 7, 8, 10, 11, 13, 15] hX ?_ | refine awp_drawnG [0, 1, 2, 6, 7, 8, 10, 11, 13, 15] hX mixed ?_ | refine awp_ret ?_ | refine awp_skip ?_ | refine awp_exit ?_); (simp [go_sem]; try (refine ⟨by kernel_rfl, ?_⟩)))))
  first | refine callK_intro (Int_i (z := q) (by omega)) rfl (by simp [go_sem]) rfl ?_ | refine callT_intro (Int_i (z := q) (by omega)) rfl (by simp [go_sem]) rfl ?_
  try (simp [go_sem]; try (refine ⟨by kernel_rfl, ?_⟩))
  (repeat (first | refine awp_seq ?_ | refine awp_block ?_ | ((first | refine awp_runG [0, 1, 2, 6, 7, 8, 10, 11, 13, 15] hX ?_ | refine awp_drawnG [0, 1, 2, 6, 7, 8, 10, 11, 13, 15] hX mixed ?_ | refine awp_ret ?_ | refine awp_skip ?_ | refine awp_exit ?_); (simp [go_sem]; try (refine ⟨by kernel_rfl, ?_⟩)))))
  first | refine callK_intro (Int_i (z := r) (by omega)) rfl (by simp [go_sem]) rfl ?_ | refine callT_intro (Int_i (z := r) (by omega)) rfl (by simp [go_sem]) rfl ?_
  try (simp [go_sem]; try (refine ⟨by kernel_rfl, ?_⟩))
  (repeat (first | refine awp_seq ?_ | refine awp_block ?_ | ((first | refine awp_runG [0, 1, 2, 6, 7, 8, 10, 11, 13, 15] hX ?_ | refine awp_drawnG [0, 1, 2, 6, 7, 8, 10, 11, 13, 15] hX mixed ?_ | refine awp_ret ?_ | refine awp_skip ?_ | refine awp_exit ?_); (simp [go_sem]; try (refine ⟨by kernel_rfl, ?_⟩)))))

end Go.Proofs.Ytnifpooobleahaa
