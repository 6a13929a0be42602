/-
  Layer 5: the laws FracField, FracOrder.
-/
import Derived.Test.YthgonmfgahbngaaGreatDoorFracE
set_option linter.all false
namespace Go.Proofs.YthgonmfgahbngaaGreatDoor
open Go.RowKit Go.Ab
attribute [local irreducible] AWP Go.Ab.Sub Means MeansH CallK CallG CallT CallGT

theorem zero_fz : fz 1 0 1 := ⟨rf_c (by decide) (by decide) (by decide) (by decide), by decide, by decide⟩
theorem one_fz : fz 1 1 1 := ⟨rf_c (by decide) (by decide) (by decide) (by decide), by decide, by decide⟩

set_option maxHeartbeats 8000000 in
set_option maxRecDepth 20000 in
theorem fracField_m (Sa : Int) (La : List Int) (la : La.length ≤ 9223372036854775807) (Ta : Int) (Ma : List Int) (ma : Ma.length ≤ 9223372036854775807) (Sb : Int) (Lb : List Int) (lb : Lb.length ≤ 9223372036854775807) (Tb : Int) (Mb : List Int) (mb : Mb.length ≤ 9223372036854775807) (Sc : Int) (Lc : List Int) (lc : Lc.length ≤ 9223372036854775807) (Tc : Int) (Mc : List Int) (mc : Mc.length ≤ 9223372036854775807) : Means false Tryz.prog 4 [frac4 Sa La Ta Ma, frac4 Sb Lb Tb Mb, frac4 Sc Lc Tc Mc] (bb true) := by
  refine means_fn false 333 [.tmp 6] Tryz.func4 rfl rfl rfl (by simp) (by decide) rfl fun X hX => ?_
  (repeat (first | refine awp_seq ?_ | refine awp_block ?_ | (refine awp_runG [0, 1, 2, 3, 4, 5, 6, 7, 8, 9, 10, 11, 12, 13, 14, 15, 16, 17, 18, 19, 20, 21, 22, 23, 24, 25, 54, 130, 205, 286] hX ?_; (simp [go_sem]; try (refine ⟨by kernel_rfl, ?_⟩))) | (refine awp_drawnG [0, 1, 2, 3, 4, 5, 6, 7, 8, 9, 10, 11, 12, 13, 14, 15, 16, 17, 18, 19, 20, 21, 22, 23, 24, 25, 54, 130, 205, 286] hX mixed ?_; (simp [go_sem]; try (refine ⟨by kernel_rfl, ?_⟩))) | (refine awp_ret ?_; (simp [go_sem]; try (refine ⟨by kernel_rfl, ?_⟩))) | (refine awp_skip ?_; (simp [go_sem]; try (refine ⟨by kernel_rfl, ?_⟩))) | (refine awp_exit ?_; (simp [go_sem]; try (refine ⟨by kernel_rfl, ?_⟩)))))
  first | refine callK_intro (small_m) rfl (by simp [go_sem]) rfl ?_ | refine callT_intro (small_m) rfl (by simp [go_sem]) rfl ?_
  try (simp [go_sem]; try (refine ⟨by kernel_rfl, ?_⟩))
  (repeat (first | refine awp_seq ?_ | refine awp_block ?_ | (refine awp_runG [0, 1, 2, 3, 4, 5, 6, 7, 8, 9, 10, 11, 12, 13, 14, 15, 16, 17, 18, 19, 20, 21, 22, 23, 24, 25, 54, 130, 205, 286] hX ?_; (simp [go_sem]; try (refine ⟨by kernel_rfl, ?_⟩))) | (refine awp_drawnG [0, 1, 2, 3, 4, 5, 6, 7, 8, 9, 10, 11, 12, 13, 14, 15, 16, 17, 18, 19, 20, 21, 22, 23, 24, 25, 54, 130, 205, 286] hX mixed ?_; (simp [go_sem]; try (refine ⟨by kernel_rfl, ?_⟩))) | (refine awp_ret ?_; (simp [go_sem]; try (refine ⟨by kernel_rfl, ?_⟩))) | (refine awp_skip ?_; (simp [go_sem]; try (refine ⟨by kernel_rfl, ?_⟩))) | (refine awp_exit ?_; (simp [go_sem]; try (refine ⟨by kernel_rfl, ?_⟩)))))
  first | refine callK_intro (fewF_m Sa La la Ta Ma ma 6) rfl (by simp [go_sem]) rfl ?_ | refine callT_intro (fewF_m Sa La la Ta Ma ma 6) rfl (by simp [go_sem]) rfl ?_
  try (simp [go_sem]; try (refine ⟨by kernel_rfl, ?_⟩))
  first | refine callG_intro (fun hg => fewF_m Sb Lb lb Tb Mb mb 6) rfl (by simp [go_sem]) rfl ?_ | refine callGT_intro (fun hg => fewF_m Sb Lb lb Tb Mb mb 6) rfl (by simp [go_sem]) rfl ?_
  try (simp [go_sem]; try (refine ⟨by kernel_rfl, ?_⟩))
  first | refine callG_intro (fun hg => fewF_m Sc Lc lc Tc Mc mc 6) rfl (by simp [go_sem]) rfl ?_ | refine callGT_intro (fun hg => fewF_m Sc Lc lc Tc Mc mc 6) rfl (by simp [go_sem]) rfl ?_
  try (simp [go_sem]; try (refine ⟨by kernel_rfl, ?_⟩))
  first | refine callG_intro (fun hg => Right_f Sa La la Ta Ma ma) rfl (by simp [go_sem]) rfl ?_ | refine callGT_intro (fun hg => Right_f Sa La la Ta Ma ma) rfl (by simp [go_sem]) rfl ?_
  try (simp [go_sem]; try (refine ⟨by kernel_rfl, ?_⟩))
  first | refine callG_intro (fun hg => Right_f Sb Lb lb Tb Mb mb) rfl (by simp [go_sem]) rfl ?_ | refine callGT_intro (fun hg => Right_f Sb Lb lb Tb Mb mb) rfl (by simp [go_sem]) rfl ?_
  try (simp [go_sem]; try (refine ⟨by kernel_rfl, ?_⟩))
  first | refine callG_intro (fun hg => Right_f Sc Lc lc Tc Mc mc) rfl (by simp [go_sem]) rfl ?_ | refine callGT_intro (fun hg => Right_f Sc Lc lc Tc Mc mc) rfl (by simp [go_sem]) rfl ?_
  try (simp [go_sem]; try (refine ⟨by kernel_rfl, ?_⟩))
  refine awp_cond (b := decide (¬ (((La.length : Int) ≤ 6 ∧ (Ma.length : Int) ≤ 6) ∧ ((Lb.length : Int) ≤ 6 ∧ (Mb.length : Int) ≤ 6) ∧ ((Lc.length : Int) ≤ 6 ∧ (Mc.length : Int) ≤ 6) ∧ isF Sa La Ta Ma ∧ isF Sb Lb Tb Mb ∧ isF Sc Lc Tc Mc))) (by simp [go_sem, Bool.or_assoc]) (fun hb => ?_) (fun hb => ?_)
  · (repeat (first | refine awp_seq ?_ | refine awp_block ?_ | (refine awp_runG [0, 1, 2, 3, 4, 5, 6, 7, 8, 9, 10, 11, 12, 13, 14, 15, 16, 17, 18, 19, 20, 21, 22, 23, 24, 25, 54, 130, 205, 286] hX ?_; (simp [go_sem]; try (refine ⟨by kernel_rfl, ?_⟩))) | (refine awp_drawnG [0, 1, 2, 3, 4, 5, 6, 7, 8, 9, 10, 11, 12, 13, 14, 15, 16, 17, 18, 19, 20, 21, 22, 23, 24, 25, 54, 130, 205, 286] hX mixed ?_; (simp [go_sem]; try (refine ⟨by kernel_rfl, ?_⟩))) | (refine awp_ret ?_; (simp [go_sem]; try (refine ⟨by kernel_rfl, ?_⟩))) | (refine awp_skip ?_; (simp [go_sem]; try (refine ⟨by kernel_rfl, ?_⟩))) | (refine awp_exit ?_; (simp [go_sem]; try (refine ⟨by kernel_rfl, ?_⟩)))))
  have hb : ((La.length : Int) ≤ 6 ∧ (Ma.length : Int) ≤ 6) ∧ ((Lb.length : Int) ≤ 6 ∧ (Mb.length : Int) ≤ 6) ∧ ((Lc.length : Int) ≤ 6 ∧ (Mc.length : Int) ≤ 6) ∧ isF Sa La Ta Ma ∧ isF Sb Lb Tb Mb ∧ isF Sc Lc Tc Mc := by simpa using hb
  obtain ⟨na, nb, nc, ra, rb, rc⟩ := hb
  clear la ma lb mb lc mc
  obtain ⟨a1, a2, za, rfl, rfl, rfl, rfl⟩ := fz_to (N := 6) ra (by omega) (by omega)
  clear ra na
  obtain ⟨b1, b2, zb, rfl, rfl, rfl, rfl⟩ := fz_to (N := 6) rb (by omega) (by omega)
  clear rb nb
  obtain ⟨c1, c2, zc, rfl, rfl, rfl, rfl⟩ := fz_to (N := 6) rc (by omega) (by omega)
  clear rc nc
  have za0 := zero_fz
  have za1 := one_fz
  obtain ⟨ab1, ab2, zab, qab, hab⟩ := Add_e za zb (by decide)
  obtain ⟨ba1, ba2, zba, qba, hba⟩ := Add_e zb za (by decide)
  obtain ⟨bc1, bc2, zbc, qbc, hbc⟩ := Add_e zb zc (by decide)
  obtain ⟨x1, x2, zx, qx, hx⟩ := Add_e zab zc (by decide)
  obtain ⟨y1, y2, zy, qy, hy⟩ := Add_e za zbc (by decide)
  obtain ⟨m1, m2, zm, qm, hm⟩ := Mul_e za zb (by decide)
  obtain ⟨n1, n2, zn, qn, hn⟩ := Mul_e zb za (by decide)
  obtain ⟨p1, p2, zp, qp, hp⟩ := Mul_e zb zc (by decide)
  obtain ⟨u1, u2, zu, qu, hu⟩ := Mul_e zm zc (by decide)
  obtain ⟨v1, v2, zv, qv, hv⟩ := Mul_e za zp (by decide)
  obtain ⟨ac1, ac2, zac, qac, hac⟩ := Mul_e za zc (by decide)
  obtain ⟨r1, r2, zr, qr, hr⟩ := Mul_e zab zc (by decide)
  obtain ⟨s1, s2, zs, qs, hs⟩ := Add_e zac zp (by decide)
  obtain ⟨z1, z2, zz, qz, hz⟩ := Add_e za za0 (by decide)
  obtain ⟨w1, w2, zw, qw, hw⟩ := Mul_e za za1 (by decide)
  obtain ⟨t1, t2, zt, qt, ht⟩ := Sub_e zab zb (by decide)
  have ea := eqv_rf za.1
  have eb := eqv_rf zb.1
  have ec := eqv_rf zc.1
  have e1 := eqv_eq zab.1 zba.1 qab qba (by grind)
  have e2 := eqv_eq zx.1 zy.1 (eqv_trans qx (eqv_add qab ec)) (eqv_trans qy (eqv_add ea qbc)) (by grind)
  have e3 := eqv_eq zm.1 zn.1 qm qn (by grind)
  have e4 := eqv_eq zu.1 zv.1 (eqv_trans qu (eqv_mul qm ec)) (eqv_trans qv (eqv_mul ea qp)) (by grind)
  have e5 := eqv_eq zr.1 zs.1 (eqv_trans qr (eqv_mul qab ec)) (eqv_trans qs (eqv_add qac qp)) (by grind)
  have e6 := eqv_eq zz.1 za.1 qz ea (by grind)
  have e7 := eqv_eq zw.1 za.1 qw ea (by grind)
  have e8 := eqv_eq zt.1 za.1 (eqv_trans qt (eqv_sub qab eb)) ea (by grind)
  (repeat (first | refine awp_seq ?_ | refine awp_block ?_ | (refine awp_runG [0, 1, 2, 3, 4, 5, 6, 7, 8, 9, 10, 11, 12, 13, 14, 15, 16, 17, 18, 19, 20, 21, 22, 23, 24, 25, 54, 130, 205, 286] hX ?_; (simp [go_sem]; try (refine ⟨by kernel_rfl, ?_⟩))) | (refine awp_drawnG [0, 1, 2, 3, 4, 5, 6, 7, 8, 9, 10, 11, 12, 13, 14, 15, 16, 17, 18, 19, 20, 21, 22, 23, 24, 25, 54, 130, 205, 286] hX mixed ?_; (simp [go_sem]; try (refine ⟨by kernel_rfl, ?_⟩))) | (refine awp_ret ?_; (simp [go_sem]; try (refine ⟨by kernel_rfl, ?_⟩))) | (refine awp_skip ?_; (simp [go_sem]; try (refine ⟨by kernel_rfl, ?_⟩))) | (refine awp_exit ?_; (simp [go_sem]; try (refine ⟨by kernel_rfl, ?_⟩)))))
  first | refine callK_intro (hab) rfl (by simp [go_sem]) rfl ?_ | refine callT_intro (hab) rfl (by simp [go_sem]) rfl ?_
  try (simp [go_sem]; try (refine ⟨by kernel_rfl, ?_⟩))
  first | refine callK_intro (rightL zab.1) rfl (by simp [go_sem]) rfl ?_ | refine callT_intro (rightL zab.1) rfl (by simp [go_sem]) rfl ?_
  try (simp [go_sem]; try (refine ⟨by kernel_rfl, ?_⟩))
  (repeat (first | refine awp_seq ?_ | refine awp_block ?_ | (refine awp_runG [0, 1, 2, 3, 4, 5, 6, 7, 8, 9, 10, 11, 12, 13, 14, 15, 16, 17, 18, 19, 20, 21, 22, 23, 24, 25, 54, 130, 205, 286] hX ?_; (simp [go_sem]; try (refine ⟨by kernel_rfl, ?_⟩))) | (refine awp_drawnG [0, 1, 2, 3, 4, 5, 6, 7, 8, 9, 10, 11, 12, 13, 14, 15, 16, 17, 18, 19, 20, 21, 22, 23, 24, 25, 54, 130, 205, 286] hX mixed ?_; (simp [go_sem]; try (refine ⟨by kernel_rfl, ?_⟩))) | (refine awp_ret ?_; (simp [go_sem]; try (refine ⟨by kernel_rfl, ?_⟩))) | (refine awp_skip ?_; (simp [go_sem]; try (refine ⟨by kernel_rfl, ?_⟩))) | (refine awp_exit ?_; (simp [go_sem]; try (refine ⟨by kernel_rfl, ?_⟩)))))
  first | refine callK_intro (hba) rfl (by simp [go_sem]) rfl ?_ | refine callT_intro (hba) rfl (by simp [go_sem]) rfl ?_
  try (simp [go_sem]; try (refine ⟨by kernel_rfl, ?_⟩))
  first | refine callK_intro (rightL zba.1) rfl (by simp [go_sem]) rfl ?_ | refine callT_intro (rightL zba.1) rfl (by simp [go_sem]) rfl ?_
  try (simp [go_sem]; try (refine ⟨by kernel_rfl, ?_⟩))
  (repeat (first | refine awp_seq ?_ | refine awp_block ?_ | (refine awp_runG [0, 1, 2, 3, 4, 5, 6, 7, 8, 9, 10, 11, 12, 13, 14, 15, 16, 17, 18, 19, 20, 21, 22, 23, 24, 25, 54, 130, 205, 286] hX ?_; (simp [go_sem]; try (refine ⟨by kernel_rfl, ?_⟩))) | (refine awp_drawnG [0, 1, 2, 3, 4, 5, 6, 7, 8, 9, 10, 11, 12, 13, 14, 15, 16, 17, 18, 19, 20, 21, 22, 23, 24, 25, 54, 130, 205, 286] hX mixed ?_; (simp [go_sem]; try (refine ⟨by kernel_rfl, ?_⟩))) | (refine awp_ret ?_; (simp [go_sem]; try (refine ⟨by kernel_rfl, ?_⟩))) | (refine awp_skip ?_; (simp [go_sem]; try (refine ⟨by kernel_rfl, ?_⟩))) | (refine awp_exit ?_; (simp [go_sem]; try (refine ⟨by kernel_rfl, ?_⟩)))))
  first | refine callK_intro (hbc) rfl (by simp [go_sem]) rfl ?_ | refine callT_intro (hbc) rfl (by simp [go_sem]) rfl ?_
  try (simp [go_sem]; try (refine ⟨by kernel_rfl, ?_⟩))
  first | refine callK_intro (rightL zbc.1) rfl (by simp [go_sem]) rfl ?_ | refine callT_intro (rightL zbc.1) rfl (by simp [go_sem]) rfl ?_
  try (simp [go_sem]; try (refine ⟨by kernel_rfl, ?_⟩))
  (repeat (first | refine awp_seq ?_ | refine awp_block ?_ | (refine awp_runG [0, 1, 2, 3, 4, 5, 6, 7, 8, 9, 10, 11, 12, 13, 14, 15, 16, 17, 18, 19, 20, 21, 22, 23, 24, 25, 54, 130, 205, 286] hX ?_; (simp [go_sem]; try (refine ⟨by kernel_rfl, ?_⟩))) | (refine awp_drawnG [0, 1, 2, 3, 4, 5, 6, 7, 8, 9, 10, 11, 12, 13, 14, 15, 16, 17, 18, 19, 20, 21, 22, 23, 24, 25, 54, 130, 205, 286] hX mixed ?_; (simp [go_sem]; try (refine ⟨by kernel_rfl, ?_⟩))) | (refine awp_ret ?_; (simp [go_sem]; try (refine ⟨by kernel_rfl, ?_⟩))) | (refine awp_skip ?_; (simp [go_sem]; try (refine ⟨by kernel_rfl, ?_⟩))) | (refine awp_exit ?_; (simp [go_sem]; try (refine ⟨by kernel_rfl, ?_⟩)))))
  first | refine callK_intro (hx) rfl (by simp [go_sem]) rfl ?_ | refine callT_intro (hx) rfl (by simp [go_sem]) rfl ?_
  try (simp [go_sem]; try (refine ⟨by kernel_rfl, ?_⟩))
  first | refine callK_intro (rightL zx.1) rfl (by simp [go_sem]) rfl ?_ | refine callT_intro (rightL zx.1) rfl (by simp [go_sem]) rfl ?_
  try (simp [go_sem]; try (refine ⟨by kernel_rfl, ?_⟩))
  (repeat (first | refine awp_seq ?_ | refine awp_block ?_ | (refine awp_runG [0, 1, 2, 3, 4, 5, 6, 7, 8, 9, 10, 11, 12, 13, 14, 15, 16, 17, 18, 19, 20, 21, 22, 23, 24, 25, 54, 130, 205, 286] hX ?_; (simp [go_sem]; try (refine ⟨by kernel_rfl, ?_⟩))) | (refine awp_drawnG [0, 1, 2, 3, 4, 5, 6, 7, 8, 9, 10, 11, 12, 13, 14, 15, 16, 17, 18, 19, 20, 21, 22, 23, 24, 25, 54, 130, 205, 286] hX mixed ?_; (simp [go_sem]; try (refine ⟨by kernel_rfl, ?_⟩))) | (refine awp_ret ?_; (simp [go_sem]; try (refine ⟨by kernel_rfl, ?_⟩))) | (refine awp_skip ?_; (simp [go_sem]; try (refine ⟨by kernel_rfl, ?_⟩))) | (refine awp_exit ?_; (simp [go_sem]; try (refine ⟨by kernel_rfl, ?_⟩)))))
  first | refine callK_intro (hy) rfl (by simp [go_sem]) rfl ?_ | refine callT_intro (hy) rfl (by simp [go_sem]) rfl ?_
  try (simp [go_sem]; try (refine ⟨by kernel_rfl, ?_⟩))
  first | refine callK_intro (rightL zy.1) rfl (by simp [go_sem]) rfl ?_ | refine callT_intro (rightL zy.1) rfl (by simp [go_sem]) rfl ?_
  try (simp [go_sem]; try (refine ⟨by kernel_rfl, ?_⟩))
  (repeat (first | refine awp_seq ?_ | refine awp_block ?_ | (refine awp_runG [0, 1, 2, 3, 4, 5, 6, 7, 8, 9, 10, 11, 12, 13, 14, 15, 16, 17, 18, 19, 20, 21, 22, 23, 24, 25, 54, 130, 205, 286] hX ?_; (simp [go_sem]; try (refine ⟨by kernel_rfl, ?_⟩))) | (refine awp_drawnG [0, 1, 2, 3, 4, 5, 6, 7, 8, 9, 10, 11, 12, 13, 14, 15, 16, 17, 18, 19, 20, 21, 22, 23, 24, 25, 54, 130, 205, 286] hX mixed ?_; (simp [go_sem]; try (refine ⟨by kernel_rfl, ?_⟩))) | (refine awp_ret ?_; (simp [go_sem]; try (refine ⟨by kernel_rfl, ?_⟩))) | (refine awp_skip ?_; (simp [go_sem]; try (refine ⟨by kernel_rfl, ?_⟩))) | (refine awp_exit ?_; (simp [go_sem]; try (refine ⟨by kernel_rfl, ?_⟩)))))
  first | refine callG_intro (fun hg => SameF_t e1.1 e1.2 zab.1.1 zab.1.2.1) rfl (by simp [go_sem]) rfl ?_ | refine callGT_intro (fun hg => SameF_t e1.1 e1.2 zab.1.1 zab.1.2.1) rfl (by simp [go_sem]) rfl ?_
  try (simp [go_sem]; try (refine ⟨by kernel_rfl, ?_⟩))
  first | refine callG_intro (fun hg => SameF_t e2.1 e2.2 zx.1.1 zx.1.2.1) rfl (by simp [go_sem]) rfl ?_ | refine callGT_intro (fun hg => SameF_t e2.1 e2.2 zx.1.1 zx.1.2.1) rfl (by simp [go_sem]) rfl ?_
  try (simp [go_sem]; try (refine ⟨by kernel_rfl, ?_⟩))
  refine awp_cond (b := false) (by simp [go_sem]) (fun h => by cases h) (fun _ => ?_)
  (repeat (first | refine awp_seq ?_ | refine awp_block ?_ | (refine awp_runG [0, 1, 2, 3, 4, 5, 6, 7, 8, 9, 10, 11, 12, 13, 14, 15, 16, 17, 18, 19, 20, 21, 22, 23, 24, 25, 54, 130, 205, 286] hX ?_; (simp [go_sem]; try (refine ⟨by kernel_rfl, ?_⟩))) | (refine awp_drawnG [0, 1, 2, 3, 4, 5, 6, 7, 8, 9, 10, 11, 12, 13, 14, 15, 16, 17, 18, 19, 20, 21, 22, 23, 24, 25, 54, 130, 205, 286] hX mixed ?_; (simp [go_sem]; try (refine ⟨by kernel_rfl, ?_⟩))) | (refine awp_ret ?_; (simp [go_sem]; try (refine ⟨by kernel_rfl, ?_⟩))) | (refine awp_skip ?_; (simp [go_sem]; try (refine ⟨by kernel_rfl, ?_⟩))) | (refine awp_exit ?_; (simp [go_sem]; try (refine ⟨by kernel_rfl, ?_⟩)))))
  first | refine callK_intro (hm) rfl (by simp [go_sem]) rfl ?_ | refine callT_intro (hm) rfl (by simp [go_sem]) rfl ?_
  try (simp [go_sem]; try (refine ⟨by kernel_rfl, ?_⟩))
  first | refine callK_intro (rightL zm.1) rfl (by simp [go_sem]) rfl ?_ | refine callT_intro (rightL zm.1) rfl (by simp [go_sem]) rfl ?_
  try (simp [go_sem]; try (refine ⟨by kernel_rfl, ?_⟩))
  (repeat (first | refine awp_seq ?_ | refine awp_block ?_ | (refine awp_runG [0, 1, 2, 3, 4, 5, 6, 7, 8, 9, 10, 11, 12, 13, 14, 15, 16, 17, 18, 19, 20, 21, 22, 23, 24, 25, 54, 130, 205, 286] hX ?_; (simp [go_sem]; try (refine ⟨by kernel_rfl, ?_⟩))) | (refine awp_drawnG [0, 1, 2, 3, 4, 5, 6, 7, 8, 9, 10, 11, 12, 13, 14, 15, 16, 17, 18, 19, 20, 21, 22, 23, 24, 25, 54, 130, 205, 286] hX mixed ?_; (simp [go_sem]; try (refine ⟨by kernel_rfl, ?_⟩))) | (refine awp_ret ?_; (simp [go_sem]; try (refine ⟨by kernel_rfl, ?_⟩))) | (refine awp_skip ?_; (simp [go_sem]; try (refine ⟨by kernel_rfl, ?_⟩))) | (refine awp_exit ?_; (simp [go_sem]; try (refine ⟨by kernel_rfl, ?_⟩)))))
  first | refine callK_intro (hn) rfl (by simp [go_sem]) rfl ?_ | refine callT_intro (hn) rfl (by simp [go_sem]) rfl ?_
  try (simp [go_sem]; try (refine ⟨by kernel_rfl, ?_⟩))
  first | refine callK_intro (rightL zn.1) rfl (by simp [go_sem]) rfl ?_ | refine callT_intro (rightL zn.1) rfl (by simp [go_sem]) rfl ?_
  try (simp [go_sem]; try (refine ⟨by kernel_rfl, ?_⟩))
  (repeat (first | refine awp_seq ?_ | refine awp_block ?_ | (refine awp_runG [0, 1, 2, 3, 4, 5, 6, 7, 8, 9, 10, 11, 12, 13, 14, 15, 16, 17, 18, 19, 20, 21, 22, 23, 24, 25, 54, 130, 205, 286] hX ?_; (simp [go_sem]; try (refine ⟨by kernel_rfl, ?_⟩))) | (refine awp_drawnG [0, 1, 2, 3, 4, 5, 6, 7, 8, 9, 10, 11, 12, 13, 14, 15, 16, 17, 18, 19, 20, 21, 22, 23, 24, 25, 54, 130, 205, 286] hX mixed ?_; (simp [go_sem]; try (refine ⟨by kernel_rfl, ?_⟩))) | (refine awp_ret ?_; (simp [go_sem]; try (refine ⟨by kernel_rfl, ?_⟩))) | (refine awp_skip ?_; (simp [go_sem]; try (refine ⟨by kernel_rfl, ?_⟩))) | (refine awp_exit ?_; (simp [go_sem]; try (refine ⟨by kernel_rfl, ?_⟩)))))
  first | refine callK_intro (hp) rfl (by simp [go_sem]) rfl ?_ | refine callT_intro (hp) rfl (by simp [go_sem]) rfl ?_
  try (simp [go_sem]; try (refine ⟨by kernel_rfl, ?_⟩))
  first | refine callK_intro (rightL zp.1) rfl (by simp [go_sem]) rfl ?_ | refine callT_intro (rightL zp.1) rfl (by simp [go_sem]) rfl ?_
  try (simp [go_sem]; try (refine ⟨by kernel_rfl, ?_⟩))
  (repeat (first | refine awp_seq ?_ | refine awp_block ?_ | (refine awp_runG [0, 1, 2, 3, 4, 5, 6, 7, 8, 9, 10, 11, 12, 13, 14, 15, 16, 17, 18, 19, 20, 21, 22, 23, 24, 25, 54, 130, 205, 286] hX ?_; (simp [go_sem]; try (refine ⟨by kernel_rfl, ?_⟩))) | (refine awp_drawnG [0, 1, 2, 3, 4, 5, 6, 7, 8, 9, 10, 11, 12, 13, 14, 15, 16, 17, 18, 19, 20, 21, 22, 23, 24, 25, 54, 130, 205, 286] hX mixed ?_; (simp [go_sem]; try (refine ⟨by kernel_rfl, ?_⟩))) | (refine awp_ret ?_; (simp [go_sem]; try (refine ⟨by kernel_rfl, ?_⟩))) | (refine awp_skip ?_; (simp [go_sem]; try (refine ⟨by kernel_rfl, ?_⟩))) | (refine awp_exit ?_; (simp [go_sem]; try (refine ⟨by kernel_rfl, ?_⟩)))))
  first | refine callK_intro (hu) rfl (by simp [go_sem]) rfl ?_ | refine callT_intro (hu) rfl (by simp [go_sem]) rfl ?_
  try (simp [go_sem]; try (refine ⟨by kernel_rfl, ?_⟩))
  first | refine callK_intro (rightL zu.1) rfl (by simp [go_sem]) rfl ?_ | refine callT_intro (rightL zu.1) rfl (by simp [go_sem]) rfl ?_
  try (simp [go_sem]; try (refine ⟨by kernel_rfl, ?_⟩))
  (repeat (first | refine awp_seq ?_ | refine awp_block ?_ | (refine awp_runG [0, 1, 2, 3, 4, 5, 6, 7, 8, 9, 10, 11, 12, 13, 14, 15, 16, 17, 18, 19, 20, 21, 22, 23, 24, 25, 54, 130, 205, 286] hX ?_; (simp [go_sem]; try (refine ⟨by kernel_rfl, ?_⟩))) | (refine awp_drawnG [0, 1, 2, 3, 4, 5, 6, 7, 8, 9, 10, 11, 12, 13, 14, 15, 16, 17, 18, 19, 20, 21, 22, 23, 24, 25, 54, 130, 205, 286] hX mixed ?_; (simp [go_sem]; try (refine ⟨by kernel_rfl, ?_⟩))) | (refine awp_ret ?_; (simp [go_sem]; try (refine ⟨by kernel_rfl, ?_⟩))) | (refine awp_skip ?_; (simp [go_sem]; try (refine ⟨by kernel_rfl, ?_⟩))) | (refine awp_exit ?_; (simp [go_sem]; try (refine ⟨by kernel_rfl, ?_⟩)))))
  first | refine callK_intro (hv) rfl (by simp [go_sem]) rfl ?_ | refine callT_intro (hv) rfl (by simp [go_sem]) rfl ?_
  try (simp [go_sem]; try (refine ⟨by kernel_rfl, ?_⟩))
  first | refine callK_intro (rightL zv.1) rfl (by simp [go_sem]) rfl ?_ | refine callT_intro (rightL zv.1) rfl (by simp [go_sem]) rfl ?_
  try (simp [go_sem]; try (refine ⟨by kernel_rfl, ?_⟩))
  (repeat (first | refine awp_seq ?_ | refine awp_block ?_ | (refine awp_runG [0, 1, 2, 3, 4, 5, 6, 7, 8, 9, 10, 11, 12, 13, 14, 15, 16, 17, 18, 19, 20, 21, 22, 23, 24, 25, 54, 130, 205, 286] hX ?_; (simp [go_sem]; try (refine ⟨by kernel_rfl, ?_⟩))) | (refine awp_drawnG [0, 1, 2, 3, 4, 5, 6, 7, 8, 9, 10, 11, 12, 13, 14, 15, 16, 17, 18, 19, 20, 21, 22, 23, 24, 25, 54, 130, 205, 286] hX mixed ?_; (simp [go_sem]; try (refine ⟨by kernel_rfl, ?_⟩))) | (refine awp_ret ?_; (simp [go_sem]; try (refine ⟨by kernel_rfl, ?_⟩))) | (refine awp_skip ?_; (simp [go_sem]; try (refine ⟨by kernel_rfl, ?_⟩))) | (refine awp_exit ?_; (simp [go_sem]; try (refine ⟨by kernel_rfl, ?_⟩)))))
  first | refine callG_intro (fun hg => SameF_t e3.1 e3.2 zm.1.1 zm.1.2.1) rfl (by simp [go_sem]) rfl ?_ | refine callGT_intro (fun hg => SameF_t e3.1 e3.2 zm.1.1 zm.1.2.1) rfl (by simp [go_sem]) rfl ?_
  try (simp [go_sem]; try (refine ⟨by kernel_rfl, ?_⟩))
  first | refine callG_intro (fun hg => SameF_t e4.1 e4.2 zu.1.1 zu.1.2.1) rfl (by simp [go_sem]) rfl ?_ | refine callGT_intro (fun hg => SameF_t e4.1 e4.2 zu.1.1 zu.1.2.1) rfl (by simp [go_sem]) rfl ?_
  try (simp [go_sem]; try (refine ⟨by kernel_rfl, ?_⟩))
  refine awp_cond (b := false) (by simp [go_sem]) (fun h => by cases h) (fun _ => ?_)
  (repeat (first | refine awp_seq ?_ | refine awp_block ?_ | (refine awp_runG [0, 1, 2, 3, 4, 5, 6, 7, 8, 9, 10, 11, 12, 13, 14, 15, 16, 17, 18, 19, 20, 21, 22, 23, 24, 25, 54, 130, 205, 286] hX ?_; (simp [go_sem]; try (refine ⟨by kernel_rfl, ?_⟩))) | (refine awp_drawnG [0, 1, 2, 3, 4, 5, 6, 7, 8, 9, 10, 11, 12, 13, 14, 15, 16, 17, 18, 19, 20, 21, 22, 23, 24, 25, 54, 130, 205, 286] hX mixed ?_; (simp [go_sem]; try (refine ⟨by kernel_rfl, ?_⟩))) | (refine awp_ret ?_; (simp [go_sem]; try (refine ⟨by kernel_rfl, ?_⟩))) | (refine awp_skip ?_; (simp [go_sem]; try (refine ⟨by kernel_rfl, ?_⟩))) | (refine awp_exit ?_; (simp [go_sem]; try (refine ⟨by kernel_rfl, ?_⟩)))))
  first | refine callK_intro (hac) rfl (by simp [go_sem]) rfl ?_ | refine callT_intro (hac) rfl (by simp [go_sem]) rfl ?_
  try (simp [go_sem]; try (refine ⟨by kernel_rfl, ?_⟩))
  first | refine callK_intro (rightL zac.1) rfl (by simp [go_sem]) rfl ?_ | refine callT_intro (rightL zac.1) rfl (by simp [go_sem]) rfl ?_
  try (simp [go_sem]; try (refine ⟨by kernel_rfl, ?_⟩))
  (repeat (first | refine awp_seq ?_ | refine awp_block ?_ | (refine awp_runG [0, 1, 2, 3, 4, 5, 6, 7, 8, 9, 10, 11, 12, 13, 14, 15, 16, 17, 18, 19, 20, 21, 22, 23, 24, 25, 54, 130, 205, 286] hX ?_; (simp [go_sem]; try (refine ⟨by kernel_rfl, ?_⟩))) | (refine awp_drawnG [0, 1, 2, 3, 4, 5, 6, 7, 8, 9, 10, 11, 12, 13, 14, 15, 16, 17, 18, 19, 20, 21, 22, 23, 24, 25, 54, 130, 205, 286] hX mixed ?_; (simp [go_sem]; try (refine ⟨by kernel_rfl, ?_⟩))) | (refine awp_ret ?_; (simp [go_sem]; try (refine ⟨by kernel_rfl, ?_⟩))) | (refine awp_skip ?_; (simp [go_sem]; try (refine ⟨by kernel_rfl, ?_⟩))) | (refine awp_exit ?_; (simp [go_sem]; try (refine ⟨by kernel_rfl, ?_⟩)))))
  first | refine callK_intro (hr) rfl (by simp [go_sem]) rfl ?_ | refine callT_intro (hr) rfl (by simp [go_sem]) rfl ?_
  try (simp [go_sem]; try (refine ⟨by kernel_rfl, ?_⟩))
  first | refine callK_intro (rightL zr.1) rfl (by simp [go_sem]) rfl ?_ | refine callT_intro (rightL zr.1) rfl (by simp [go_sem]) rfl ?_
  try (simp [go_sem]; try (refine ⟨by kernel_rfl, ?_⟩))
  (repeat (first | refine awp_seq ?_ | refine awp_block ?_ | (refine awp_runG [0, 1, 2, 3, 4, 5, 6, 7, 8, 9, 10, 11, 12, 13, 14, 15, 16, 17, 18, 19, 20, 21, 22, 23, 24, 25, 54, 130, 205, 286] hX ?_; (simp [go_sem]; try (refine ⟨by kernel_rfl, ?_⟩))) | (refine awp_drawnG [0, 1, 2, 3, 4, 5, 6, 7, 8, 9, 10, 11, 12, 13, 14, 15, 16, 17, 18, 19, 20, 21, 22, 23, 24, 25, 54, 130, 205, 286] hX mixed ?_; (simp [go_sem]; try (refine ⟨by kernel_rfl, ?_⟩))) | (refine awp_ret ?_; (simp [go_sem]; try (refine ⟨by kernel_rfl, ?_⟩))) | (refine awp_skip ?_; (simp [go_sem]; try (refine ⟨by kernel_rfl, ?_⟩))) | (refine awp_exit ?_; (simp [go_sem]; try (refine ⟨by kernel_rfl, ?_⟩)))))
  first | refine callK_intro (hs) rfl (by simp [go_sem]) rfl ?_ | refine callT_intro (hs) rfl (by simp [go_sem]) rfl ?_
  try (simp [go_sem]; try (refine ⟨by kernel_rfl, ?_⟩))
  first | refine callK_intro (rightL zs.1) rfl (by simp [go_sem]) rfl ?_ | refine callT_intro (rightL zs.1) rfl (by simp [go_sem]) rfl ?_
  try (simp [go_sem]; try (refine ⟨by kernel_rfl, ?_⟩))
  (repeat (first | refine awp_seq ?_ | refine awp_block ?_ | (refine awp_runG [0, 1, 2, 3, 4, 5, 6, 7, 8, 9, 10, 11, 12, 13, 14, 15, 16, 17, 18, 19, 20, 21, 22, 23, 24, 25, 54, 130, 205, 286] hX ?_; (simp [go_sem]; try (refine ⟨by kernel_rfl, ?_⟩))) | (refine awp_drawnG [0, 1, 2, 3, 4, 5, 6, 7, 8, 9, 10, 11, 12, 13, 14, 15, 16, 17, 18, 19, 20, 21, 22, 23, 24, 25, 54, 130, 205, 286] hX mixed ?_; (simp [go_sem]; try (refine ⟨by kernel_rfl, ?_⟩))) | (refine awp_ret ?_; (simp [go_sem]; try (refine ⟨by kernel_rfl, ?_⟩))) | (refine awp_skip ?_; (simp [go_sem]; try (refine ⟨by kernel_rfl, ?_⟩))) | (refine awp_exit ?_; (simp [go_sem]; try (refine ⟨by kernel_rfl, ?_⟩)))))
  first | refine callK_intro (of_t (p := 0) (q := 1) (x := 0) (y := 1) (by decide) (by decide) (by decide) (by decide +kernel) (by decide +kernel)) rfl (by simp [go_sem]) rfl ?_ | refine callT_intro (of_t (p := 0) (q := 1) (x := 0) (y := 1) (by decide) (by decide) (by decide) (by decide +kernel) (by decide +kernel)) rfl (by simp [go_sem]) rfl ?_
  try (simp [go_sem]; try (refine ⟨by kernel_rfl, ?_⟩))
  first | refine callK_intro (hz) rfl (by simp [go_sem]) rfl ?_ | refine callT_intro (hz) rfl (by simp [go_sem]) rfl ?_
  try (simp [go_sem]; try (refine ⟨by kernel_rfl, ?_⟩))
  first | refine callK_intro (rightL zz.1) rfl (by simp [go_sem]) rfl ?_ | refine callT_intro (rightL zz.1) rfl (by simp [go_sem]) rfl ?_
  try (simp [go_sem]; try (refine ⟨by kernel_rfl, ?_⟩))
  (repeat (first | refine awp_seq ?_ | refine awp_block ?_ | (refine awp_runG [0, 1, 2, 3, 4, 5, 6, 7, 8, 9, 10, 11, 12, 13, 14, 15, 16, 17, 18, 19, 20, 21, 22, 23, 24, 25, 54, 130, 205, 286] hX ?_; (simp [go_sem]; try (refine ⟨by kernel_rfl, ?_⟩))) | (refine awp_drawnG [0, 1, 2, 3, 4, 5, 6, 7, 8, 9, 10, 11, 12, 13, 14, 15, 16, 17, 18, 19, 20, 21, 22, 23, 24, 25, 54, 130, 205, 286] hX mixed ?_; (simp [go_sem]; try (refine ⟨by kernel_rfl, ?_⟩))) | (refine awp_ret ?_; (simp [go_sem]; try (refine ⟨by kernel_rfl, ?_⟩))) | (refine awp_skip ?_; (simp [go_sem]; try (refine ⟨by kernel_rfl, ?_⟩))) | (refine awp_exit ?_; (simp [go_sem]; try (refine ⟨by kernel_rfl, ?_⟩)))))
  first | refine callK_intro (of_t (p := 1) (q := 1) (x := 1) (y := 1) (by decide) (by decide) (by decide) (by decide +kernel) (by decide +kernel)) rfl (by simp [go_sem]) rfl ?_ | refine callT_intro (of_t (p := 1) (q := 1) (x := 1) (y := 1) (by decide) (by decide) (by decide) (by decide +kernel) (by decide +kernel)) rfl (by simp [go_sem]) rfl ?_
  try (simp [go_sem]; try (refine ⟨by kernel_rfl, ?_⟩))
  first | refine callK_intro (hw) rfl (by simp [go_sem]) rfl ?_ | refine callT_intro (hw) rfl (by simp [go_sem]) rfl ?_
  try (simp [go_sem]; try (refine ⟨by kernel_rfl, ?_⟩))
  first | refine callK_intro (rightL zw.1) rfl (by simp [go_sem]) rfl ?_ | refine callT_intro (rightL zw.1) rfl (by simp [go_sem]) rfl ?_
  try (simp [go_sem]; try (refine ⟨by kernel_rfl, ?_⟩))
  (repeat (first | refine awp_seq ?_ | refine awp_block ?_ | (refine awp_runG [0, 1, 2, 3, 4, 5, 6, 7, 8, 9, 10, 11, 12, 13, 14, 15, 16, 17, 18, 19, 20, 21, 22, 23, 24, 25, 54, 130, 205, 286] hX ?_; (simp [go_sem]; try (refine ⟨by kernel_rfl, ?_⟩))) | (refine awp_drawnG [0, 1, 2, 3, 4, 5, 6, 7, 8, 9, 10, 11, 12, 13, 14, 15, 16, 17, 18, 19, 20, 21, 22, 23, 24, 25, 54, 130, 205, 286] hX mixed ?_; (simp [go_sem]; try (refine ⟨by kernel_rfl, ?_⟩))) | (refine awp_ret ?_; (simp [go_sem]; try (refine ⟨by kernel_rfl, ?_⟩))) | (refine awp_skip ?_; (simp [go_sem]; try (refine ⟨by kernel_rfl, ?_⟩))) | (refine awp_exit ?_; (simp [go_sem]; try (refine ⟨by kernel_rfl, ?_⟩)))))
  first | refine callG_intro (fun hg => SameF_t e5.1 e5.2 zr.1.1 zr.1.2.1) rfl (by simp [go_sem]) rfl ?_ | refine callGT_intro (fun hg => SameF_t e5.1 e5.2 zr.1.1 zr.1.2.1) rfl (by simp [go_sem]) rfl ?_
  try (simp [go_sem]; try (refine ⟨by kernel_rfl, ?_⟩))
  first | refine callG_intro (fun hg => SameF_t e6.1 e6.2 zz.1.1 zz.1.2.1) rfl (by simp [go_sem]) rfl ?_ | refine callGT_intro (fun hg => SameF_t e6.1 e6.2 zz.1.1 zz.1.2.1) rfl (by simp [go_sem]) rfl ?_
  try (simp [go_sem]; try (refine ⟨by kernel_rfl, ?_⟩))
  first | refine callG_intro (fun hg => SameF_t e7.1 e7.2 zw.1.1 zw.1.2.1) rfl (by simp [go_sem]) rfl ?_ | refine callGT_intro (fun hg => SameF_t e7.1 e7.2 zw.1.1 zw.1.2.1) rfl (by simp [go_sem]) rfl ?_
  try (simp [go_sem]; try (refine ⟨by kernel_rfl, ?_⟩))
  refine awp_cond (b := false) (by simp [go_sem]) (fun h => by cases h) (fun _ => ?_)
  (repeat (first | refine awp_seq ?_ | refine awp_block ?_ | (refine awp_runG [0, 1, 2, 3, 4, 5, 6, 7, 8, 9, 10, 11, 12, 13, 14, 15, 16, 17, 18, 19, 20, 21, 22, 23, 24, 25, 54, 130, 205, 286] hX ?_; (simp [go_sem]; try (refine ⟨by kernel_rfl, ?_⟩))) | (refine awp_drawnG [0, 1, 2, 3, 4, 5, 6, 7, 8, 9, 10, 11, 12, 13, 14, 15, 16, 17, 18, 19, 20, 21, 22, 23, 24, 25, 54, 130, 205, 286] hX mixed ?_; (simp [go_sem]; try (refine ⟨by kernel_rfl, ?_⟩))) | (refine awp_ret ?_; (simp [go_sem]; try (refine ⟨by kernel_rfl, ?_⟩))) | (refine awp_skip ?_; (simp [go_sem]; try (refine ⟨by kernel_rfl, ?_⟩))) | (refine awp_exit ?_; (simp [go_sem]; try (refine ⟨by kernel_rfl, ?_⟩)))))
  first | refine callK_intro (ht) rfl (by simp [go_sem]) rfl ?_ | refine callT_intro (ht) rfl (by simp [go_sem]) rfl ?_
  try (simp [go_sem]; try (refine ⟨by kernel_rfl, ?_⟩))
  first | refine callK_intro (rightL zt.1) rfl (by simp [go_sem]) rfl ?_ | refine callT_intro (rightL zt.1) rfl (by simp [go_sem]) rfl ?_
  try (simp [go_sem]; try (refine ⟨by kernel_rfl, ?_⟩))
  (repeat (first | refine awp_seq ?_ | refine awp_block ?_ | (refine awp_runG [0, 1, 2, 3, 4, 5, 6, 7, 8, 9, 10, 11, 12, 13, 14, 15, 16, 17, 18, 19, 20, 21, 22, 23, 24, 25, 54, 130, 205, 286] hX ?_; (simp [go_sem]; try (refine ⟨by kernel_rfl, ?_⟩))) | (refine awp_drawnG [0, 1, 2, 3, 4, 5, 6, 7, 8, 9, 10, 11, 12, 13, 14, 15, 16, 17, 18, 19, 20, 21, 22, 23, 24, 25, 54, 130, 205, 286] hX mixed ?_; (simp [go_sem]; try (refine ⟨by kernel_rfl, ?_⟩))) | (refine awp_ret ?_; (simp [go_sem]; try (refine ⟨by kernel_rfl, ?_⟩))) | (refine awp_skip ?_; (simp [go_sem]; try (refine ⟨by kernel_rfl, ?_⟩))) | (refine awp_exit ?_; (simp [go_sem]; try (refine ⟨by kernel_rfl, ?_⟩)))))
  by_cases hb0 : b1 = 0
  · have hs0 : sg b1 = 0 := by rw [hb0]; rfl
    first | refine callK_intro (Div_z m1 m2 b1 b2 zm.1 zb.1 hb0) rfl (by simp [go_sem]) rfl ?_ | refine callT_intro (Div_z m1 m2 b1 b2 zm.1 zb.1 hb0) rfl (by simp [go_sem]) rfl ?_
    try (simp [go_sem]; try (refine ⟨by kernel_rfl, ?_⟩))
    (repeat (first | refine awp_seq ?_ | refine awp_block ?_ | (refine awp_runG [0, 1, 2, 3, 4, 5, 6, 7, 8, 9, 10, 11, 12, 13, 14, 15, 16, 17, 18, 19, 20, 21, 22, 23, 24, 25, 54, 130, 205, 286] hX ?_; (simp [go_sem]; try (refine ⟨by kernel_rfl, ?_⟩))) | (refine awp_drawnG [0, 1, 2, 3, 4, 5, 6, 7, 8, 9, 10, 11, 12, 13, 14, 15, 16, 17, 18, 19, 20, 21, 22, 23, 24, 25, 54, 130, 205, 286] hX mixed ?_; (simp [go_sem]; try (refine ⟨by kernel_rfl, ?_⟩))) | (refine awp_ret ?_; (simp [go_sem]; try (refine ⟨by kernel_rfl, ?_⟩))) | (refine awp_skip ?_; (simp [go_sem]; try (refine ⟨by kernel_rfl, ?_⟩))) | (refine awp_exit ?_; (simp [go_sem]; try (refine ⟨by kernel_rfl, ?_⟩)))))
    first | refine callG_intro (fun hg => SameF_t e8.1 e8.2 zt.1.1 zt.1.2.1) rfl (by simp [go_sem]) rfl ?_ | refine callGT_intro (fun hg => SameF_t e8.1 e8.2 zt.1.1 zt.1.2.1) rfl (by simp [go_sem]) rfl ?_
    try (simp [go_sem]; try (refine ⟨by kernel_rfl, ?_⟩))
    first | refine callG_intro (fun hg => SameF_m 0 0 a1 a2 zero_fz.1.1 zero_fz.1.1 za.1.1 za.1.2.1) rfl (by simp [go_sem]) rfl ?_ | refine callGT_intro (fun hg => SameF_m 0 0 a1 a2 zero_fz.1.1 zero_fz.1.1 za.1.1 za.1.2.1) rfl (by simp [go_sem]) rfl ?_
    try (simp [go_sem]; try (refine ⟨by kernel_rfl, ?_⟩))
    (repeat (first | refine awp_seq ?_ | refine awp_block ?_ | (refine awp_runG [0, 1, 2, 3, 4, 5, 6, 7, 8, 9, 10, 11, 12, 13, 14, 15, 16, 17, 18, 19, 20, 21, 22, 23, 24, 25, 54, 130, 205, 286] hX ?_; (simp [go_sem, hs0]; try (refine ⟨by kernel_rfl, ?_⟩))) | (refine awp_drawnG [0, 1, 2, 3, 4, 5, 6, 7, 8, 9, 10, 11, 12, 13, 14, 15, 16, 17, 18, 19, 20, 21, 22, 23, 24, 25, 54, 130, 205, 286] hX mixed ?_; (simp [go_sem, hs0]; try (refine ⟨by kernel_rfl, ?_⟩))) | (refine awp_ret ?_; (simp [go_sem, hs0]; try (refine ⟨by kernel_rfl, ?_⟩))) | (refine awp_skip ?_; (simp [go_sem, hs0]; try (refine ⟨by kernel_rfl, ?_⟩))) | (refine awp_exit ?_; (simp [go_sem, hs0]; try (refine ⟨by kernel_rfl, ?_⟩)))))
    try simp [hs0]
  · have hs0 : ¬ sg b1 = 0 := by rcases sg_cases b1 with h | h | h <;> omega
    obtain ⟨d1, d2, zd, qd, hd⟩ := Div_e zm zb hb0 (by decide)
    have e9 := eqv_eq zd.1 za.1 (eqv_trans qd (eqv_div qm eb hb0 hb0)) ea (by grind)
    first | refine callK_intro (hd) rfl (by simp [go_sem]) rfl ?_ | refine callT_intro (hd) rfl (by simp [go_sem]) rfl ?_
    try (simp [go_sem]; try (refine ⟨by kernel_rfl, ?_⟩))
    (repeat (first | refine awp_seq ?_ | refine awp_block ?_ | (refine awp_runG [0, 1, 2, 3, 4, 5, 6, 7, 8, 9, 10, 11, 12, 13, 14, 15, 16, 17, 18, 19, 20, 21, 22, 23, 24, 25, 54, 130, 205, 286] hX ?_; (simp [go_sem]; try (refine ⟨by kernel_rfl, ?_⟩))) | (refine awp_drawnG [0, 1, 2, 3, 4, 5, 6, 7, 8, 9, 10, 11, 12, 13, 14, 15, 16, 17, 18, 19, 20, 21, 22, 23, 24, 25, 54, 130, 205, 286] hX mixed ?_; (simp [go_sem]; try (refine ⟨by kernel_rfl, ?_⟩))) | (refine awp_ret ?_; (simp [go_sem]; try (refine ⟨by kernel_rfl, ?_⟩))) | (refine awp_skip ?_; (simp [go_sem]; try (refine ⟨by kernel_rfl, ?_⟩))) | (refine awp_exit ?_; (simp [go_sem]; try (refine ⟨by kernel_rfl, ?_⟩)))))
    first | refine callG_intro (fun hg => SameF_t e8.1 e8.2 zt.1.1 zt.1.2.1) rfl (by simp [go_sem]) rfl ?_ | refine callGT_intro (fun hg => SameF_t e8.1 e8.2 zt.1.1 zt.1.2.1) rfl (by simp [go_sem]) rfl ?_
    try (simp [go_sem]; try (refine ⟨by kernel_rfl, ?_⟩))
    first | refine callG_intro (fun hg => SameF_t e9.1 e9.2 zd.1.1 zd.1.2.1) rfl (by simp [go_sem]) rfl ?_ | refine callGT_intro (fun hg => SameF_t e9.1 e9.2 zd.1.1 zd.1.2.1) rfl (by simp [go_sem]) rfl ?_
    try (simp [go_sem]; try (refine ⟨by kernel_rfl, ?_⟩))
    (repeat (first | refine awp_seq ?_ | refine awp_block ?_ | (refine awp_runG [0, 1, 2, 3, 4, 5, 6, 7, 8, 9, 10, 11, 12, 13, 14, 15, 16, 17, 18, 19, 20, 21, 22, 23, 24, 25, 54, 130, 205, 286] hX ?_; (simp [go_sem, hs0]; try (refine ⟨by kernel_rfl, ?_⟩))) | (refine awp_drawnG [0, 1, 2, 3, 4, 5, 6, 7, 8, 9, 10, 11, 12, 13, 14, 15, 16, 17, 18, 19, 20, 21, 22, 23, 24, 25, 54, 130, 205, 286] hX mixed ?_; (simp [go_sem, hs0]; try (refine ⟨by kernel_rfl, ?_⟩))) | (refine awp_ret ?_; (simp [go_sem, hs0]; try (refine ⟨by kernel_rfl, ?_⟩))) | (refine awp_skip ?_; (simp [go_sem, hs0]; try (refine ⟨by kernel_rfl, ?_⟩))) | (refine awp_exit ?_; (simp [go_sem, hs0]; try (refine ⟨by kernel_rfl, ?_⟩)))))
    try simp [hs0]

end Go.Proofs.YthgonmfgahbngaaGreatDoor
