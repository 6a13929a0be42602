/-
  Layer 5: the law FracOrder.
-/
import Derived.Test.YthgonmfgahbngaaGreatDoorFracL
set_option linter.all false
namespace Go.Proofs.YthgonmfgahbngaaGreatDoor
open Go.RowKit Go.Ab
attribute [local irreducible] AWP Go.Ab.Sub Means MeansH CallK CallG CallT CallGT

theorem cmp_eq {a b c d : Int} (h1 : rf a b) (h2 : rf c d) : cmpI (a * d) (c * b) = 0 ↔ (a = c ∧ b = d) := by
  rw [cmpI_zero]
  exact ⟨fun h => low_uniq h1.2.2.1 h1.2.2.2 h2.2.2.1 h2.2.2.2 h, fun ⟨h, h'⟩ => by rw [h, h']⟩
theorem cmp_le {x y : Int} : cmpI x y ≤ 0 ↔ x ≤ y := by unfold cmpI; split <;> (try split) <;> omega
theorem cmp_gt {x y : Int} : 0 < cmpI x y ↔ y < x := by unfold cmpI; split <;> (try split) <;> omega
theorem cmp_tr {a b c d e f : Int} (hb : 0 < b) (hd : 0 < d) (hf : 0 < f) (h1 : cmpI (a * d) (c * b) ≤ 0) (h2 : cmpI (c * f) (e * d) ≤ 0) : ¬ 0 < cmpI (a * f) (e * b) := by
  rw [cmp_gt]
  rw [cmp_le] at h1 h2
  intro h3
  have g1 := Int.mul_le_mul_of_nonneg_right h1 (show 0 ≤ f by omega)
  have g2 := Int.mul_le_mul_of_nonneg_right h2 (show 0 ≤ b by omega)
  have g3 := Int.mul_lt_mul_of_pos_right h3 hd
  have k1 : a * d * f = a * f * d := by grind
  have k2 : c * b * f = c * f * b := by grind
  have k3 : e * d * b = e * b * d := by grind
  omega

set_option maxHeartbeats 8000000 in
set_option maxRecDepth 20000 in
theorem fracOrder_m (Sa : Int) (La : List Int) (la : La.length ≤ 9223372036854775807) (Ta : Int) (Ma : List Int) (ma : Ma.length ≤ 9223372036854775807) (Sb : Int) (Lb : List Int) (lb : Lb.length ≤ 9223372036854775807) (Tb : Int) (Mb : List Int) (mb : Mb.length ≤ 9223372036854775807) (Sc : Int) (Lc : List Int) (lc : Lc.length ≤ 9223372036854775807) (Tc : Int) (Mc : List Int) (mc : Mc.length ≤ 9223372036854775807) : Means false Tryz.prog 5 [frac4 Sa La Ta Ma, frac4 Sb Lb Tb Mb, frac4 Sc Lc Tc Mc] (bb true) := by
  refine means_fn false 177 [.tmp 6] Tryz.func5 rfl rfl rfl (by simp) (by decide) rfl fun X hX => ?_
  (repeat (first | refine awp_seq ?_ | refine awp_block ?_ | (refine awp_runG [0, 1, 2, 3, 4, 5, 6, 7, 8, 9, 10, 11, 12, 13, 14, 15, 16, 17, 18, 47, 73, 87, 164] hX ?_; (simp [go_sem]; try (refine ⟨by kernel_rfl, ?_⟩))) | (refine awp_drawnG [0, 1, 2, 3, 4, 5, 6, 7, 8, 9, 10, 11, 12, 13, 14, 15, 16, 17, 18, 47, 73, 87, 164] hX mixed ?_; (simp [go_sem]; try (refine ⟨by kernel_rfl, ?_⟩))) | (refine awp_ret ?_; (simp [go_sem]; try (refine ⟨by kernel_rfl, ?_⟩))) | (refine awp_skip ?_; (simp [go_sem]; try (refine ⟨by kernel_rfl, ?_⟩))) | (refine awp_exit ?_; (simp [go_sem]; try (refine ⟨by kernel_rfl, ?_⟩)))))
  first | refine callK_intro (small_m) rfl (by simp [go_sem]) rfl ?_ | refine callT_intro (small_m) rfl (by simp [go_sem]) rfl ?_
  try (simp [go_sem]; try (refine ⟨by kernel_rfl, ?_⟩))
  (repeat (first | refine awp_seq ?_ | refine awp_block ?_ | (refine awp_runG [0, 1, 2, 3, 4, 5, 6, 7, 8, 9, 10, 11, 12, 13, 14, 15, 16, 17, 18, 47, 73, 87, 164] hX ?_; (simp [go_sem]; try (refine ⟨by kernel_rfl, ?_⟩))) | (refine awp_drawnG [0, 1, 2, 3, 4, 5, 6, 7, 8, 9, 10, 11, 12, 13, 14, 15, 16, 17, 18, 47, 73, 87, 164] hX mixed ?_; (simp [go_sem]; try (refine ⟨by kernel_rfl, ?_⟩))) | (refine awp_ret ?_; (simp [go_sem]; try (refine ⟨by kernel_rfl, ?_⟩))) | (refine awp_skip ?_; (simp [go_sem]; try (refine ⟨by kernel_rfl, ?_⟩))) | (refine awp_exit ?_; (simp [go_sem]; try (refine ⟨by kernel_rfl, ?_⟩)))))
  first | refine callK_intro (fewF_m Sa La la Ta Ma ma 12) rfl (by simp [go_sem]) rfl ?_ | refine callT_intro (fewF_m Sa La la Ta Ma ma 12) rfl (by simp [go_sem]) rfl ?_
  try (simp [go_sem]; try (refine ⟨by kernel_rfl, ?_⟩))
  first | refine callG_intro (fun hg => fewF_m Sb Lb lb Tb Mb mb 12) rfl (by simp [go_sem]) rfl ?_ | refine callGT_intro (fun hg => fewF_m Sb Lb lb Tb Mb mb 12) rfl (by simp [go_sem]) rfl ?_
  try (simp [go_sem]; try (refine ⟨by kernel_rfl, ?_⟩))
  first | refine callG_intro (fun hg => fewF_m Sc Lc lc Tc Mc mc 12) rfl (by simp [go_sem]) rfl ?_ | refine callGT_intro (fun hg => fewF_m Sc Lc lc Tc Mc mc 12) rfl (by simp [go_sem]) rfl ?_
  try (simp [go_sem]; try (refine ⟨by kernel_rfl, ?_⟩))
  first | refine callG_intro (fun hg => Right_f Sa La la Ta Ma ma) rfl (by simp [go_sem]) rfl ?_ | refine callGT_intro (fun hg => Right_f Sa La la Ta Ma ma) rfl (by simp [go_sem]) rfl ?_
  try (simp [go_sem]; try (refine ⟨by kernel_rfl, ?_⟩))
  first | refine callG_intro (fun hg => Right_f Sb Lb lb Tb Mb mb) rfl (by simp [go_sem]) rfl ?_ | refine callGT_intro (fun hg => Right_f Sb Lb lb Tb Mb mb) rfl (by simp [go_sem]) rfl ?_
  try (simp [go_sem]; try (refine ⟨by kernel_rfl, ?_⟩))
  first | refine callG_intro (fun hg => Right_f Sc Lc lc Tc Mc mc) rfl (by simp [go_sem]) rfl ?_ | refine callGT_intro (fun hg => Right_f Sc Lc lc Tc Mc mc) rfl (by simp [go_sem]) rfl ?_
  try (simp [go_sem]; try (refine ⟨by kernel_rfl, ?_⟩))
  refine awp_cond (b := decide (¬ (((La.length : Int) ≤ 12 ∧ (Ma.length : Int) ≤ 12) ∧ ((Lb.length : Int) ≤ 12 ∧ (Mb.length : Int) ≤ 12) ∧ ((Lc.length : Int) ≤ 12 ∧ (Mc.length : Int) ≤ 12) ∧ isF Sa La Ta Ma ∧ isF Sb Lb Tb Mb ∧ isF Sc Lc Tc Mc))) (by simp [go_sem, Bool.or_assoc]) (fun hb => ?_) (fun hb => ?_)
  · (repeat (first | refine awp_seq ?_ | refine awp_block ?_ | (refine awp_runG [0, 1, 2, 3, 4, 5, 6, 7, 8, 9, 10, 11, 12, 13, 14, 15, 16, 17, 18, 47, 73, 87, 164] hX ?_; (simp [go_sem]; try (refine ⟨by kernel_rfl, ?_⟩))) | (refine awp_drawnG [0, 1, 2, 3, 4, 5, 6, 7, 8, 9, 10, 11, 12, 13, 14, 15, 16, 17, 18, 47, 73, 87, 164] hX mixed ?_; (simp [go_sem]; try (refine ⟨by kernel_rfl, ?_⟩))) | (refine awp_ret ?_; (simp [go_sem]; try (refine ⟨by kernel_rfl, ?_⟩))) | (refine awp_skip ?_; (simp [go_sem]; try (refine ⟨by kernel_rfl, ?_⟩))) | (refine awp_exit ?_; (simp [go_sem]; try (refine ⟨by kernel_rfl, ?_⟩)))))
  have hb : ((La.length : Int) ≤ 12 ∧ (Ma.length : Int) ≤ 12) ∧ ((Lb.length : Int) ≤ 12 ∧ (Mb.length : Int) ≤ 12) ∧ ((Lc.length : Int) ≤ 12 ∧ (Mc.length : Int) ≤ 12) ∧ isF Sa La Ta Ma ∧ isF Sb Lb Tb Mb ∧ isF Sc Lc Tc Mc := by simpa using hb
  obtain ⟨na, nb, nc, ra, rb, rc⟩ := hb
  clear la ma lb mb lc mc
  obtain ⟨a1, a2, za, rfl, rfl, rfl, rfl⟩ := fz_to (N := 12) ra (by omega) (by omega)
  clear ra na
  obtain ⟨b1, b2, zb, rfl, rfl, rfl, rfl⟩ := fz_to (N := 12) rb (by omega) (by omega)
  clear rb nb
  obtain ⟨c1, c2, zc, rfl, rfl, rfl, rfl⟩ := fz_to (N := 12) rc (by omega) (by omega)
  clear rc nc
  obtain ⟨d1, d2, zd, qd, hd⟩ := Sub_e za zb (by decide)
  obtain ⟨p1, p2, zp, qp, hp⟩ := Add_e za zc (by decide)
  obtain ⟨q1, q2, zq, qq, hq⟩ := Add_e zb zc (by decide)
  obtain ⟨m1, m2, zm, qm, hm⟩ := Mul_e za zc (by decide)
  obtain ⟨n1, n2, zn, qn, hn⟩ := Mul_e zb zc (by decide)
  have pa := za.1.2.2.1
  have pb := zb.1.2.2.1
  have pc := zc.1.2.2.1
  have eab := cmp_eq za.1 zb.1
  have hsw := cmpI_neg (a1 * b2) (b1 * a2)
  have tr := cmp_tr (a := a1) (c := b1) (e := c1) pa pb pc
  have bd := cmpI_bd (a1 * b2) (b1 * a2)
  have hd1 : sg d1 = cmpI (a1 * b2) (b1 * a2) := by
    rw [eqv_sg zd.1.2.2.1 (Int.mul_pos pa pb) qd, ← cmpI_sg]
    congr 1; grind
  have hpq : cmpI (p1 * q2) (q1 * p2) = cmpI (a1 * b2) (b1 * a2) := by
    rw [eqv_cmp zp.1.2.2.1 zq.1.2.2.1 (Int.mul_pos pa pc) (Int.mul_pos pb pc) qp qq, ← cmpI_sg, ← cmpI_sg]
    have : (a1 * c2 + c1 * a2) * (b2 * c2) - (b1 * c2 + c1 * b2) * (a2 * c2) = (a1 * b2 - b1 * a2) * (c2 * c2) := by grind
    rw [this, sg_mul]
    have : sg (c2 * c2) = 1 := by have := Int.mul_pos pc pc; rcases sg_cases (c2 * c2) with h' | h' | h' <;> omega
    rw [this, Int.mul_one]
  have hmn : cmpI (m1 * n2) (n1 * m2) = cmpI (a1 * b2) (b1 * a2) * sg c1 := by
    rw [eqv_cmp zm.1.2.2.1 zn.1.2.2.1 (Int.mul_pos pa pc) (Int.mul_pos pb pc) qm qn, ← cmpI_sg, ← cmpI_sg]
    have : (a1 * c1) * (b2 * c2) - (b1 * c1) * (a2 * c2) = (a1 * b2 - b1 * a2) * (c1 * c2) := by grind
    rw [this, sg_mul, sg_mul]
    have : sg c2 = 1 := by rcases sg_cases c2 with h' | h' | h' <;> omega
    rw [this, Int.mul_one]
  have cab := Compare_t za.1 zb.1 rfl
  have cba := Compare_t zb.1 za.1 hsw
  have cpq := Compare_t zp.1 zq.1 hpq
  have cmn := Compare_t zm.1 zn.1 hmn
  have scb := sg_bd c1
  generalize cmpI (a1 * b2) (b1 * a2) = X at *
  (repeat (first | refine awp_seq ?_ | refine awp_block ?_ | (refine awp_runG [0, 1, 2, 3, 4, 5, 6, 7, 8, 9, 10, 11, 12, 13, 14, 15, 16, 17, 18, 47, 73, 87, 164] hX ?_; (simp [go_sem]; try (refine ⟨by kernel_rfl, ?_⟩))) | (refine awp_drawnG [0, 1, 2, 3, 4, 5, 6, 7, 8, 9, 10, 11, 12, 13, 14, 15, 16, 17, 18, 47, 73, 87, 164] hX mixed ?_; (simp [go_sem]; try (refine ⟨by kernel_rfl, ?_⟩))) | (refine awp_ret ?_; (simp [go_sem]; try (refine ⟨by kernel_rfl, ?_⟩))) | (refine awp_skip ?_; (simp [go_sem]; try (refine ⟨by kernel_rfl, ?_⟩))) | (refine awp_exit ?_; (simp [go_sem]; try (refine ⟨by kernel_rfl, ?_⟩)))))
  first | refine callK_intro (cab) rfl (by simp [go_sem]) rfl ?_ | refine callT_intro (cab) rfl (by simp [go_sem]) rfl ?_
  try (simp [go_sem]; try (refine ⟨by kernel_rfl, ?_⟩))
  (repeat (first | refine awp_seq ?_ | refine awp_block ?_ | (refine awp_runG [0, 1, 2, 3, 4, 5, 6, 7, 8, 9, 10, 11, 12, 13, 14, 15, 16, 17, 18, 47, 73, 87, 164] hX ?_; (simp [go_sem]; try (refine ⟨by kernel_rfl, ?_⟩))) | (refine awp_drawnG [0, 1, 2, 3, 4, 5, 6, 7, 8, 9, 10, 11, 12, 13, 14, 15, 16, 17, 18, 47, 73, 87, 164] hX mixed ?_; (simp [go_sem]; try (refine ⟨by kernel_rfl, ?_⟩))) | (refine awp_ret ?_; (simp [go_sem]; try (refine ⟨by kernel_rfl, ?_⟩))) | (refine awp_skip ?_; (simp [go_sem]; try (refine ⟨by kernel_rfl, ?_⟩))) | (refine awp_exit ?_; (simp [go_sem]; try (refine ⟨by kernel_rfl, ?_⟩)))))
  first | refine callK_intro (SameF_m a1 a2 b1 b2 za.1.1 za.1.2.1 zb.1.1 zb.1.2.1) rfl (by simp [go_sem]) rfl ?_ | refine callT_intro (SameF_m a1 a2 b1 b2 za.1.1 za.1.2.1 zb.1.1 zb.1.2.1) rfl (by simp [go_sem]) rfl ?_
  try (simp [go_sem]; try (refine ⟨by kernel_rfl, ?_⟩))
  first | refine callG_intro (fun hg => cba) rfl (by simp [go_sem]) rfl ?_ | refine callGT_intro (fun hg => cba) rfl (by simp [go_sem]) rfl ?_
  try (simp [go_sem]; try (refine ⟨by kernel_rfl, ?_⟩))
  have w1 := w64 (x := -X) (by omega) (by omega)
  refine awp_cond (b := false) (by simp [go_sem, w1]; exact ⟨⟨by rw [← Bool.decide_and]; exact decide_eq_decide.2 eab, bd.1⟩, bd.2⟩) (fun h => by cases h) (fun _ => ?_)
  (repeat (first | refine awp_seq ?_ | refine awp_block ?_ | (refine awp_runG [0, 1, 2, 3, 4, 5, 6, 7, 8, 9, 10, 11, 12, 13, 14, 15, 16, 17, 18, 47, 73, 87, 164] hX ?_; (simp [go_sem]; try (refine ⟨by kernel_rfl, ?_⟩))) | (refine awp_drawnG [0, 1, 2, 3, 4, 5, 6, 7, 8, 9, 10, 11, 12, 13, 14, 15, 16, 17, 18, 47, 73, 87, 164] hX mixed ?_; (simp [go_sem]; try (refine ⟨by kernel_rfl, ?_⟩))) | (refine awp_ret ?_; (simp [go_sem]; try (refine ⟨by kernel_rfl, ?_⟩))) | (refine awp_skip ?_; (simp [go_sem]; try (refine ⟨by kernel_rfl, ?_⟩))) | (refine awp_exit ?_; (simp [go_sem]; try (refine ⟨by kernel_rfl, ?_⟩)))))
  first | refine callG_intro (fun hg => Compare_f b1 b2 c1 c2 zb.1 zc.1) rfl (by simp [go_sem]) rfl ?_ | refine callGT_intro (fun hg => Compare_f b1 b2 c1 c2 zb.1 zc.1) rfl (by simp [go_sem]) rfl ?_
  try (simp [go_sem]; try (refine ⟨by kernel_rfl, ?_⟩))
  first | refine callG_intro (fun hg => Compare_f a1 a2 c1 c2 za.1 zc.1) rfl (by simp [go_sem]) rfl ?_ | refine callGT_intro (fun hg => Compare_f a1 a2 c1 c2 za.1 zc.1) rfl (by simp [go_sem]) rfl ?_
  try (simp [go_sem]; try (refine ⟨by kernel_rfl, ?_⟩))
  refine awp_cond (b := false) (by simp [go_sem]; omega) (fun h => by cases h) (fun _ => ?_)
  (repeat (first | refine awp_seq ?_ | refine awp_block ?_ | (refine awp_runG [0, 1, 2, 3, 4, 5, 6, 7, 8, 9, 10, 11, 12, 13, 14, 15, 16, 17, 18, 47, 73, 87, 164] hX ?_; (simp [go_sem]; try (refine ⟨by kernel_rfl, ?_⟩))) | (refine awp_drawnG [0, 1, 2, 3, 4, 5, 6, 7, 8, 9, 10, 11, 12, 13, 14, 15, 16, 17, 18, 47, 73, 87, 164] hX mixed ?_; (simp [go_sem]; try (refine ⟨by kernel_rfl, ?_⟩))) | (refine awp_ret ?_; (simp [go_sem]; try (refine ⟨by kernel_rfl, ?_⟩))) | (refine awp_skip ?_; (simp [go_sem]; try (refine ⟨by kernel_rfl, ?_⟩))) | (refine awp_exit ?_; (simp [go_sem]; try (refine ⟨by kernel_rfl, ?_⟩)))))
  first | refine callK_intro (hd) rfl (by simp [go_sem]) rfl ?_ | refine callT_intro (hd) rfl (by simp [go_sem]) rfl ?_
  try (simp [go_sem]; try (refine ⟨by kernel_rfl, ?_⟩))
  first | refine callK_intro (rightL zd.1) rfl (by simp [go_sem]) rfl ?_ | refine callT_intro (rightL zd.1) rfl (by simp [go_sem]) rfl ?_
  try (simp [go_sem]; try (refine ⟨by kernel_rfl, ?_⟩))
  (repeat (first | refine awp_seq ?_ | refine awp_block ?_ | (refine awp_runG [0, 1, 2, 3, 4, 5, 6, 7, 8, 9, 10, 11, 12, 13, 14, 15, 16, 17, 18, 47, 73, 87, 164] hX ?_; (simp [go_sem]; try (refine ⟨by kernel_rfl, ?_⟩))) | (refine awp_drawnG [0, 1, 2, 3, 4, 5, 6, 7, 8, 9, 10, 11, 12, 13, 14, 15, 16, 17, 18, 47, 73, 87, 164] hX mixed ?_; (simp [go_sem]; try (refine ⟨by kernel_rfl, ?_⟩))) | (refine awp_ret ?_; (simp [go_sem]; try (refine ⟨by kernel_rfl, ?_⟩))) | (refine awp_skip ?_; (simp [go_sem]; try (refine ⟨by kernel_rfl, ?_⟩))) | (refine awp_exit ?_; (simp [go_sem]; try (refine ⟨by kernel_rfl, ?_⟩)))))
  first | refine callK_intro (hp) rfl (by simp [go_sem]) rfl ?_ | refine callT_intro (hp) rfl (by simp [go_sem]) rfl ?_
  try (simp [go_sem]; try (refine ⟨by kernel_rfl, ?_⟩))
  first | refine callK_intro (rightL zp.1) rfl (by simp [go_sem]) rfl ?_ | refine callT_intro (rightL zp.1) rfl (by simp [go_sem]) rfl ?_
  try (simp [go_sem]; try (refine ⟨by kernel_rfl, ?_⟩))
  (repeat (first | refine awp_seq ?_ | refine awp_block ?_ | (refine awp_runG [0, 1, 2, 3, 4, 5, 6, 7, 8, 9, 10, 11, 12, 13, 14, 15, 16, 17, 18, 47, 73, 87, 164] hX ?_; (simp [go_sem]; try (refine ⟨by kernel_rfl, ?_⟩))) | (refine awp_drawnG [0, 1, 2, 3, 4, 5, 6, 7, 8, 9, 10, 11, 12, 13, 14, 15, 16, 17, 18, 47, 73, 87, 164] hX mixed ?_; (simp [go_sem]; try (refine ⟨by kernel_rfl, ?_⟩))) | (refine awp_ret ?_; (simp [go_sem]; try (refine ⟨by kernel_rfl, ?_⟩))) | (refine awp_skip ?_; (simp [go_sem]; try (refine ⟨by kernel_rfl, ?_⟩))) | (refine awp_exit ?_; (simp [go_sem]; try (refine ⟨by kernel_rfl, ?_⟩)))))
  first | refine callK_intro (hq) rfl (by simp [go_sem]) rfl ?_ | refine callT_intro (hq) rfl (by simp [go_sem]) rfl ?_
  try (simp [go_sem]; try (refine ⟨by kernel_rfl, ?_⟩))
  first | refine callK_intro (rightL zq.1) rfl (by simp [go_sem]) rfl ?_ | refine callT_intro (rightL zq.1) rfl (by simp [go_sem]) rfl ?_
  try (simp [go_sem]; try (refine ⟨by kernel_rfl, ?_⟩))
  (repeat (first | refine awp_seq ?_ | refine awp_block ?_ | (refine awp_runG [0, 1, 2, 3, 4, 5, 6, 7, 8, 9, 10, 11, 12, 13, 14, 15, 16, 17, 18, 47, 73, 87, 164] hX ?_; (simp [go_sem]; try (refine ⟨by kernel_rfl, ?_⟩))) | (refine awp_drawnG [0, 1, 2, 3, 4, 5, 6, 7, 8, 9, 10, 11, 12, 13, 14, 15, 16, 17, 18, 47, 73, 87, 164] hX mixed ?_; (simp [go_sem]; try (refine ⟨by kernel_rfl, ?_⟩))) | (refine awp_ret ?_; (simp [go_sem]; try (refine ⟨by kernel_rfl, ?_⟩))) | (refine awp_skip ?_; (simp [go_sem]; try (refine ⟨by kernel_rfl, ?_⟩))) | (refine awp_exit ?_; (simp [go_sem]; try (refine ⟨by kernel_rfl, ?_⟩)))))
  first | refine callK_intro (hm) rfl (by simp [go_sem]) rfl ?_ | refine callT_intro (hm) rfl (by simp [go_sem]) rfl ?_
  try (simp [go_sem]; try (refine ⟨by kernel_rfl, ?_⟩))
  first | refine callK_intro (rightL zm.1) rfl (by simp [go_sem]) rfl ?_ | refine callT_intro (rightL zm.1) rfl (by simp [go_sem]) rfl ?_
  try (simp [go_sem]; try (refine ⟨by kernel_rfl, ?_⟩))
  (repeat (first | refine awp_seq ?_ | refine awp_block ?_ | (refine awp_runG [0, 1, 2, 3, 4, 5, 6, 7, 8, 9, 10, 11, 12, 13, 14, 15, 16, 17, 18, 47, 73, 87, 164] hX ?_; (simp [go_sem]; try (refine ⟨by kernel_rfl, ?_⟩))) | (refine awp_drawnG [0, 1, 2, 3, 4, 5, 6, 7, 8, 9, 10, 11, 12, 13, 14, 15, 16, 17, 18, 47, 73, 87, 164] hX mixed ?_; (simp [go_sem]; try (refine ⟨by kernel_rfl, ?_⟩))) | (refine awp_ret ?_; (simp [go_sem]; try (refine ⟨by kernel_rfl, ?_⟩))) | (refine awp_skip ?_; (simp [go_sem]; try (refine ⟨by kernel_rfl, ?_⟩))) | (refine awp_exit ?_; (simp [go_sem]; try (refine ⟨by kernel_rfl, ?_⟩)))))
  first | refine callK_intro (hn) rfl (by simp [go_sem]) rfl ?_ | refine callT_intro (hn) rfl (by simp [go_sem]) rfl ?_
  try (simp [go_sem]; try (refine ⟨by kernel_rfl, ?_⟩))
  first | refine callK_intro (rightL zn.1) rfl (by simp [go_sem]) rfl ?_ | refine callT_intro (rightL zn.1) rfl (by simp [go_sem]) rfl ?_
  try (simp [go_sem]; try (refine ⟨by kernel_rfl, ?_⟩))
  (repeat (first | refine awp_seq ?_ | refine awp_block ?_ | (refine awp_runG [0, 1, 2, 3, 4, 5, 6, 7, 8, 9, 10, 11, 12, 13, 14, 15, 16, 17, 18, 47, 73, 87, 164] hX ?_; (simp [go_sem]; try (refine ⟨by kernel_rfl, ?_⟩))) | (refine awp_drawnG [0, 1, 2, 3, 4, 5, 6, 7, 8, 9, 10, 11, 12, 13, 14, 15, 16, 17, 18, 47, 73, 87, 164] hX mixed ?_; (simp [go_sem]; try (refine ⟨by kernel_rfl, ?_⟩))) | (refine awp_ret ?_; (simp [go_sem]; try (refine ⟨by kernel_rfl, ?_⟩))) | (refine awp_skip ?_; (simp [go_sem]; try (refine ⟨by kernel_rfl, ?_⟩))) | (refine awp_exit ?_; (simp [go_sem]; try (refine ⟨by kernel_rfl, ?_⟩)))))
  first | refine callG_intro (fun hg => cpq) rfl (by simp [go_sem]) rfl ?_ | refine callGT_intro (fun hg => cpq) rfl (by simp [go_sem]) rfl ?_
  try (simp [go_sem]; try (refine ⟨by kernel_rfl, ?_⟩))
  refine awp_cond (b := false) (by simp [go_sem, hd1]) (fun h => by cases h) (fun _ => ?_)
  (repeat (first | refine awp_seq ?_ | refine awp_block ?_ | (refine awp_runG [0, 1, 2, 3, 4, 5, 6, 7, 8, 9, 10, 11, 12, 13, 14, 15, 16, 17, 18, 47, 73, 87, 164] hX ?_; (simp [go_sem]; try (refine ⟨by kernel_rfl, ?_⟩))) | (refine awp_drawnG [0, 1, 2, 3, 4, 5, 6, 7, 8, 9, 10, 11, 12, 13, 14, 15, 16, 17, 18, 47, 73, 87, 164] hX mixed ?_; (simp [go_sem]; try (refine ⟨by kernel_rfl, ?_⟩))) | (refine awp_ret ?_; (simp [go_sem]; try (refine ⟨by kernel_rfl, ?_⟩))) | (refine awp_skip ?_; (simp [go_sem]; try (refine ⟨by kernel_rfl, ?_⟩))) | (refine awp_exit ?_; (simp [go_sem]; try (refine ⟨by kernel_rfl, ?_⟩)))))
  first | refine callG_intro (fun hg => cmn) rfl (by simp [go_sem]) rfl ?_ | refine callGT_intro (fun hg => cmn) rfl (by simp [go_sem]) rfl ?_
  try (simp [go_sem]; try (refine ⟨by kernel_rfl, ?_⟩))
  have w2 := w64 (x := X * sg c1) (by rcases sg_cases c1 with h | h | h <;> rw [h.1] <;> omega) (by rcases sg_cases c1 with h | h | h <;> rw [h.1] <;> omega)
  (repeat (first | refine awp_seq ?_ | refine awp_block ?_ | (refine awp_runG [0, 1, 2, 3, 4, 5, 6, 7, 8, 9, 10, 11, 12, 13, 14, 15, 16, 17, 18, 47, 73, 87, 164] hX ?_; (simp [go_sem, w2]; try (refine ⟨by kernel_rfl, ?_⟩))) | (refine awp_drawnG [0, 1, 2, 3, 4, 5, 6, 7, 8, 9, 10, 11, 12, 13, 14, 15, 16, 17, 18, 47, 73, 87, 164] hX mixed ?_; (simp [go_sem, w2]; try (refine ⟨by kernel_rfl, ?_⟩))) | (refine awp_ret ?_; (simp [go_sem, w2]; try (refine ⟨by kernel_rfl, ?_⟩))) | (refine awp_skip ?_; (simp [go_sem, w2]; try (refine ⟨by kernel_rfl, ?_⟩))) | (refine awp_exit ?_; (simp [go_sem, w2]; try (refine ⟨by kernel_rfl, ?_⟩)))))
  try simp [w2]

end Go.Proofs.YthgonmfgahbngaaGreatDoor
