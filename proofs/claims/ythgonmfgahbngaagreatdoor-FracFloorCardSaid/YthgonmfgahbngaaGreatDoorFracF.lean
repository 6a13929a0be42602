/-
  Layer 5: the law FracFloor.
-/
import Derived.Test.YthgonmfgahbngaaGreatDoorFracE
set_option linter.all false
namespace Go.Proofs.YthgonmfgahbngaaGreatDoor
open Go.RowKit Go.Ab
attribute [local irreducible] AWP Go.Ab.Sub Means MeansH CallK CallG CallT CallGT

theorem rf_one {a : Int} (h : rz a) : rf a 1 := ⟨h, rz_c (by decide), by decide, Int.gcd_one⟩
theorem New_1 {a : Int} (h : rz a) : Means false Tryz.prog 23 [bigZ a, bigZ 1] (.tup [frZ a 1, ii 0]) := by
  have := New_m a 1 h (rz_c (by decide)) (by decide)
  obtain ⟨e1, e2⟩ := low_rat (rf_one h)
  rwa [e1, e2] at this
theorem floor_le {p q : Int} (hq : 0 < q) : p / q * q ≤ p ∧ p < (p / q + 1) * q := by
  have a0 := Int.mul_ediv_add_emod p q
  have a1 := Int.emod_nonneg p (show q ≠ 0 by omega)
  have a2 := Int.emod_lt_of_pos p hq
  generalize p / q = x at *
  have e : (x + 1) * q = q * x + q := by grind
  have e2 : x * q = q * x := by grind
  omega
theorem floor_uniq {p q x : Int} (hq : 0 < q) (h1 : x * q ≤ p) (h2 : p < (x + 1) * q) : p / q = x := by
  obtain ⟨g1, g2⟩ := floor_le (p := p) hq
  generalize p / q = y at *
  rcases Int.lt_trichotomy y x with h | h | h
  · have := Int.mul_le_mul_of_nonneg_right (show y + 1 ≤ x by omega) (show 0 ≤ q by omega); omega
  · exact h
  · have := Int.mul_le_mul_of_nonneg_right (show x + 1 ≤ y by omega) (show 0 ≤ q by omega); omega
theorem floor_neg {p q : Int} (h : rf p q) : -p / q = if p / q = p ∧ 1 = q then -(p / q) else -(p / q + 1) := by
  have hq := h.2.2.1
  obtain ⟨g1, g2⟩ := floor_le (p := p) hq
  split
  · rename_i hw
    obtain ⟨_, rfl⟩ := hw
    rw [Int.ediv_one, Int.ediv_one]
  · rename_i hw
    have hne : p / q * q ≠ p := by
      intro e
      have hd : q ∣ p := ⟨p / q, by rw [Int.mul_comm]; exact e.symm⟩
      have h1 : q ∣ (Int.gcd p q : Int) := Int.dvd_coe_gcd hd (Int.dvd_refl q)
      rw [h.2.2.2] at h1
      have := Int.le_of_dvd (by decide) h1
      have : q = 1 := by omega
      subst this
      exact hw ⟨by rw [Int.ediv_one], rfl⟩
    refine floor_uniq hq ?_ ?_
    · have : -(p / q + 1) * q = -((p / q + 1) * q) := Int.neg_mul _ _
      omega
    · have : (-(p / q + 1) + 1) * q = -(p / q * q) := by grind
      omega

set_option maxHeartbeats 8000000 in
set_option maxRecDepth 20000 in
theorem fracFloor_m (Sa : Int) (La : List Int) (la : La.length ≤ 9223372036854775807) (Ta : Int) (Ma : List Int) (ma : Ma.length ≤ 9223372036854775807) (n : Int) (hn : -9223372036854775808 ≤ n ∧ n ≤ 9223372036854775807) : Means false Tryz.prog 7 [frac4 Sa La Ta Ma, ii n] (bb true) := by
  refine means_fn false 97 [.tmp 4] Tryz.func7 rfl rfl rfl (by simp) (by decide) rfl fun X hX => ?_
  (repeat (first | refine awp_seq ?_ | refine awp_block ?_ | (refine awp_runG [0, 1, 2, 4, 5, 6, 7, 8, 9, 10, 11, 12, 13, 14, 15, 24, 67, 80] hX ?_; (simp [go_sem]; try (refine ⟨by kernel_rfl, ?_⟩))) | (refine awp_drawnG [0, 1, 2, 4, 5, 6, 7, 8, 9, 10, 11, 12, 13, 14, 15, 24, 67, 80] hX mixed ?_; (simp [go_sem]; try (refine ⟨by kernel_rfl, ?_⟩))) | (refine awp_ret ?_; (simp [go_sem]; try (refine ⟨by kernel_rfl, ?_⟩))) | (refine awp_skip ?_; (simp [go_sem]; try (refine ⟨by kernel_rfl, ?_⟩))) | (refine awp_exit ?_; (simp [go_sem]; try (refine ⟨by kernel_rfl, ?_⟩)))))
  first | refine callK_intro (small_m) rfl (by simp [go_sem]) rfl ?_ | refine callT_intro (small_m) rfl (by simp [go_sem]) rfl ?_
  try (simp [go_sem]; try (refine ⟨by kernel_rfl, ?_⟩))
  (repeat (first | refine awp_seq ?_ | refine awp_block ?_ | (refine awp_runG [0, 1, 2, 4, 5, 6, 7, 8, 9, 10, 11, 12, 13, 14, 15, 24, 67, 80] hX ?_; (simp [go_sem]; try (refine ⟨by kernel_rfl, ?_⟩))) | (refine awp_drawnG [0, 1, 2, 4, 5, 6, 7, 8, 9, 10, 11, 12, 13, 14, 15, 24, 67, 80] hX mixed ?_; (simp [go_sem]; try (refine ⟨by kernel_rfl, ?_⟩))) | (refine awp_ret ?_; (simp [go_sem]; try (refine ⟨by kernel_rfl, ?_⟩))) | (refine awp_skip ?_; (simp [go_sem]; try (refine ⟨by kernel_rfl, ?_⟩))) | (refine awp_exit ?_; (simp [go_sem]; try (refine ⟨by kernel_rfl, ?_⟩)))))
  first | refine callK_intro (fewF_m Sa La la Ta Ma ma 30) rfl (by simp [go_sem]) rfl ?_ | refine callT_intro (fewF_m Sa La la Ta Ma ma 30) rfl (by simp [go_sem]) rfl ?_
  try (simp [go_sem]; try (refine ⟨by kernel_rfl, ?_⟩))
  first | refine callG_intro (fun hg => Right_f Sa La la Ta Ma ma) rfl (by simp [go_sem]) rfl ?_ | refine callGT_intro (fun hg => Right_f Sa La la Ta Ma ma) rfl (by simp [go_sem]) rfl ?_
  try (simp [go_sem]; try (refine ⟨by kernel_rfl, ?_⟩))
  refine awp_cond (b := decide (¬ (((La.length : Int) ≤ 30 ∧ (Ma.length : Int) ≤ 30) ∧ isF Sa La Ta Ma))) (by simp [go_sem, Bool.or_assoc]) (fun hb => ?_) (fun hb => ?_)
  · (repeat (first | refine awp_seq ?_ | refine awp_block ?_ | (refine awp_runG [0, 1, 2, 4, 5, 6, 7, 8, 9, 10, 11, 12, 13, 14, 15, 24, 67, 80] hX ?_; (simp [go_sem]; try (refine ⟨by kernel_rfl, ?_⟩))) | (refine awp_drawnG [0, 1, 2, 4, 5, 6, 7, 8, 9, 10, 11, 12, 13, 14, 15, 24, 67, 80] hX mixed ?_; (simp [go_sem]; try (refine ⟨by kernel_rfl, ?_⟩))) | (refine awp_ret ?_; (simp [go_sem]; try (refine ⟨by kernel_rfl, ?_⟩))) | (refine awp_skip ?_; (simp [go_sem]; try (refine ⟨by kernel_rfl, ?_⟩))) | (refine awp_exit ?_; (simp [go_sem]; try (refine ⟨by kernel_rfl, ?_⟩)))))
  have hb : ((La.length : Int) ≤ 30 ∧ (Ma.length : Int) ≤ 30) ∧ isF Sa La Ta Ma := by
    have hb : (La.length : Int) ≤ 30 ∧ (Ma.length : Int) ≤ 30 ∧ isF Sa La Ta Ma := by simpa using hb
    exact ⟨⟨hb.1, hb.2.1⟩, hb.2.2⟩
  obtain ⟨na, ra⟩ := hb
  clear la ma
  obtain ⟨p, q, za, rfl, rfl, rfl, rfl⟩ := fz_to (N := 30) ra (by omega) (by omega)
  clear ra na
  have hq := za.1.2.2.1
  have kf : ab (p / q) < 1048576 ^ 30 := by
    have := dq_bd (z := p) (w := q) (by omega)
    rw [(dq_pos hq).1] at this
    have := za.2.1
    omega
  have k1 : ab (1 : Int) < 1048576 ^ 30 := by decide
  have zf : rz (p / q) := rz_lt kf (by decide)
  have zg : rz (p / q + 1) := rz_lt (lt_add kf k1) (by decide)
  obtain ⟨g1, g2⟩ := floor_le (p := p) hq
  have c1 : ¬ 0 < cmpI (p / q * q) p := by unfold cmpI; split <;> (try split) <;> omega
  have c2 : ¬ cmpI ((p / q + 1) * q) p ≤ 0 := by unfold cmpI; split <;> (try split) <;> omega
  have hneg := floor_neg za.1
  have hzn := rf_neg za.1
  have zn := rz_neg zf
  have zgn := rz_neg zg
  have znd : rz (-p / q) := by rw [hneg]; split <;> assumption
  obtain ⟨o1, o2⟩ := low_rat (rf_one (rz_i hn))
  (repeat (first | refine awp_seq ?_ | refine awp_block ?_ | (refine awp_runG [0, 1, 2, 4, 5, 6, 7, 8, 9, 10, 11, 12, 13, 14, 15, 24, 67, 80] hX ?_; (simp [go_sem]; try (refine ⟨by kernel_rfl, ?_⟩))) | (refine awp_drawnG [0, 1, 2, 4, 5, 6, 7, 8, 9, 10, 11, 12, 13, 14, 15, 24, 67, 80] hX mixed ?_; (simp [go_sem]; try (refine ⟨by kernel_rfl, ?_⟩))) | (refine awp_ret ?_; (simp [go_sem]; try (refine ⟨by kernel_rfl, ?_⟩))) | (refine awp_skip ?_; (simp [go_sem]; try (refine ⟨by kernel_rfl, ?_⟩))) | (refine awp_exit ?_; (simp [go_sem]; try (refine ⟨by kernel_rfl, ?_⟩)))))
  first | refine callK_intro (Floor_f p q za.1) rfl (by simp [go_sem]) rfl ?_ | refine callT_intro (Floor_f p q za.1) rfl (by simp [go_sem]) rfl ?_
  try (simp [go_sem]; try (refine ⟨by kernel_rfl, ?_⟩))
  (repeat (first | refine awp_seq ?_ | refine awp_block ?_ | (refine awp_runG [0, 1, 2, 4, 5, 6, 7, 8, 9, 10, 11, 12, 13, 14, 15, 24, 67, 80] hX ?_; (simp [go_sem]; try (refine ⟨by kernel_rfl, ?_⟩))) | (refine awp_drawnG [0, 1, 2, 4, 5, 6, 7, 8, 9, 10, 11, 12, 13, 14, 15, 24, 67, 80] hX mixed ?_; (simp [go_sem]; try (refine ⟨by kernel_rfl, ?_⟩))) | (refine awp_ret ?_; (simp [go_sem]; try (refine ⟨by kernel_rfl, ?_⟩))) | (refine awp_skip ?_; (simp [go_sem]; try (refine ⟨by kernel_rfl, ?_⟩))) | (refine awp_exit ?_; (simp [go_sem]; try (refine ⟨by kernel_rfl, ?_⟩)))))
  first | refine callK_intro (Of_m 1 (by decide)) rfl (by simp [go_sem]) rfl ?_ | refine callT_intro (Of_m 1 (by decide)) rfl (by simp [go_sem]) rfl ?_
  try (simp [go_sem]; try (refine ⟨by kernel_rfl, ?_⟩))
  first | refine callK_intro (Add_ok zf (rz_c (by decide)) zg) rfl (by simp [go_sem]) rfl ?_ | refine callT_intro (Add_ok zf (rz_c (by decide)) zg) rfl (by simp [go_sem]) rfl ?_
  try (simp [go_sem]; try (refine ⟨by kernel_rfl, ?_⟩))
  (repeat (first | refine awp_seq ?_ | refine awp_block ?_ | (refine awp_runG [0, 1, 2, 4, 5, 6, 7, 8, 9, 10, 11, 12, 13, 14, 15, 24, 67, 80] hX ?_; (simp [go_sem]; try (refine ⟨by kernel_rfl, ?_⟩))) | (refine awp_drawnG [0, 1, 2, 4, 5, 6, 7, 8, 9, 10, 11, 12, 13, 14, 15, 24, 67, 80] hX mixed ?_; (simp [go_sem]; try (refine ⟨by kernel_rfl, ?_⟩))) | (refine awp_ret ?_; (simp [go_sem]; try (refine ⟨by kernel_rfl, ?_⟩))) | (refine awp_skip ?_; (simp [go_sem]; try (refine ⟨by kernel_rfl, ?_⟩))) | (refine awp_exit ?_; (simp [go_sem]; try (refine ⟨by kernel_rfl, ?_⟩)))))
  first | refine callK_intro (Of_m 1 (by decide)) rfl (by simp [go_sem]) rfl ?_ | refine callT_intro (Of_m 1 (by decide)) rfl (by simp [go_sem]) rfl ?_
  try (simp [go_sem]; try (refine ⟨by kernel_rfl, ?_⟩))
  first | refine callK_intro (New_1 zf) rfl (by simp [go_sem]) rfl ?_ | refine callT_intro (New_1 zf) rfl (by simp [go_sem]) rfl ?_
  try (simp [go_sem]; try (refine ⟨by kernel_rfl, ?_⟩))
  (repeat (first | refine awp_seq ?_ | refine awp_block ?_ | (refine awp_runG [0, 1, 2, 4, 5, 6, 7, 8, 9, 10, 11, 12, 13, 14, 15, 24, 67, 80] hX ?_; (simp [go_sem]; try (refine ⟨by kernel_rfl, ?_⟩))) | (refine awp_drawnG [0, 1, 2, 4, 5, 6, 7, 8, 9, 10, 11, 12, 13, 14, 15, 24, 67, 80] hX mixed ?_; (simp [go_sem]; try (refine ⟨by kernel_rfl, ?_⟩))) | (refine awp_ret ?_; (simp [go_sem]; try (refine ⟨by kernel_rfl, ?_⟩))) | (refine awp_skip ?_; (simp [go_sem]; try (refine ⟨by kernel_rfl, ?_⟩))) | (refine awp_exit ?_; (simp [go_sem]; try (refine ⟨by kernel_rfl, ?_⟩)))))
  first | refine callK_intro (Of_m 1 (by decide)) rfl (by simp [go_sem]) rfl ?_ | refine callT_intro (Of_m 1 (by decide)) rfl (by simp [go_sem]) rfl ?_
  try (simp [go_sem]; try (refine ⟨by kernel_rfl, ?_⟩))
  first | refine callK_intro (New_1 zg) rfl (by simp [go_sem]) rfl ?_ | refine callT_intro (New_1 zg) rfl (by simp [go_sem]) rfl ?_
  try (simp [go_sem]; try (refine ⟨by kernel_rfl, ?_⟩))
  (repeat (first | refine awp_seq ?_ | refine awp_block ?_ | (refine awp_runG [0, 1, 2, 4, 5, 6, 7, 8, 9, 10, 11, 12, 13, 14, 15, 24, 67, 80] hX ?_; (simp [go_sem]; try (refine ⟨by kernel_rfl, ?_⟩))) | (refine awp_drawnG [0, 1, 2, 4, 5, 6, 7, 8, 9, 10, 11, 12, 13, 14, 15, 24, 67, 80] hX mixed ?_; (simp [go_sem]; try (refine ⟨by kernel_rfl, ?_⟩))) | (refine awp_ret ?_; (simp [go_sem]; try (refine ⟨by kernel_rfl, ?_⟩))) | (refine awp_skip ?_; (simp [go_sem]; try (refine ⟨by kernel_rfl, ?_⟩))) | (refine awp_exit ?_; (simp [go_sem]; try (refine ⟨by kernel_rfl, ?_⟩)))))
  first | refine callG_intro (fun hg => Compare_t (x := cmpI (p / q * q) p) (rf_one zf) za.1 (by rw [Int.mul_one])) rfl (by simp [go_sem]) rfl ?_ | refine callGT_intro (fun hg => Compare_t (x := cmpI (p / q * q) p) (rf_one zf) za.1 (by rw [Int.mul_one])) rfl (by simp [go_sem]) rfl ?_
  try (simp [go_sem]; try (refine ⟨by kernel_rfl, ?_⟩))
  first | refine callG_intro (fun hg => Compare_t (x := cmpI ((p / q + 1) * q) p) (rf_one zg) za.1 (by rw [Int.mul_one])) rfl (by simp [go_sem]) rfl ?_ | refine callGT_intro (fun hg => Compare_t (x := cmpI ((p / q + 1) * q) p) (rf_one zg) za.1 (by rw [Int.mul_one])) rfl (by simp [go_sem]) rfl ?_
  try (simp [go_sem]; try (refine ⟨by kernel_rfl, ?_⟩))
  refine awp_cond (b := false) (by simp [go_sem]; omega) (fun h => by cases h) (fun _ => ?_)
  (repeat (first | refine awp_seq ?_ | refine awp_block ?_ | (refine awp_runG [0, 1, 2, 4, 5, 6, 7, 8, 9, 10, 11, 12, 13, 14, 15, 24, 67, 80] hX ?_; (simp [go_sem]; try (refine ⟨by kernel_rfl, ?_⟩))) | (refine awp_drawnG [0, 1, 2, 4, 5, 6, 7, 8, 9, 10, 11, 12, 13, 14, 15, 24, 67, 80] hX mixed ?_; (simp [go_sem]; try (refine ⟨by kernel_rfl, ?_⟩))) | (refine awp_ret ?_; (simp [go_sem]; try (refine ⟨by kernel_rfl, ?_⟩))) | (refine awp_skip ?_; (simp [go_sem]; try (refine ⟨by kernel_rfl, ?_⟩))) | (refine awp_exit ?_; (simp [go_sem]; try (refine ⟨by kernel_rfl, ?_⟩)))))
  first | refine callK_intro (Neg_m p za.1.1) rfl (by simp [go_sem]) rfl ?_ | refine callT_intro (Neg_m p za.1.1) rfl (by simp [go_sem]) rfl ?_
  try (simp [go_sem]; try (refine ⟨by kernel_rfl, ?_⟩))
  first | refine callK_intro (Floor_f (-p) q hzn) rfl (by simp [go_sem]) rfl ?_ | refine callT_intro (Floor_f (-p) q hzn) rfl (by simp [go_sem]) rfl ?_
  try (simp [go_sem]; try (refine ⟨by kernel_rfl, ?_⟩))
  (repeat (first | refine awp_seq ?_ | refine awp_block ?_ | (refine awp_runG [0, 1, 2, 4, 5, 6, 7, 8, 9, 10, 11, 12, 13, 14, 15, 24, 67, 80] hX ?_; (simp [go_sem]; try (refine ⟨by kernel_rfl, ?_⟩))) | (refine awp_drawnG [0, 1, 2, 4, 5, 6, 7, 8, 9, 10, 11, 12, 13, 14, 15, 24, 67, 80] hX mixed ?_; (simp [go_sem]; try (refine ⟨by kernel_rfl, ?_⟩))) | (refine awp_ret ?_; (simp [go_sem]; try (refine ⟨by kernel_rfl, ?_⟩))) | (refine awp_skip ?_; (simp [go_sem]; try (refine ⟨by kernel_rfl, ?_⟩))) | (refine awp_exit ?_; (simp [go_sem]; try (refine ⟨by kernel_rfl, ?_⟩)))))
  first | refine callK_intro (SameF_m (p / q) 1 p q zf (rz_c (by decide)) za.1.1 za.1.2.1) rfl (by simp [go_sem]) rfl ?_ | refine callT_intro (SameF_m (p / q) 1 p q zf (rz_c (by decide)) za.1.1 za.1.2.1) rfl (by simp [go_sem]) rfl ?_
  try (simp [go_sem]; try (refine ⟨by kernel_rfl, ?_⟩))
  (repeat (first | refine awp_seq ?_ | refine awp_block ?_ | (refine awp_runG [0, 1, 2, 4, 5, 6, 7, 8, 9, 10, 11, 12, 13, 14, 15, 24, 67, 80] hX ?_; (simp [go_sem]; try (refine ⟨by kernel_rfl, ?_⟩))) | (refine awp_drawnG [0, 1, 2, 4, 5, 6, 7, 8, 9, 10, 11, 12, 13, 14, 15, 24, 67, 80] hX mixed ?_; (simp [go_sem]; try (refine ⟨by kernel_rfl, ?_⟩))) | (refine awp_ret ?_; (simp [go_sem]; try (refine ⟨by kernel_rfl, ?_⟩))) | (refine awp_skip ?_; (simp [go_sem]; try (refine ⟨by kernel_rfl, ?_⟩))) | (refine awp_exit ?_; (simp [go_sem]; try (refine ⟨by kernel_rfl, ?_⟩)))))
  first | refine callK_intro (Neg_m (p / q + 1) zg) rfl (by simp [go_sem]) rfl ?_ | refine callT_intro (Neg_m (p / q + 1) zg) rfl (by simp [go_sem]) rfl ?_
  try (simp [go_sem]; try (refine ⟨by kernel_rfl, ?_⟩))
  (repeat (first | refine awp_seq ?_ | refine awp_block ?_ | (refine awp_runG [0, 1, 2, 4, 5, 6, 7, 8, 9, 10, 11, 12, 13, 14, 15, 24, 67, 80] hX ?_; (simp [go_sem]; try (refine ⟨by kernel_rfl, ?_⟩))) | (refine awp_drawnG [0, 1, 2, 4, 5, 6, 7, 8, 9, 10, 11, 12, 13, 14, 15, 24, 67, 80] hX mixed ?_; (simp [go_sem]; try (refine ⟨by kernel_rfl, ?_⟩))) | (refine awp_ret ?_; (simp [go_sem]; try (refine ⟨by kernel_rfl, ?_⟩))) | (refine awp_skip ?_; (simp [go_sem]; try (refine ⟨by kernel_rfl, ?_⟩))) | (refine awp_exit ?_; (simp [go_sem]; try (refine ⟨by kernel_rfl, ?_⟩)))))
  refine awp_cond (b := decide (p / q = p ∧ 1 = q)) (by simp [go_sem]) (fun h => ?_) (fun h => ?_)
  · simp only [decide_eq_true_eq] at h
    rw [if_pos h] at hneg
    (repeat (first | refine awp_seq ?_ | refine awp_block ?_ | (refine awp_runG [0, 1, 2, 4, 5, 6, 7, 8, 9, 10, 11, 12, 13, 14, 15, 24, 67, 80] hX ?_; (simp [go_sem]; try (refine ⟨by kernel_rfl, ?_⟩))) | (refine awp_drawnG [0, 1, 2, 4, 5, 6, 7, 8, 9, 10, 11, 12, 13, 14, 15, 24, 67, 80] hX mixed ?_; (simp [go_sem]; try (refine ⟨by kernel_rfl, ?_⟩))) | (refine awp_ret ?_; (simp [go_sem]; try (refine ⟨by kernel_rfl, ?_⟩))) | (refine awp_skip ?_; (simp [go_sem]; try (refine ⟨by kernel_rfl, ?_⟩))) | (refine awp_exit ?_; (simp [go_sem]; try (refine ⟨by kernel_rfl, ?_⟩)))))
    first | refine callK_intro (Neg_m (p / q) zf) rfl (by simp [go_sem]) rfl ?_ | refine callT_intro (Neg_m (p / q) zf) rfl (by simp [go_sem]) rfl ?_
    try (simp [go_sem]; try (refine ⟨by kernel_rfl, ?_⟩))
    (repeat (first | refine awp_seq ?_ | refine awp_block ?_ | (refine awp_runG [0, 1, 2, 4, 5, 6, 7, 8, 9, 10, 11, 12, 13, 14, 15, 24, 67, 80] hX ?_; (simp [go_sem]; try (refine ⟨by kernel_rfl, ?_⟩))) | (refine awp_drawnG [0, 1, 2, 4, 5, 6, 7, 8, 9, 10, 11, 12, 13, 14, 15, 24, 67, 80] hX mixed ?_; (simp [go_sem]; try (refine ⟨by kernel_rfl, ?_⟩))) | (refine awp_ret ?_; (simp [go_sem]; try (refine ⟨by kernel_rfl, ?_⟩))) | (refine awp_skip ?_; (simp [go_sem]; try (refine ⟨by kernel_rfl, ?_⟩))) | (refine awp_exit ?_; (simp [go_sem]; try (refine ⟨by kernel_rfl, ?_⟩)))))
    first | refine callG_intro (fun hg => SameBig_t hneg znd) rfl (by simp [go_sem]) rfl ?_ | refine callGT_intro (fun hg => SameBig_t hneg znd) rfl (by simp [go_sem]) rfl ?_
    try (simp [go_sem]; try (refine ⟨by kernel_rfl, ?_⟩))
    first | refine callG_intro (fun hg => of_t hn (by decide) (by decide) o1 o2) rfl (by simp [go_sem]) rfl ?_ | refine callGT_intro (fun hg => of_t hn (by decide) (by decide) o1 o2) rfl (by simp [go_sem]) rfl ?_
    try (simp [go_sem]; try (refine ⟨by kernel_rfl, ?_⟩))
    first | refine callG_intro (fun hg => Floor_t (x := n) (rf_one (rz_i hn)) (Int.ediv_one n)) rfl (by simp [go_sem]) rfl ?_ | refine callGT_intro (fun hg => Floor_t (x := n) (rf_one (rz_i hn)) (Int.ediv_one n)) rfl (by simp [go_sem]) rfl ?_
    try (simp [go_sem]; try (refine ⟨by kernel_rfl, ?_⟩))
    first | refine callG_intro (fun hg => Of_m n hn) rfl (by simp [go_sem]) rfl ?_ | refine callGT_intro (fun hg => Of_m n hn) rfl (by simp [go_sem]) rfl ?_
    try (simp [go_sem]; try (refine ⟨by kernel_rfl, ?_⟩))
    first | refine callG_intro (fun hg => SameBig_t (z := n) rfl (rz_i hn)) rfl (by simp [go_sem]) rfl ?_ | refine callGT_intro (fun hg => SameBig_t (z := n) rfl (rz_i hn)) rfl (by simp [go_sem]) rfl ?_
    try (simp [go_sem]; try (refine ⟨by kernel_rfl, ?_⟩))
    (repeat (first | refine awp_seq ?_ | refine awp_block ?_ | (refine awp_runG [0, 1, 2, 4, 5, 6, 7, 8, 9, 10, 11, 12, 13, 14, 15, 24, 67, 80] hX ?_; (simp [go_sem]; try (refine ⟨by kernel_rfl, ?_⟩))) | (refine awp_drawnG [0, 1, 2, 4, 5, 6, 7, 8, 9, 10, 11, 12, 13, 14, 15, 24, 67, 80] hX mixed ?_; (simp [go_sem]; try (refine ⟨by kernel_rfl, ?_⟩))) | (refine awp_ret ?_; (simp [go_sem]; try (refine ⟨by kernel_rfl, ?_⟩))) | (refine awp_skip ?_; (simp [go_sem]; try (refine ⟨by kernel_rfl, ?_⟩))) | (refine awp_exit ?_; (simp [go_sem]; try (refine ⟨by kernel_rfl, ?_⟩)))))
  · simp only [decide_eq_false_iff_not] at h
    rw [if_neg h] at hneg
    (repeat (first | refine awp_seq ?_ | refine awp_block ?_ | (refine awp_runG [0, 1, 2, 4, 5, 6, 7, 8, 9, 10, 11, 12, 13, 14, 15, 24, 67, 80] hX ?_; (simp [go_sem]; try (refine ⟨by kernel_rfl, ?_⟩))) | (refine awp_drawnG [0, 1, 2, 4, 5, 6, 7, 8, 9, 10, 11, 12, 13, 14, 15, 24, 67, 80] hX mixed ?_; (simp [go_sem]; try (refine ⟨by kernel_rfl, ?_⟩))) | (refine awp_ret ?_; (simp [go_sem]; try (refine ⟨by kernel_rfl, ?_⟩))) | (refine awp_skip ?_; (simp [go_sem]; try (refine ⟨by kernel_rfl, ?_⟩))) | (refine awp_exit ?_; (simp [go_sem]; try (refine ⟨by kernel_rfl, ?_⟩)))))
    first | refine callG_intro (fun hg => SameBig_t hneg znd) rfl (by simp [go_sem]) rfl ?_ | refine callGT_intro (fun hg => SameBig_t hneg znd) rfl (by simp [go_sem]) rfl ?_
    try (simp [go_sem]; try (refine ⟨by kernel_rfl, ?_⟩))
    first | refine callG_intro (fun hg => of_t hn (by decide) (by decide) o1 o2) rfl (by simp [go_sem]) rfl ?_ | refine callGT_intro (fun hg => of_t hn (by decide) (by decide) o1 o2) rfl (by simp [go_sem]) rfl ?_
    try (simp [go_sem]; try (refine ⟨by kernel_rfl, ?_⟩))
    first | refine callG_intro (fun hg => Floor_t (x := n) (rf_one (rz_i hn)) (Int.ediv_one n)) rfl (by simp [go_sem]) rfl ?_ | refine callGT_intro (fun hg => Floor_t (x := n) (rf_one (rz_i hn)) (Int.ediv_one n)) rfl (by simp [go_sem]) rfl ?_
    try (simp [go_sem]; try (refine ⟨by kernel_rfl, ?_⟩))
    first | refine callG_intro (fun hg => Of_m n hn) rfl (by simp [go_sem]) rfl ?_ | refine callGT_intro (fun hg => Of_m n hn) rfl (by simp [go_sem]) rfl ?_
    try (simp [go_sem]; try (refine ⟨by kernel_rfl, ?_⟩))
    first | refine callG_intro (fun hg => SameBig_t (z := n) rfl (rz_i hn)) rfl (by simp [go_sem]) rfl ?_ | refine callGT_intro (fun hg => SameBig_t (z := n) rfl (rz_i hn)) rfl (by simp [go_sem]) rfl ?_
    try (simp [go_sem]; try (refine ⟨by kernel_rfl, ?_⟩))
    (repeat (first | refine awp_seq ?_ | refine awp_block ?_ | (refine awp_runG [0, 1, 2, 4, 5, 6, 7, 8, 9, 10, 11, 12, 13, 14, 15, 24, 67, 80] hX ?_; (simp [go_sem]; try (refine ⟨by kernel_rfl, ?_⟩))) | (refine awp_drawnG [0, 1, 2, 4, 5, 6, 7, 8, 9, 10, 11, 12, 13, 14, 15, 24, 67, 80] hX mixed ?_; (simp [go_sem]; try (refine ⟨by kernel_rfl, ?_⟩))) | (refine awp_ret ?_; (simp [go_sem]; try (refine ⟨by kernel_rfl, ?_⟩))) | (refine awp_skip ?_; (simp [go_sem]; try (refine ⟨by kernel_rfl, ?_⟩))) | (refine awp_exit ?_; (simp [go_sem]; try (refine ⟨by kernel_rfl, ?_⟩)))))

end Go.Proofs.YthgonmfgahbngaaGreatDoor
