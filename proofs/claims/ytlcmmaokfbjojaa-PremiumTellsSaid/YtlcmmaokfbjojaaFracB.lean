/-
  Layer 5: comparing, floors.
-/
import Derived.Test.YtlcmmaokfbjojaaFracA
set_option linter.all false
namespace Go.Proofs.Ytlcmmaokfbjojaa
open Go.RowKit Go.Ab
attribute [local irreducible] AWP Go.Ab.Sub Means MeansH CallK CallG CallT CallGT

theorem dq_pos {p q : Int} (h : 0 < q) : dq p q = p / q ∧ dr p q = p % q := by
  unfold dq dr
  have e1 : sg q = 1 := by rcases sg_cases q with h' | h' | h' <;> omega
  have e2 : ab q = q := by unfold ab; rw [if_neg (by omega)]
  rw [e1, e2, Int.one_mul, Int.one_mul]; exact ⟨rfl, rfl⟩
theorem cmpI_one {a b : Int} (h : a < b) : cmpI a b = -1 := by unfold cmpI; rw [if_pos h]
theorem cmpI_two {a b : Int} (h : b < a) : cmpI a b = 1 := by unfold cmpI; rw [if_neg (by omega), if_pos h]
/-- The integral parts decide. -/
theorem cmp_one {p q r s : Int} (hq : 0 < q) (hs : 0 < s) (h : p / q ≠ r / s) : cmpI (p * s) (r * q) = cmpI (p / q) (r / s) := by
  have a0 := Int.mul_ediv_add_emod p q
  have a1 := Int.emod_nonneg p (show q ≠ 0 by omega)
  have a2 := Int.emod_lt_of_pos p hq
  have b0 := Int.mul_ediv_add_emod r s
  have b1 := Int.emod_nonneg r (show s ≠ 0 by omega)
  have b2 := Int.emod_lt_of_pos r hs
  generalize p / q = x at *
  generalize r / s = y at *
  generalize p % q = u at *
  generalize r % s = v at *
  subst a0 b0
  have hqs : 0 < q * s := Int.mul_pos hq hs
  have e : (q * x + u) * s - (s * y + v) * q = q * s * (x - y) + (u * s - v * q) := by grind
  have u1 : u * s ≤ (q - 1) * s := Int.mul_le_mul_of_nonneg_right (by omega) (by omega)
  have u0 : 0 ≤ u * s := Int.mul_nonneg a1 (by omega)
  have v1 : v * q ≤ (s - 1) * q := Int.mul_le_mul_of_nonneg_right (by omega) (by omega)
  have v0 : 0 ≤ v * q := Int.mul_nonneg b1 (by omega)
  have e1 : (q - 1) * s = q * s - s := by grind
  have e2 : (s - 1) * q = q * s - q := by grind
  rcases Int.lt_or_gt_of_ne h with h | h
  · rw [cmpI_one h, cmpI_one]
    have : q * s * (x - y) ≤ q * s * (-1) := Int.mul_le_mul_of_nonneg_left (by omega) (by omega)
    omega
  · rw [cmpI_two h, cmpI_two]
    have : q * s * 1 ≤ q * s * (x - y) := Int.mul_le_mul_of_nonneg_left (by omega) (by omega)
    omega
theorem cmpI_swap (a b : Int) : cmpI a b = -cmpI b a := by unfold cmpI; split <;> split <;> (try split) <;> omega
theorem cmpI_of_sub {a b c d : Int} (h : a - b = c - d) : cmpI a b = cmpI c d := by rw [← cmpI_sg, ← cmpI_sg, h]
/-- Else what is left decides. -/
theorem cmp_two {p q r s : Int} (h : p / q = r / s) : cmpI (p * s) (r * q) = cmpI (p % q * s) (r % s * q) := by
  have a0 := Int.mul_ediv_add_emod p q
  have b0 := Int.mul_ediv_add_emod r s
  rw [h] at a0
  apply cmpI_of_sub
  generalize r / s = y at *
  generalize p % q = u at *
  generalize r % s = v at *
  subst a0 b0
  grind
theorem cmp_zero {u v q s : Int} (hq : 0 < q) (hs : 0 < s) (hu : 0 ≤ u) (hv : 0 ≤ v) (h : u = 0 ∨ v = 0) : cmpI (u * s) (v * q) = sg u - sg v := by
  rcases h with h | h <;> subst h
  · rw [Int.zero_mul, ← cmpI_sg, Int.zero_sub, sg_neg, sg_mul]
    have : sg q = 1 := by rcases sg_cases q with h' | h' | h' <;> omega
    rw [this, Int.mul_one]
    show _ = (0 : Int) - _
    omega
  · rw [Int.zero_mul, ← cmpI_sg, Int.sub_zero, sg_mul]
    have : sg s = 1 := by rcases sg_cases s with h' | h' | h' <;> omega
    rw [this, Int.mul_one]
    show _ = _ - (0 : Int)
    omega
theorem rz_mono {a b : Int} (h : ab a ≤ ab b) (hb : rz b) : rz a := by unfold rz at *; omega
theorem rz_mod {p q : Int} (hq : 0 < q) (h : rz q) : rz (p % q) := by
  have a1 := Int.emod_nonneg p (show q ≠ 0 by omega)
  have a2 := Int.emod_lt_of_pos p hq
  refine rz_mono ?_ h
  unfold ab; split <;> split <;> omega
theorem rz_div {p q : Int} (hq : 0 < q) (h : rz p) : rz (p / q) := by
  have := dq_bd (z := p) (w := q) (by omega)
  rw [(dq_pos hq).1] at this
  exact rz_mono this h

set_option maxHeartbeats 4000000 in
set_option maxRecDepth 20000 in
theorem Compare_f (a b c d : Int) (hab : rf a b) (hcd : rf c d) : Means false Try.prog 15 [frZ a b, frZ c d] (ii (cmpI (a * d) (c * b))) := by
  have hb0 := hab.2.2.1
  have hd0 := hcd.2.2.1
  refine means_fn false 78 [.tmp 4] Try.func15 rfl rfl rfl (by simp) (by decide) rfl fun X hX => ?_
  (repeat (first | refine awp_seq ?_ | refine awp_block ?_ | ((first | refine awp_runG [0, 1, 2, 3, 4, 5, 6, 7, 8, 9, 10, 11, 13, 14, 16, 24, 52, 58] hX ?_ | refine awp_drawnG [0, 1, 2, 3, 4, 5, 6, 7, 8, 9, 10, 11, 13, 14, 16, 24, 52, 58] hX mixed ?_ | refine awp_ret ?_ | refine awp_skip ?_ | refine awp_exit ?_); (simp [go_sem]; try (refine ⟨by kernel_rfl, ?_⟩)))))
  first | refine callK_intro (Right_t a b hab) rfl (by simp [go_sem]) rfl ?_ | refine callT_intro (Right_t a b hab) rfl (by simp [go_sem]) rfl ?_
  try (simp [go_sem]; try (refine ⟨by kernel_rfl, ?_⟩))
  first | refine callG_intro (fun hg => Right_t c d hcd) rfl (by simp [go_sem]) rfl ?_ | refine callGT_intro (fun hg => Right_t c d hcd) rfl (by simp [go_sem]) rfl ?_
  try (simp [go_sem]; try (refine ⟨by kernel_rfl, ?_⟩))
  refine awp_cond (b := false) (by simp [go_sem]) (fun h => by cases h) (fun _ => ?_)
  (repeat (first | refine awp_seq ?_ | refine awp_block ?_ | ((first | refine awp_runG [0, 1, 2, 3, 4, 5, 6, 7, 8, 9, 10, 11, 13, 14, 16, 24, 52, 58] hX ?_ | refine awp_skip ?_ | refine awp_exit ?_); (simp [go_sem]; try (refine ⟨by kernel_rfl, ?_⟩)))))
  refine awp_drawnA [0, 1, 2, 3, 4, 5, 6, 7, 8, 9, 10, 11, 13, 14, 16, 24, 52, 58] 8 4 hX mixed ?_; (simp [go_sem]; try (refine ⟨by kernel_rfl, ?_⟩))
  (repeat (first | refine awp_seq ?_ | refine awp_block ?_ | ((first | refine awp_runG [0, 1, 2, 3, 4, 5, 6, 7, 8, 9, 10, 11, 13, 14, 16, 24, 52, 58] hX ?_ | refine awp_drawnG [0, 1, 2, 3, 4, 5, 6, 7, 8, 9, 10, 11, 13, 14, 16, 24, 52, 58] hX mixed ?_ | refine awp_ret ?_ | refine awp_skip ?_ | refine awp_exit ?_); (simp [go_sem]; try (refine ⟨by kernel_rfl, ?_⟩)))))
  refine awp_loop (fun x : Int × Int × Int × Int × Int => ⟨mkE [(5, .el 0 2 0 0), (6, .el 1 2 0 0), (7, .el 2 2 0 0), (8, .el 3 2 0 0), (9, ii x.2.2.2.2)], [.row ⟨36, 2, [bigZ x.1]⟩, .row ⟨36, 2, [bigZ x.2.1]⟩, .row ⟨36, 2, [bigZ x.2.2.1]⟩, .row ⟨36, 2, [bigZ x.2.2.2.1]⟩]⟩)
    (fun x => rz x.1 ∧ rz x.2.1 ∧ rz x.2.2.1 ∧ rz x.2.2.2.1 ∧ 0 < x.2.1 ∧ 0 < x.2.2.2.1 ∧ (x.2.2.2.2 = 1 ∨ x.2.2.2.2 = -1) ∧ x.2.2.2.2 * cmpI (x.1 * x.2.2.2.1) (x.2.2.1 * x.2.1) = cmpI (a * d) (c * b)) (fun x => x.2.1.toNat) (a, b, c, d, 1) ?_ ?_ ?_
  · refine sub_of _ [.old 2 ⟨36, 2, [bigZ a]⟩, .old 3 ⟨36, 2, [bigZ b]⟩, .old 4 ⟨36, 2, [bigZ c]⟩, .old 5 ⟨36, 2, [bigZ d]⟩] (by simp [go_sem]) ?_
    simp [go_sem]
  · exact ⟨hab.1, hab.2.1, hcd.1, hcd.2.1, hb0, hd0, .inl rfl, by simp⟩
  · rintro ⟨p, q, r, s, e⟩ ⟨zp, zq, zr, zs, hq, hs, he, hE⟩
    simp only [] at zp zq zr zs hq hs he hE
    have hu0 := Int.emod_nonneg p (show q ≠ 0 by omega)
    have hu1 := Int.emod_lt_of_pos p hq
    have hv0 := Int.emod_nonneg r (show s ≠ 0 by omega)
    have hv1 := Int.emod_lt_of_pos r hs
    have zx := rz_div hq zp
    have zy := rz_div hs zr
    have zu := rz_mod (p := p) hq zq
    have zv := rz_mod (p := r) hs zs
    have c1 := cmpI_bd (p / q) (r / s)
    have c2 := cmpI_zero (p / q) (r / s)
    have s1 := sg_bd (p % q)
    have s2 := sg_bd (r % s)
    (repeat (first | refine awp_seq ?_ | refine awp_block ?_ | ((first | refine awp_runG [0, 1, 2, 3, 4, 5, 6, 7, 8, 9, 10, 11, 13, 14, 16, 24, 52, 58] hX ?_ | refine awp_drawnG [0, 1, 2, 3, 4, 5, 6, 7, 8, 9, 10, 11, 13, 14, 16, 24, 52, 58] hX mixed ?_ | refine awp_ret ?_ | refine awp_skip ?_ | refine awp_exit ?_); (simp [go_sem]; try (refine ⟨by kernel_rfl, ?_⟩)))))
    first | refine callK_intro (Div_ok zp zq (by omega) (dq_pos hq).1 (dq_pos hq).2) rfl (by simp [go_sem]) rfl ?_ | refine callT_intro (Div_ok zp zq (by omega) (dq_pos hq).1 (dq_pos hq).2) rfl (by simp [go_sem]) rfl ?_
    try (simp [go_sem]; try (refine ⟨by kernel_rfl, ?_⟩))
    (repeat (first | refine awp_seq ?_ | refine awp_block ?_ | ((first | refine awp_runG [0, 1, 2, 3, 4, 5, 6, 7, 8, 9, 10, 11, 13, 14, 16, 24, 52, 58] hX ?_ | refine awp_drawnG [0, 1, 2, 3, 4, 5, 6, 7, 8, 9, 10, 11, 13, 14, 16, 24, 52, 58] hX mixed ?_ | refine awp_ret ?_ | refine awp_skip ?_ | refine awp_exit ?_); (simp [go_sem]; try (refine ⟨by kernel_rfl, ?_⟩)))))
    first | refine callK_intro (Div_ok zr zs (by omega) (dq_pos hs).1 (dq_pos hs).2) rfl (by simp [go_sem]) rfl ?_ | refine callT_intro (Div_ok zr zs (by omega) (dq_pos hs).1 (dq_pos hs).2) rfl (by simp [go_sem]) rfl ?_
    try (simp [go_sem]; try (refine ⟨by kernel_rfl, ?_⟩))
    (repeat (first | refine awp_seq ?_ | refine awp_block ?_ | ((first | refine awp_runG [0, 1, 2, 3, 4, 5, 6, 7, 8, 9, 10, 11, 13, 14, 16, 24, 52, 58] hX ?_ | refine awp_drawnG [0, 1, 2, 3, 4, 5, 6, 7, 8, 9, 10, 11, 13, 14, 16, 24, 52, 58] hX mixed ?_ | refine awp_ret ?_ | refine awp_skip ?_ | refine awp_exit ?_); (simp [go_sem]; try (refine ⟨by kernel_rfl, ?_⟩)))))
    first | refine callK_intro (Compare_m _ _ zx zy) rfl (by simp [go_sem]) rfl ?_ | refine callT_intro (Compare_m _ _ zx zy) rfl (by simp [go_sem]) rfl ?_
    try (simp [go_sem]; try (refine ⟨by kernel_rfl, ?_⟩))
    (repeat (first | refine awp_seq ?_ | refine awp_block ?_ | ((first | refine awp_runG [0, 1, 2, 3, 4, 5, 6, 7, 8, 9, 10, 11, 13, 14, 16, 24, 52, 58] hX ?_ | refine awp_drawnG [0, 1, 2, 3, 4, 5, 6, 7, 8, 9, 10, 11, 13, 14, 16, 24, 52, 58] hX mixed ?_ | refine awp_ret ?_ | refine awp_skip ?_ | refine awp_exit ?_); (simp [go_sem]; try (refine ⟨by kernel_rfl, ?_⟩)))))
    by_cases hxy : p / q = r / s
    · have hc0 : cmpI (p / q) (r / s) = 0 := c2.2 hxy
      refine awp_cond (b := false) (by simp [go_sem, hc0]) (fun h => by cases h) (fun _ => ?_)
      (repeat (first | refine awp_seq ?_ | refine awp_block ?_ | ((first | refine awp_runG [0, 1, 2, 3, 4, 5, 6, 7, 8, 9, 10, 11, 13, 14, 16, 24, 52, 58] hX ?_ | refine awp_drawnG [0, 1, 2, 3, 4, 5, 6, 7, 8, 9, 10, 11, 13, 14, 16, 24, 52, 58] hX mixed ?_ | refine awp_ret ?_ | refine awp_skip ?_ | refine awp_exit ?_); (simp [go_sem]; try (refine ⟨by kernel_rfl, ?_⟩)))))
      have sgu : sg (p % q) = 0 ↔ p % q = 0 := by rcases sg_cases (p % q) with h | h | h <;> omega
      have sgv : sg (r % s) = 0 ↔ r % s = 0 := by rcases sg_cases (r % s) with h | h | h <;> omega
      rw [cmp_two hxy] at hE
      by_cases huv : p % q = 0 ∨ r % s = 0
      · refine awp_cond (b := true) (by simp [go_sem, sgu, sgv, huv]) (fun _ => ?_) (fun h => by cases h)
        rw [cmp_zero hq hs hu0 hv0 huv] at hE
        have w1 := w64 (x := sg (p % q) - sg (r % s)) (by omega) (by omega)
        have w2 := w64 (x := e * (sg (p % q) - sg (r % s))) (by rcases he with rfl | rfl <;> omega) (by rcases he with rfl | rfl <;> omega)
        rw [hE] at w2
        (repeat (first | refine awp_seq ?_ | refine awp_block ?_ | ((first | refine awp_runG [0, 1, 2, 3, 4, 5, 6, 7, 8, 9, 10, 11, 13, 14, 16, 24, 52, 58] hX ?_ | refine awp_drawnG [0, 1, 2, 3, 4, 5, 6, 7, 8, 9, 10, 11, 13, 14, 16, 24, 52, 58] hX mixed ?_ | refine awp_ret ?_ | refine awp_skip ?_ | refine awp_exit ?_); (simp [go_sem, w1, hE, w2]; try (refine ⟨by kernel_rfl, ?_⟩)))))
      · refine awp_cond (b := false) (by simp [go_sem, sgu, sgv]; omega) (fun h => by cases h) (fun _ => ?_)
        have w1 := w64 (x := -e) (by omega) (by omega)
        (repeat (first | refine awp_seq ?_ | refine awp_block ?_ | ((first | refine awp_runG [0, 1, 2, 3, 4, 5, 6, 7, 8, 9, 10, 11, 13, 14, 16, 24, 52, 58] hX ?_ | refine awp_drawnG [0, 1, 2, 3, 4, 5, 6, 7, 8, 9, 10, 11, 13, 14, 16, 24, 52, 58] hX mixed ?_ | refine awp_ret ?_ | refine awp_skip ?_ | refine awp_exit ?_); (simp [go_sem, w1]; try (refine ⟨by kernel_rfl, ?_⟩)))))
        refine ⟨q, p % q, s, r % s, -e, ⟨zq, zu, zs, zv, by omega, by omega, by omega, ?_⟩, by omega, ?_⟩
        · rw [← hE, cmpI_swap (q * (r % s)), Int.mul_comm s, Int.mul_comm q]
          grind
        · refine sub_of _ [.old 0 ⟨36, 2, [bigZ q]⟩, .old 1 ⟨36, 2, [bigZ (p % q)]⟩, .old 2 ⟨36, 2, [bigZ s]⟩, .old 3 ⟨36, 2, [bigZ (r % s)]⟩] (by simp [go_sem]) ?_
          simp [go_sem]
    · have hc0 : ¬ cmpI (p / q) (r / s) = 0 := fun h => hxy (c2.1 h)
      refine awp_cond (b := true) (by simp [go_sem, hc0]) (fun _ => ?_) (fun h => by cases h)
      rw [cmp_one hq hs hxy] at hE
      have w1 := w64 (x := e * cmpI (p / q) (r / s)) (by rcases he with rfl | rfl <;> omega) (by rcases he with rfl | rfl <;> omega)
      rw [hE] at w1
      (repeat (first | refine awp_seq ?_ | refine awp_block ?_ | ((first | refine awp_runG [0, 1, 2, 3, 4, 5, 6, 7, 8, 9, 10, 11, 13, 14, 16, 24, 52, 58] hX ?_ | refine awp_drawnG [0, 1, 2, 3, 4, 5, 6, 7, 8, 9, 10, 11, 13, 14, 16, 24, 52, 58] hX mixed ?_ | refine awp_ret ?_ | refine awp_skip ?_ | refine awp_exit ?_); (simp [go_sem, hE, w1]; try (refine ⟨by kernel_rfl, ?_⟩)))))

end Go.Proofs.Ytlcmmaokfbjojaa
