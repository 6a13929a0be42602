import Derived.Test.YtebinaffldlihaaGreatDoorFracA
set_option linter.all false
namespace Go.Proofs.YtebinaffldlihaaGreatDoor
open Go.RowKit Go.Ab
attribute [local irreducible] AWP Go.Ab.Sub Means MeansH CallK CallG CallT CallGT
theorem bR {p q : Int} (h : 0 < q) : dq p q = p / q ∧ dr p q = p % q := by
  unfold dq dr
  have e1 : sg q = 1 := by rcases aJ q with h' | h' | h' <;> omega
  have e2 : ab q = q := by unfold ab; rw [if_neg (by omega)]
  rw [e1, e2, Int.one_mul, Int.one_mul]; exact ⟨rfl, rfl⟩
theorem pG {a b : Int} (h : a < b) : cmpI a b = -1 := by unfold cmpI; rw [if_pos h]
theorem pH {a b : Int} (h : b < a) : cmpI a b = 1 := by unfold cmpI; rw [if_neg (by omega), if_pos h]
theorem rW {p q r s : Int} (hq : 0 < q) (hs : 0 < s) (h : p / q ≠ r / s) : cmpI (p * s) (r * q) = cmpI (p / q) (r / s) := by
  have a0 := Int.mul_ediv_add_emod p q
  have a1 := Int.emod_nonneg p (show q ≠ 0 by omega)
  have a2 := Int.emod_lt_of_pos p hq
  have b0 := Int.mul_ediv_add_emod r s
  have b1 := Int.emod_nonneg r (show s ≠ 0 by omega)
  have b2 := Int.emod_lt_of_pos r hs
  generalize p / q = x at *
  generalize r / s = y at *
  generalize p % q = u at *
  generalize r % s = v at *
  subst a0 b0
  have hqs : 0 < q * s := Int.mul_pos hq hs
  have e : (q * x + u) * s - (s * y + v) * q = q * s * (x - y) + (u * s - v * q) := by grind
  have u1 : u * s ≤ (q - 1) * s := Int.mul_le_mul_of_nonneg_right (by omega) (by omega)
  have u0 : 0 ≤ u * s := Int.mul_nonneg a1 (by omega)
  have v1 : v * q ≤ (s - 1) * q := Int.mul_le_mul_of_nonneg_right (by omega) (by omega)
  have v0 : 0 ≤ v * q := Int.mul_nonneg b1 (by omega)
  have e1 : (q - 1) * s = q * s - s := by grind
  have e2 : (s - 1) * q = q * s - q := by grind
  rcases Int.lt_or_gt_of_ne h with h | h
  · rw [pG h, pG]
    have : q * s * (x - y) ≤ q * s * (-1) := Int.mul_le_mul_of_nonneg_left (by omega) (by omega)
    omega
  · rw [pH h, pH]
    have : q * s * 1 ≤ q * s * (x - y) := Int.mul_le_mul_of_nonneg_left (by omega) (by omega)
    omega
theorem tH (a b : Int) : cmpI a b = -cmpI b a := by unfold cmpI; split <;> split <;> (try split) <;> omega
theorem pI {a b c d : Int} (h : a - b = c - d) : cmpI a b = cmpI c d := by rw [← jM, ← jM, h]
theorem rV {p q r s : Int} (h : p / q = r / s) : cmpI (p * s) (r * q) = cmpI (p % q * s) (r % s * q) := by
  have a0 := Int.mul_ediv_add_emod p q
  have b0 := Int.mul_ediv_add_emod r s
  rw [h] at a0
  apply pI
  generalize r / s = y at *
  generalize p % q = u at *
  generalize r % s = v at *
  subst a0 b0
  grind
theorem pF {u v q s : Int} (hq : 0 < q) (hs : 0 < s) (hu : 0 ≤ u) (hv : 0 ≤ v) (h : u = 0 ∨ v = 0) : cmpI (u * s) (v * q) = sg u - sg v := by
  rcases h with h | h <;> subst h
  · rw [Int.zero_mul, ← jM, Int.zero_sub, m8, eX]
    have : sg q = 1 := by rcases aJ q with h' | h' | h' <;> omega
    rw [this, Int.mul_one]
    show _ = (0 : Int) - _
    omega
  · rw [Int.zero_mul, ← jM, Int.sub_zero, eX]
    have : sg s = 1 := by rcases aJ s with h' | h' | h' <;> omega
    rw [this, Int.mul_one]
    show _ = _ - (0 : Int)
    omega
theorem rX {a b : Int} (h : ab a ≤ ab b) (hb : rz b) : rz a := by unfold rz at *; omega
theorem nE {p q : Int} (hq : 0 < q) (h : rz q) : rz (p % q) := by
  have a1 := Int.emod_nonneg p (show q ≠ 0 by omega)
  have a2 := Int.emod_lt_of_pos p hq
  refine rX ?_ h
  unfold ab; split <;> split <;> omega
theorem k7 {p q : Int} (hq : 0 < q) (h : rz p) : rz (p / q) := by
  have := A7 (z := p) (w := q) (by omega)
  rw [(bR hq).1] at this
  exact rX this h
set_option maxHeartbeats 4000000 in
set_option maxRecDepth 20000 in
theorem lG (a b c d : Int) (hab : rf a b) (hcd : rf c d) : Means false Tryz.prog 23 [frZ a b, frZ c d] (ii (cmpI (a * d) (c * b))) := by
  have hb0 := hab.2.2.1
  have hd0 := hcd.2.2.1
  refine aK false 78 [.tmp 4] Tryz.func23 rfl rfl rfl (by simp) (by decide) rfl fun X hX => ?_
  (repeat (first | refine aC ?_ | refine a7 ?_ | ((first | refine a8 [0, 1, 2, 3, 4, 5, 6, 7, 8, 9, 10, 11, 13, 14, 16, 24, 52, 58] hX ?_ | refine a6 [0, 1, 2, 3, 4, 5, 6, 7, 8, 9, 10, 11, 13, 14, 16, 24, 52, 58] hX mixed ?_ | refine aD ?_ | refine aA ?_ | refine aB ?_); (simp [go_sem]; try (refine ⟨by kernel_rfl, ?_⟩)))))
  first | refine aE (aY a b hab) rfl (by simp [go_sem]) rfl ?_ | refine aF (aY a b hab) rfl (by simp [go_sem]) rfl ?_
  try (simp [go_sem]; try (refine ⟨by kernel_rfl, ?_⟩))
  first | refine aI (fun hg => aY c d hcd) rfl (by simp [go_sem]) rfl ?_ | refine aH (fun hg => aY c d hcd) rfl (by simp [go_sem]) rfl ?_
  try (simp [go_sem]; try (refine ⟨by kernel_rfl, ?_⟩))
  refine aG (b := false) (by simp [go_sem]) (fun h => by cases h) (fun _ => ?_)
  (repeat (first | refine aC ?_ | refine a7 ?_ | ((first | refine a8 [0, 1, 2, 3, 4, 5, 6, 7, 8, 9, 10, 11, 13, 14, 16, 24, 52, 58] hX ?_ | refine aA ?_ | refine aB ?_); (simp [go_sem]; try (refine ⟨by kernel_rfl, ?_⟩)))))
  refine qK [0, 1, 2, 3, 4, 5, 6, 7, 8, 9, 10, 11, 13, 14, 16, 24, 52, 58] 8 4 hX mixed ?_; (simp [go_sem]; try (refine ⟨by kernel_rfl, ?_⟩))
  (repeat (first | refine aC ?_ | refine a7 ?_ | ((first | refine a8 [0, 1, 2, 3, 4, 5, 6, 7, 8, 9, 10, 11, 13, 14, 16, 24, 52, 58] hX ?_ | refine a6 [0, 1, 2, 3, 4, 5, 6, 7, 8, 9, 10, 11, 13, 14, 16, 24, 52, 58] hX mixed ?_ | refine aD ?_ | refine aA ?_ | refine aB ?_); (simp [go_sem]; try (refine ⟨by kernel_rfl, ?_⟩)))))
  refine aQ (fun x : Int × Int × Int × Int × Int => ⟨mkE [(5, .el 0 2 0 0), (6, .el 1 2 0 0), (7, .el 2 2 0 0), (8, .el 3 2 0 0), (9, ii x.2.2.2.2)], [.row ⟨24, 2, [bigZ x.1]⟩, .row ⟨24, 2, [bigZ x.2.1]⟩, .row ⟨24, 2, [bigZ x.2.2.1]⟩, .row ⟨24, 2, [bigZ x.2.2.2.1]⟩]⟩)
    (fun x => rz x.1 ∧ rz x.2.1 ∧ rz x.2.2.1 ∧ rz x.2.2.2.1 ∧ 0 < x.2.1 ∧ 0 < x.2.2.2.1 ∧ (x.2.2.2.2 = 1 ∨ x.2.2.2.2 = -1) ∧ x.2.2.2.2 * cmpI (x.1 * x.2.2.2.1) (x.2.2.1 * x.2.1) = cmpI (a * d) (c * b)) (fun x => x.2.1.toNat) (a, b, c, d, 1) ?_ ?_ ?_
  · refine aL _ [.old 2 ⟨24, 2, [bigZ a]⟩, .old 3 ⟨24, 2, [bigZ b]⟩, .old 4 ⟨24, 2, [bigZ c]⟩, .old 5 ⟨24, 2, [bigZ d]⟩] (by simp [go_sem]) ?_
    simp [go_sem]
  · exact ⟨hab.1, hab.2.1, hcd.1, hcd.2.1, hb0, hd0, .inl rfl, by simp⟩
  · rintro ⟨p, q, r, s, e⟩ ⟨zp, zq, zr, zs, hq, hs, he, hE⟩
    simp only [] at zp zq zr zs hq hs he hE
    have hu0 := Int.emod_nonneg p (show q ≠ 0 by omega)
    have hu1 := Int.emod_lt_of_pos p hq
    have hv0 := Int.emod_nonneg r (show s ≠ 0 by omega)
    have hv1 := Int.emod_lt_of_pos r hs
    have zx := k7 hq zp
    have zy := k7 hs zr
    have zu := nE (p := p) hq zq
    have zv := nE (p := r) hs zs
    have c1 := wZ (p / q) (r / s)
    have c2 := fM (p / q) (r / s)
    have s1 := dN (p % q)
    have s2 := dN (r % s)
    (repeat (first | refine aC ?_ | refine a7 ?_ | ((first | refine a8 [0, 1, 2, 3, 4, 5, 6, 7, 8, 9, 10, 11, 13, 14, 16, 24, 52, 58] hX ?_ | refine a6 [0, 1, 2, 3, 4, 5, 6, 7, 8, 9, 10, 11, 13, 14, 16, 24, 52, 58] hX mixed ?_ | refine aD ?_ | refine aA ?_ | refine aB ?_); (simp [go_sem]; try (refine ⟨by kernel_rfl, ?_⟩)))))
    first | refine aE (cH zp zq (by omega) (bR hq).1 (bR hq).2) rfl (by simp [go_sem]) rfl ?_ | refine aF (cH zp zq (by omega) (bR hq).1 (bR hq).2) rfl (by simp [go_sem]) rfl ?_
    try (simp [go_sem]; try (refine ⟨by kernel_rfl, ?_⟩))
    (repeat (first | refine aC ?_ | refine a7 ?_ | ((first | refine a8 [0, 1, 2, 3, 4, 5, 6, 7, 8, 9, 10, 11, 13, 14, 16, 24, 52, 58] hX ?_ | refine a6 [0, 1, 2, 3, 4, 5, 6, 7, 8, 9, 10, 11, 13, 14, 16, 24, 52, 58] hX mixed ?_ | refine aD ?_ | refine aA ?_ | refine aB ?_); (simp [go_sem]; try (refine ⟨by kernel_rfl, ?_⟩)))))
    first | refine aE (cH zr zs (by omega) (bR hs).1 (bR hs).2) rfl (by simp [go_sem]) rfl ?_ | refine aF (cH zr zs (by omega) (bR hs).1 (bR hs).2) rfl (by simp [go_sem]) rfl ?_
    try (simp [go_sem]; try (refine ⟨by kernel_rfl, ?_⟩))
    (repeat (first | refine aC ?_ | refine a7 ?_ | ((first | refine a8 [0, 1, 2, 3, 4, 5, 6, 7, 8, 9, 10, 11, 13, 14, 16, 24, 52, 58] hX ?_ | refine a6 [0, 1, 2, 3, 4, 5, 6, 7, 8, 9, 10, 11, 13, 14, 16, 24, 52, 58] hX mixed ?_ | refine aD ?_ | refine aA ?_ | refine aB ?_); (simp [go_sem]; try (refine ⟨by kernel_rfl, ?_⟩)))))
    first | refine aE (lY _ _ zx zy) rfl (by simp [go_sem]) rfl ?_ | refine aF (lY _ _ zx zy) rfl (by simp [go_sem]) rfl ?_
    try (simp [go_sem]; try (refine ⟨by kernel_rfl, ?_⟩))
    (repeat (first | refine aC ?_ | refine a7 ?_ | ((first | refine a8 [0, 1, 2, 3, 4, 5, 6, 7, 8, 9, 10, 11, 13, 14, 16, 24, 52, 58] hX ?_ | refine a6 [0, 1, 2, 3, 4, 5, 6, 7, 8, 9, 10, 11, 13, 14, 16, 24, 52, 58] hX mixed ?_ | refine aD ?_ | refine aA ?_ | refine aB ?_); (simp [go_sem]; try (refine ⟨by kernel_rfl, ?_⟩)))))
    by_cases hxy : p / q = r / s
    · have hc0 : cmpI (p / q) (r / s) = 0 := c2.2 hxy
      refine aG (b := false) (by simp [go_sem, hc0]) (fun h => by cases h) (fun _ => ?_)
      (repeat (first | refine aC ?_ | refine a7 ?_ | ((first | refine a8 [0, 1, 2, 3, 4, 5, 6, 7, 8, 9, 10, 11, 13, 14, 16, 24, 52, 58] hX ?_ | refine a6 [0, 1, 2, 3, 4, 5, 6, 7, 8, 9, 10, 11, 13, 14, 16, 24, 52, 58] hX mixed ?_ | refine aD ?_ | refine aA ?_ | refine aB ?_); (simp [go_sem]; try (refine ⟨by kernel_rfl, ?_⟩)))))
      have sgu : sg (p % q) = 0 ↔ p % q = 0 := by rcases aJ (p % q) with h | h | h <;> omega
      have sgv : sg (r % s) = 0 ↔ r % s = 0 := by rcases aJ (r % s) with h | h | h <;> omega
      rw [rV hxy] at hE
      by_cases huv : p % q = 0 ∨ r % s = 0
      · refine aG (b := true) (by simp [go_sem, sgu, sgv, huv]) (fun _ => ?_) (fun h => by cases h)
        rw [pF hq hs hu0 hv0 huv] at hE
        have w1 := w64 (x := sg (p % q) - sg (r % s)) (by omega) (by omega)
        have w2 := w64 (x := e * (sg (p % q) - sg (r % s))) (by rcases he with rfl | rfl <;> omega) (by rcases he with rfl | rfl <;> omega)
        rw [hE] at w2
        (repeat (first | refine aC ?_ | refine a7 ?_ | ((first | refine a8 [0, 1, 2, 3, 4, 5, 6, 7, 8, 9, 10, 11, 13, 14, 16, 24, 52, 58] hX ?_ | refine a6 [0, 1, 2, 3, 4, 5, 6, 7, 8, 9, 10, 11, 13, 14, 16, 24, 52, 58] hX mixed ?_ | refine aD ?_ | refine aA ?_ | refine aB ?_); (simp [go_sem, w1, hE, w2]; try (refine ⟨by kernel_rfl, ?_⟩)))))
      · refine aG (b := false) (by simp [go_sem, sgu, sgv]; omega) (fun h => by cases h) (fun _ => ?_)
        have w1 := w64 (x := -e) (by omega) (by omega)
        (repeat (first | refine aC ?_ | refine a7 ?_ | ((first | refine a8 [0, 1, 2, 3, 4, 5, 6, 7, 8, 9, 10, 11, 13, 14, 16, 24, 52, 58] hX ?_ | refine a6 [0, 1, 2, 3, 4, 5, 6, 7, 8, 9, 10, 11, 13, 14, 16, 24, 52, 58] hX mixed ?_ | refine aD ?_ | refine aA ?_ | refine aB ?_); (simp [go_sem, w1]; try (refine ⟨by kernel_rfl, ?_⟩)))))
        refine ⟨q, p % q, s, r % s, -e, ⟨zq, zu, zs, zv, by omega, by omega, by omega, ?_⟩, by omega, ?_⟩
        · rw [← hE, tH (q * (r % s)), Int.mul_comm s, Int.mul_comm q]
          grind
        · refine aL _ [.old 0 ⟨24, 2, [bigZ q]⟩, .old 1 ⟨24, 2, [bigZ (p % q)]⟩, .old 2 ⟨24, 2, [bigZ s]⟩, .old 3 ⟨24, 2, [bigZ (r % s)]⟩] (by simp [go_sem]) ?_
          simp [go_sem]
    · have hc0 : ¬ cmpI (p / q) (r / s) = 0 := fun h => hxy (c2.1 h)
      refine aG (b := true) (by simp [go_sem, hc0]) (fun _ => ?_) (fun h => by cases h)
      rw [rW hq hs hxy] at hE
      have w1 := w64 (x := e * cmpI (p / q) (r / s)) (by rcases he with rfl | rfl <;> omega) (by rcases he with rfl | rfl <;> omega)
      rw [hE] at w1
      (repeat (first | refine aC ?_ | refine a7 ?_ | ((first | refine a8 [0, 1, 2, 3, 4, 5, 6, 7, 8, 9, 10, 11, 13, 14, 16, 24, 52, 58] hX ?_ | refine a6 [0, 1, 2, 3, 4, 5, 6, 7, 8, 9, 10, 11, 13, 14, 16, 24, 52, 58] hX mixed ?_ | refine aD ?_ | refine aA ?_ | refine aB ?_); (simp [go_sem, hE, w1]; try (refine ⟨by kernel_rfl, ?_⟩)))))
end Go.Proofs.YtebinaffldlihaaGreatDoor
