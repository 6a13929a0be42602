import Derived.Test.YtebinaffldlihaaGreatDoorFrrA
set_option linter.all false
namespace Go.Proofs.YtebinaffldlihaaGreatDoor
open Go.RowKit Go.Ab
attribute [local irreducible] AWP Go.Ab.Sub Means MeansH CallK CallG CallT CallGT CallU
theorem dC (x : Int) : e60 x = 0 ↔ rz x := by
  unfold e60
  by_cases h : rz x
  · rw [if_pos h]; simp [h]
  · rw [if_neg h]; simp [h]
set_option maxHeartbeats 4000000 in
set_option maxRecDepth 20000 in
theorem yE (a b c d : Int) (hab : rf a b) (hcd : rf c d) : Means false Tryz.prog 7 [frZ a b, frZ c d] (resF (sumP a d c b ∧ rz (b * d)) (a * d + c * b) (b * d)) := by
  have hb0 := hab.2.2.1
  have hd0 := hcd.2.2.1
  have hbd : b * d ≠ 0 := Int.mul_ne_zero (by omega) (by omega)
  have m1 := eB a d hab.1 hcd.2.1
  have m2 := eB c b hcd.1 hab.2.1
  have m3 := eB b d hab.2.1 hcd.2.1
  have m4 := vI (r60 (a * d)) (r60 (c * b)) (nB _) (nB _)
  refine aK false 72 [.cell 4 26, .tmp 5] Tryz.func7 rfl rfl rfl (by simp) (by decide) rfl fun X hX => ?_
  (repeat (first | refine aC ?_ | refine a7 ?_ | ((first | refine a8 [0, 1, 2, 3, 4, 5, 6, 7, 8, 9, 10, 11, 12, 13, 21] hX ?_ | refine a6 [0, 1, 2, 3, 4, 5, 6, 7, 8, 9, 10, 11, 12, 13, 21] hX mixed ?_ | refine aD ?_ | refine aA ?_ | refine aB ?_); (simp [go_sem]; try (refine ⟨by kernel_rfl, ?_⟩)))))
  first | refine aE (b5 a b hab) rfl (by simp [go_sem]) rfl ?_ | refine aF (b5 a b hab) rfl (by simp [go_sem]) rfl ?_
  try (simp [go_sem]; try (refine ⟨by kernel_rfl, ?_⟩))
  first | refine aI (fun hg => b5 c d hcd) rfl (by simp [go_sem]) rfl ?_ | refine aH (fun hg => b5 c d hcd) rfl (by simp [go_sem]) rfl ?_
  try (simp [go_sem]; try (refine ⟨by kernel_rfl, ?_⟩))
  refine aG (b := false) (by simp [go_sem]) (fun h => by cases h) (fun _ => ?_)
  (repeat (first | refine aC ?_ | refine a7 ?_ | ((first | refine a8 [0, 1, 2, 3, 4, 5, 6, 7, 8, 9, 10, 11, 12, 13, 21] hX ?_ | refine a6 [0, 1, 2, 3, 4, 5, 6, 7, 8, 9, 10, 11, 12, 13, 21] hX mixed ?_ | refine aD ?_ | refine aA ?_ | refine aB ?_); (simp [go_sem]; try (refine ⟨by kernel_rfl, ?_⟩)))))
  first | refine aE (m1) rfl (by simp [go_sem]) rfl ?_ | refine aF (m1) rfl (by simp [go_sem]) rfl ?_
  try (simp [go_sem]; try (refine ⟨by kernel_rfl, ?_⟩))
  (repeat (first | refine aC ?_ | refine a7 ?_ | ((first | refine a8 [0, 1, 2, 3, 4, 5, 6, 7, 8, 9, 10, 11, 12, 13, 21] hX ?_ | refine a6 [0, 1, 2, 3, 4, 5, 6, 7, 8, 9, 10, 11, 12, 13, 21] hX mixed ?_ | refine aD ?_ | refine aA ?_ | refine aB ?_); (simp [go_sem]; try (refine ⟨by kernel_rfl, ?_⟩)))))
  first | refine aE (m2) rfl (by simp [go_sem]) rfl ?_ | refine aF (m2) rfl (by simp [go_sem]) rfl ?_
  try (simp [go_sem]; try (refine ⟨by kernel_rfl, ?_⟩))
  (repeat (first | refine aC ?_ | refine a7 ?_ | ((first | refine a8 [0, 1, 2, 3, 4, 5, 6, 7, 8, 9, 10, 11, 12, 13, 21] hX ?_ | refine a6 [0, 1, 2, 3, 4, 5, 6, 7, 8, 9, 10, 11, 12, 13, 21] hX mixed ?_ | refine aD ?_ | refine aA ?_ | refine aB ?_); (simp [go_sem]; try (refine ⟨by kernel_rfl, ?_⟩)))))
  first | refine aE (m3) rfl (by simp [go_sem]) rfl ?_ | refine aF (m3) rfl (by simp [go_sem]) rfl ?_
  try (simp [go_sem]; try (refine ⟨by kernel_rfl, ?_⟩))
  (repeat (first | refine aC ?_ | refine a7 ?_ | ((first | refine a8 [0, 1, 2, 3, 4, 5, 6, 7, 8, 9, 10, 11, 12, 13, 21] hX ?_ | refine a6 [0, 1, 2, 3, 4, 5, 6, 7, 8, 9, 10, 11, 12, 13, 21] hX mixed ?_ | refine aD ?_ | refine aA ?_ | refine aB ?_); (simp [go_sem]; try (refine ⟨by kernel_rfl, ?_⟩)))))
  first | refine aE (m4) rfl (by simp [go_sem]) rfl ?_ | refine aF (m4) rfl (by simp [go_sem]) rfl ?_
  try (simp [go_sem]; try (refine ⟨by kernel_rfl, ?_⟩))
  (repeat (first | refine aC ?_ | refine a7 ?_ | ((first | refine a8 [0, 1, 2, 3, 4, 5, 6, 7, 8, 9, 10, 11, 12, 13, 21] hX ?_ | refine a6 [0, 1, 2, 3, 4, 5, 6, 7, 8, 9, 10, 11, 12, 13, 21] hX mixed ?_ | refine aD ?_ | refine aA ?_ | refine aB ?_); (simp [go_sem]; try (refine ⟨by kernel_rfl, ?_⟩)))))
  by_cases hok : sumP a d c b ∧ rz (b * d)
  · obtain ⟨⟨o1, o2, o4⟩, o3⟩ := hok
    rw [cP ⟨⟨o1, o2, o4⟩, o3⟩, bV o1, bV o2, bV o3, bV o4]
    first | refine aE (dZ _ _ o4 o3 hbd (by simp [dC, o1, o2, o3, o4])) rfl (by simp [go_sem]) rfl ?_ | refine aF (dZ _ _ o4 o3 hbd (by simp [dC, o1, o2, o3, o4])) rfl (by simp [go_sem]) rfl ?_
    try (simp [go_sem]; try (refine ⟨by kernel_rfl, ?_⟩))
    (repeat (first | refine aC ?_ | refine a7 ?_ | ((first | refine a8 [0, 1, 2, 3, 4, 5, 6, 7, 8, 9, 10, 11, 12, 13, 21] hX ?_ | refine a6 [0, 1, 2, 3, 4, 5, 6, 7, 8, 9, 10, 11, 12, 13, 21] hX mixed ?_ | refine aD ?_ | refine aA ?_ | refine aB ?_); (simp [go_sem]; try (refine ⟨by kernel_rfl, ?_⟩)))))
  · have hno : ((¬ rz (a * d) ∨ ¬ rz (c * b)) ∨ ¬ rz (b * d)) ∨ ¬ rz (r60 (a * d) + r60 (c * b)) := Classical.byContradiction fun q => by
      simp only [not_or, Classical.not_not] at q
      obtain ⟨⟨⟨o1, o2⟩, o3⟩, o4⟩ := q
      rw [bV o1, bV o2] at o4; exact hok ⟨⟨o1, o2, o4⟩, o3⟩
    rw [dA hok]
    first | refine aE (e8 _ _ (by simp [dC]; exact hno)) rfl (by simp [go_sem]) rfl ?_ | refine aF (e8 _ _ (by simp [dC]; exact hno)) rfl (by simp [go_sem]) rfl ?_
    try (simp [go_sem]; try (refine ⟨by kernel_rfl, ?_⟩))
    (repeat (first | refine aC ?_ | refine a7 ?_ | ((first | refine a8 [0, 1, 2, 3, 4, 5, 6, 7, 8, 9, 10, 11, 12, 13, 21] hX ?_ | refine a6 [0, 1, 2, 3, 4, 5, 6, 7, 8, 9, 10, 11, 12, 13, 21] hX mixed ?_ | refine aD ?_ | refine aA ?_ | refine aB ?_); (simp [go_sem]; try (refine ⟨by kernel_rfl, ?_⟩)))))
set_option maxHeartbeats 4000000 in
set_option maxRecDepth 20000 in
theorem yF (a b c d : Int) (hab : rf a b) (hcd : rf c d) : Means false Tryz.prog 9 [frZ a b, frZ c d] (resF (sumP a d (-c) b ∧ rz (b * d)) (a * d + -c * b) (b * d)) := by
  have hb0 := hab.2.2.1
  have hd0 := hcd.2.2.1
  have hbd : b * d ≠ 0 := Int.mul_ne_zero (by omega) (by omega)
  have es : a * d + -c * b = a * d - c * b := by rw [Int.neg_mul]; omega
  have m1 := eB a d hab.1 hcd.2.1
  have m2 := eB c b hcd.1 hab.2.1
  have m3 := eB b d hab.2.1 hcd.2.1
  have m4 := zE (r60 (a * d)) (r60 (c * b)) (nB _) (nB _)
  refine aK false 72 [.cell 4 26, .tmp 5] Tryz.func9 rfl rfl rfl (by simp) (by decide) rfl fun X hX => ?_
  (repeat (first | refine aC ?_ | refine a7 ?_ | ((first | refine a8 [0, 1, 2, 3, 4, 5, 6, 7, 8, 9, 10, 11, 12, 13, 21] hX ?_ | refine a6 [0, 1, 2, 3, 4, 5, 6, 7, 8, 9, 10, 11, 12, 13, 21] hX mixed ?_ | refine aD ?_ | refine aA ?_ | refine aB ?_); (simp [go_sem]; try (refine ⟨by kernel_rfl, ?_⟩)))))
  first | refine aE (b5 a b hab) rfl (by simp [go_sem]) rfl ?_ | refine aF (b5 a b hab) rfl (by simp [go_sem]) rfl ?_
  try (simp [go_sem]; try (refine ⟨by kernel_rfl, ?_⟩))
  first | refine aI (fun hg => b5 c d hcd) rfl (by simp [go_sem]) rfl ?_ | refine aH (fun hg => b5 c d hcd) rfl (by simp [go_sem]) rfl ?_
  try (simp [go_sem]; try (refine ⟨by kernel_rfl, ?_⟩))
  refine aG (b := false) (by simp [go_sem]) (fun h => by cases h) (fun _ => ?_)
  (repeat (first | refine aC ?_ | refine a7 ?_ | ((first | refine a8 [0, 1, 2, 3, 4, 5, 6, 7, 8, 9, 10, 11, 12, 13, 21] hX ?_ | refine a6 [0, 1, 2, 3, 4, 5, 6, 7, 8, 9, 10, 11, 12, 13, 21] hX mixed ?_ | refine aD ?_ | refine aA ?_ | refine aB ?_); (simp [go_sem]; try (refine ⟨by kernel_rfl, ?_⟩)))))
  first | refine aE (m1) rfl (by simp [go_sem]) rfl ?_ | refine aF (m1) rfl (by simp [go_sem]) rfl ?_
  try (simp [go_sem]; try (refine ⟨by kernel_rfl, ?_⟩))
  (repeat (first | refine aC ?_ | refine a7 ?_ | ((first | refine a8 [0, 1, 2, 3, 4, 5, 6, 7, 8, 9, 10, 11, 12, 13, 21] hX ?_ | refine a6 [0, 1, 2, 3, 4, 5, 6, 7, 8, 9, 10, 11, 12, 13, 21] hX mixed ?_ | refine aD ?_ | refine aA ?_ | refine aB ?_); (simp [go_sem]; try (refine ⟨by kernel_rfl, ?_⟩)))))
  first | refine aE (m2) rfl (by simp [go_sem]) rfl ?_ | refine aF (m2) rfl (by simp [go_sem]) rfl ?_
  try (simp [go_sem]; try (refine ⟨by kernel_rfl, ?_⟩))
  (repeat (first | refine aC ?_ | refine a7 ?_ | ((first | refine a8 [0, 1, 2, 3, 4, 5, 6, 7, 8, 9, 10, 11, 12, 13, 21] hX ?_ | refine a6 [0, 1, 2, 3, 4, 5, 6, 7, 8, 9, 10, 11, 12, 13, 21] hX mixed ?_ | refine aD ?_ | refine aA ?_ | refine aB ?_); (simp [go_sem]; try (refine ⟨by kernel_rfl, ?_⟩)))))
  first | refine aE (m3) rfl (by simp [go_sem]) rfl ?_ | refine aF (m3) rfl (by simp [go_sem]) rfl ?_
  try (simp [go_sem]; try (refine ⟨by kernel_rfl, ?_⟩))
  (repeat (first | refine aC ?_ | refine a7 ?_ | ((first | refine a8 [0, 1, 2, 3, 4, 5, 6, 7, 8, 9, 10, 11, 12, 13, 21] hX ?_ | refine a6 [0, 1, 2, 3, 4, 5, 6, 7, 8, 9, 10, 11, 12, 13, 21] hX mixed ?_ | refine aD ?_ | refine aA ?_ | refine aB ?_); (simp [go_sem]; try (refine ⟨by kernel_rfl, ?_⟩)))))
  first | refine aE (m4) rfl (by simp [go_sem]) rfl ?_ | refine aF (m4) rfl (by simp [go_sem]) rfl ?_
  try (simp [go_sem]; try (refine ⟨by kernel_rfl, ?_⟩))
  (repeat (first | refine aC ?_ | refine a7 ?_ | ((first | refine a8 [0, 1, 2, 3, 4, 5, 6, 7, 8, 9, 10, 11, 12, 13, 21] hX ?_ | refine a6 [0, 1, 2, 3, 4, 5, 6, 7, 8, 9, 10, 11, 12, 13, 21] hX mixed ?_ | refine aD ?_ | refine aA ?_ | refine aB ?_); (simp [go_sem]; try (refine ⟨by kernel_rfl, ?_⟩)))))
  by_cases hok : sumP a d (-c) b ∧ rz (b * d)
  · obtain ⟨⟨o1, o2, o4⟩, o3⟩ := hok
    rw [cP ⟨⟨o1, o2, o4⟩, o3⟩]
    rw [es] at o4 ⊢
    have o2 : rz (c * b) := by rw [Int.neg_mul] at o2; have := fG o2; rwa [Int.neg_neg] at this
    rw [bV o1, bV o2, bV o3, bV o4]
    first | refine aE (dZ _ _ o4 o3 hbd (by simp [dC, o1, o2, o3, o4])) rfl (by simp [go_sem]) rfl ?_ | refine aF (dZ _ _ o4 o3 hbd (by simp [dC, o1, o2, o3, o4])) rfl (by simp [go_sem]) rfl ?_
    try (simp [go_sem]; try (refine ⟨by kernel_rfl, ?_⟩))
    (repeat (first | refine aC ?_ | refine a7 ?_ | ((first | refine a8 [0, 1, 2, 3, 4, 5, 6, 7, 8, 9, 10, 11, 12, 13, 21] hX ?_ | refine a6 [0, 1, 2, 3, 4, 5, 6, 7, 8, 9, 10, 11, 12, 13, 21] hX mixed ?_ | refine aD ?_ | refine aA ?_ | refine aB ?_); (simp [go_sem]; try (refine ⟨by kernel_rfl, ?_⟩)))))
  · have hno : ((¬ rz (a * d) ∨ ¬ rz (c * b)) ∨ ¬ rz (b * d)) ∨ ¬ rz (r60 (a * d) - r60 (c * b)) := Classical.byContradiction fun q => by
      simp only [not_or, Classical.not_not] at q
      obtain ⟨⟨⟨o1, o2⟩, o3⟩, o4⟩ := q
      rw [bV o1, bV o2] at o4; exact hok ⟨⟨o1, by rw [Int.neg_mul]; exact fG o2, by rw [es]; exact o4⟩, o3⟩
    rw [dA hok]
    first | refine aE (e8 _ _ (by simp [dC]; exact hno)) rfl (by simp [go_sem]) rfl ?_ | refine aF (e8 _ _ (by simp [dC]; exact hno)) rfl (by simp [go_sem]) rfl ?_
    try (simp [go_sem]; try (refine ⟨by kernel_rfl, ?_⟩))
    (repeat (first | refine aC ?_ | refine a7 ?_ | ((first | refine a8 [0, 1, 2, 3, 4, 5, 6, 7, 8, 9, 10, 11, 12, 13, 21] hX ?_ | refine a6 [0, 1, 2, 3, 4, 5, 6, 7, 8, 9, 10, 11, 12, 13, 21] hX mixed ?_ | refine aD ?_ | refine aA ?_ | refine aB ?_); (simp [go_sem]; try (refine ⟨by kernel_rfl, ?_⟩)))))
set_option maxHeartbeats 4000000 in
set_option maxRecDepth 20000 in
theorem yG (a b c d : Int) (hab : rf a b) (hcd : rf c d) : Means false Tryz.prog 12 [frZ a b, frZ c d] (resF (rz (a * c) ∧ rz (b * d)) (a * c) (b * d)) := by
  have hb0 := hab.2.2.1
  have hd0 := hcd.2.2.1
  have hbd : b * d ≠ 0 := Int.mul_ne_zero (by omega) (by omega)
  have m1 := eB a c hab.1 hcd.1
  have m2 := eB b d hab.2.1 hcd.2.1
  refine aK false 46 [.cell 4 26, .tmp 5] Tryz.func12 rfl rfl rfl (by simp) (by decide) rfl fun X hX => ?_
  (repeat (first | refine aC ?_ | refine a7 ?_ | ((first | refine a8 [0, 1, 2, 3, 4, 5, 6, 7, 8, 9, 17] hX ?_ | refine a6 [0, 1, 2, 3, 4, 5, 6, 7, 8, 9, 17] hX mixed ?_ | refine aD ?_ | refine aA ?_ | refine aB ?_); (simp [go_sem]; try (refine ⟨by kernel_rfl, ?_⟩)))))
  first | refine aE (b5 a b hab) rfl (by simp [go_sem]) rfl ?_ | refine aF (b5 a b hab) rfl (by simp [go_sem]) rfl ?_
  try (simp [go_sem]; try (refine ⟨by kernel_rfl, ?_⟩))
  first | refine aI (fun hg => b5 c d hcd) rfl (by simp [go_sem]) rfl ?_ | refine aH (fun hg => b5 c d hcd) rfl (by simp [go_sem]) rfl ?_
  try (simp [go_sem]; try (refine ⟨by kernel_rfl, ?_⟩))
  refine aG (b := false) (by simp [go_sem]) (fun h => by cases h) (fun _ => ?_)
  (repeat (first | refine aC ?_ | refine a7 ?_ | ((first | refine a8 [0, 1, 2, 3, 4, 5, 6, 7, 8, 9, 17] hX ?_ | refine a6 [0, 1, 2, 3, 4, 5, 6, 7, 8, 9, 17] hX mixed ?_ | refine aD ?_ | refine aA ?_ | refine aB ?_); (simp [go_sem]; try (refine ⟨by kernel_rfl, ?_⟩)))))
  first | refine aE (m1) rfl (by simp [go_sem]) rfl ?_ | refine aF (m1) rfl (by simp [go_sem]) rfl ?_
  try (simp [go_sem]; try (refine ⟨by kernel_rfl, ?_⟩))
  (repeat (first | refine aC ?_ | refine a7 ?_ | ((first | refine a8 [0, 1, 2, 3, 4, 5, 6, 7, 8, 9, 17] hX ?_ | refine a6 [0, 1, 2, 3, 4, 5, 6, 7, 8, 9, 17] hX mixed ?_ | refine aD ?_ | refine aA ?_ | refine aB ?_); (simp [go_sem]; try (refine ⟨by kernel_rfl, ?_⟩)))))
  first | refine aE (m2) rfl (by simp [go_sem]) rfl ?_ | refine aF (m2) rfl (by simp [go_sem]) rfl ?_
  try (simp [go_sem]; try (refine ⟨by kernel_rfl, ?_⟩))
  (repeat (first | refine aC ?_ | refine a7 ?_ | ((first | refine a8 [0, 1, 2, 3, 4, 5, 6, 7, 8, 9, 17] hX ?_ | refine a6 [0, 1, 2, 3, 4, 5, 6, 7, 8, 9, 17] hX mixed ?_ | refine aD ?_ | refine aA ?_ | refine aB ?_); (simp [go_sem]; try (refine ⟨by kernel_rfl, ?_⟩)))))
  by_cases hok : rz (a * c) ∧ rz (b * d)
  · obtain ⟨o1, o2⟩ := hok
    rw [cP ⟨o1, o2⟩, bV o1, bV o2]
    first | refine aE (dZ _ _ o1 o2 hbd (by simp [dC, o1, o2])) rfl (by simp [go_sem]) rfl ?_ | refine aF (dZ _ _ o1 o2 hbd (by simp [dC, o1, o2])) rfl (by simp [go_sem]) rfl ?_
    try (simp [go_sem]; try (refine ⟨by kernel_rfl, ?_⟩))
    (repeat (first | refine aC ?_ | refine a7 ?_ | ((first | refine a8 [0, 1, 2, 3, 4, 5, 6, 7, 8, 9, 17] hX ?_ | refine a6 [0, 1, 2, 3, 4, 5, 6, 7, 8, 9, 17] hX mixed ?_ | refine aD ?_ | refine aA ?_ | refine aB ?_); (simp [go_sem]; try (refine ⟨by kernel_rfl, ?_⟩)))))
  · have hno : ¬ rz (a * c) ∨ ¬ rz (b * d) := Classical.byContradiction fun q => by
      simp only [not_or, Classical.not_not] at q
      obtain ⟨o1, o2⟩ := q
      exact hok ⟨o1, o2⟩
    rw [dA hok]
    first | refine aE (e8 _ _ (by simp [dC]; exact hno)) rfl (by simp [go_sem]) rfl ?_ | refine aF (e8 _ _ (by simp [dC]; exact hno)) rfl (by simp [go_sem]) rfl ?_
    try (simp [go_sem]; try (refine ⟨by kernel_rfl, ?_⟩))
    (repeat (first | refine aC ?_ | refine a7 ?_ | ((first | refine a8 [0, 1, 2, 3, 4, 5, 6, 7, 8, 9, 17] hX ?_ | refine a6 [0, 1, 2, 3, 4, 5, 6, 7, 8, 9, 17] hX mixed ?_ | refine aD ?_ | refine aA ?_ | refine aB ?_); (simp [go_sem]; try (refine ⟨by kernel_rfl, ?_⟩)))))
set_option maxHeartbeats 4000000 in
set_option maxRecDepth 20000 in
theorem yJ (a b c d : Int) (hab : rf a b) (hcd : rf c d) (h0 : c ≠ 0) : Means false Tryz.prog 14 [frZ a b, frZ c d] (resF (rz (a * d) ∧ rz (b * c)) (a * d) (b * c)) := by
  have hb0 := hab.2.2.1
  have hd0 := hcd.2.2.1
  have hbd : b * c ≠ 0 := Int.mul_ne_zero (by omega) h0
  have hsc : ¬ sg c = 0 := by rcases aJ c with h | h | h <;> omega
  have m1 := eB a d hab.1 hcd.2.1
  have m2 := eB b c hab.2.1 hcd.1
  refine aK false 51 [.cell 4 26, .tmp 5] Tryz.func14 rfl rfl rfl (by simp) (by decide) rfl fun X hX => ?_
  (repeat (first | refine aC ?_ | refine a7 ?_ | ((first | refine a8 [0, 1, 2, 3, 4, 5, 6, 7, 8, 9, 17, 22] hX ?_ | refine a6 [0, 1, 2, 3, 4, 5, 6, 7, 8, 9, 17, 22] hX mixed ?_ | refine aD ?_ | refine aA ?_ | refine aB ?_); (simp [go_sem]; try (refine ⟨by kernel_rfl, ?_⟩)))))
  first | refine aE (b5 a b hab) rfl (by simp [go_sem]) rfl ?_ | refine aF (b5 a b hab) rfl (by simp [go_sem]) rfl ?_
  try (simp [go_sem]; try (refine ⟨by kernel_rfl, ?_⟩))
  first | refine aI (fun hg => b5 c d hcd) rfl (by simp [go_sem]) rfl ?_ | refine aH (fun hg => b5 c d hcd) rfl (by simp [go_sem]) rfl ?_
  try (simp [go_sem]; try (refine ⟨by kernel_rfl, ?_⟩))
  refine aG (b := false) (by simp [go_sem]) (fun h => by cases h) (fun _ => ?_)
  (repeat (first | refine aC ?_ | refine a7 ?_ | ((first | refine a8 [0, 1, 2, 3, 4, 5, 6, 7, 8, 9, 17, 22] hX ?_ | refine a6 [0, 1, 2, 3, 4, 5, 6, 7, 8, 9, 17, 22] hX mixed ?_ | refine aD ?_ | refine aA ?_ | refine aB ?_); (simp [go_sem]; try (refine ⟨by kernel_rfl, ?_⟩)))))
  refine aG (b := false) (by simp [go_sem, hsc]) (fun h => by cases h) (fun _ => ?_)
  (repeat (first | refine aC ?_ | refine a7 ?_ | ((first | refine a8 [0, 1, 2, 3, 4, 5, 6, 7, 8, 9, 17, 22] hX ?_ | refine a6 [0, 1, 2, 3, 4, 5, 6, 7, 8, 9, 17, 22] hX mixed ?_ | refine aD ?_ | refine aA ?_ | refine aB ?_); (simp [go_sem]; try (refine ⟨by kernel_rfl, ?_⟩)))))
  first | refine aE (m1) rfl (by simp [go_sem]) rfl ?_ | refine aF (m1) rfl (by simp [go_sem]) rfl ?_
  try (simp [go_sem]; try (refine ⟨by kernel_rfl, ?_⟩))
  (repeat (first | refine aC ?_ | refine a7 ?_ | ((first | refine a8 [0, 1, 2, 3, 4, 5, 6, 7, 8, 9, 17, 22] hX ?_ | refine a6 [0, 1, 2, 3, 4, 5, 6, 7, 8, 9, 17, 22] hX mixed ?_ | refine aD ?_ | refine aA ?_ | refine aB ?_); (simp [go_sem]; try (refine ⟨by kernel_rfl, ?_⟩)))))
  first | refine aE (m2) rfl (by simp [go_sem]) rfl ?_ | refine aF (m2) rfl (by simp [go_sem]) rfl ?_
  try (simp [go_sem]; try (refine ⟨by kernel_rfl, ?_⟩))
  (repeat (first | refine aC ?_ | refine a7 ?_ | ((first | refine a8 [0, 1, 2, 3, 4, 5, 6, 7, 8, 9, 17, 22] hX ?_ | refine a6 [0, 1, 2, 3, 4, 5, 6, 7, 8, 9, 17, 22] hX mixed ?_ | refine aD ?_ | refine aA ?_ | refine aB ?_); (simp [go_sem]; try (refine ⟨by kernel_rfl, ?_⟩)))))
  by_cases hok : rz (a * d) ∧ rz (b * c)
  · obtain ⟨o1, o2⟩ := hok
    rw [cP ⟨o1, o2⟩, bV o1, bV o2]
    first | refine aE (dZ _ _ o1 o2 hbd (by simp [dC, o1, o2])) rfl (by simp [go_sem]) rfl ?_ | refine aF (dZ _ _ o1 o2 hbd (by simp [dC, o1, o2])) rfl (by simp [go_sem]) rfl ?_
    try (simp [go_sem]; try (refine ⟨by kernel_rfl, ?_⟩))
    (repeat (first | refine aC ?_ | refine a7 ?_ | ((first | refine a8 [0, 1, 2, 3, 4, 5, 6, 7, 8, 9, 17, 22] hX ?_ | refine a6 [0, 1, 2, 3, 4, 5, 6, 7, 8, 9, 17, 22] hX mixed ?_ | refine aD ?_ | refine aA ?_ | refine aB ?_); (simp [go_sem]; try (refine ⟨by kernel_rfl, ?_⟩)))))
  · have hno : ¬ rz (a * d) ∨ ¬ rz (b * c) := Classical.byContradiction fun q => by
      simp only [not_or, Classical.not_not] at q
      obtain ⟨o1, o2⟩ := q
      exact hok ⟨o1, o2⟩
    rw [dA hok]
    first | refine aE (e8 _ _ (by simp [dC]; exact hno)) rfl (by simp [go_sem]) rfl ?_ | refine aF (e8 _ _ (by simp [dC]; exact hno)) rfl (by simp [go_sem]) rfl ?_
    try (simp [go_sem]; try (refine ⟨by kernel_rfl, ?_⟩))
    (repeat (first | refine aC ?_ | refine a7 ?_ | ((first | refine a8 [0, 1, 2, 3, 4, 5, 6, 7, 8, 9, 17, 22] hX ?_ | refine a6 [0, 1, 2, 3, 4, 5, 6, 7, 8, 9, 17, 22] hX mixed ?_ | refine aD ?_ | refine aA ?_ | refine aB ?_); (simp [go_sem]; try (refine ⟨by kernel_rfl, ?_⟩)))))
theorem yI (a b d : Int) (hab : rf a b) (hcd : rf 0 d) : Means false Tryz.prog 14 [frZ a b, frZ 0 d] (.tup [frZ 0 0, ii 15]) := by
  refine aK false 51 [.cell 4 26, .tmp 5] Tryz.func14 rfl rfl rfl (by simp) (by decide) rfl fun X hX => ?_
  (repeat (first | refine aC ?_ | refine a7 ?_ | ((first | refine a8 [0, 1, 2, 3, 4, 5, 6, 7, 8, 9, 17, 22] hX ?_ | refine a6 [0, 1, 2, 3, 4, 5, 6, 7, 8, 9, 17, 22] hX mixed ?_ | refine aD ?_ | refine aA ?_ | refine aB ?_); (simp [go_sem]; try (refine ⟨by kernel_rfl, ?_⟩)))))
  first | refine aE (b5 a b hab) rfl (by simp [go_sem]) rfl ?_ | refine aF (b5 a b hab) rfl (by simp [go_sem]) rfl ?_
  try (simp [go_sem]; try (refine ⟨by kernel_rfl, ?_⟩))
  first | refine aI (fun hg => b5 0 d hcd) rfl (by simp [go_sem]) rfl ?_ | refine aH (fun hg => b5 0 d hcd) rfl (by simp [go_sem]) rfl ?_
  try (simp [go_sem]; try (refine ⟨by kernel_rfl, ?_⟩))
  refine aG (b := false) (by simp [go_sem]) (fun h => by cases h) (fun _ => ?_)
  (repeat (first | refine aC ?_ | refine a7 ?_ | ((first | refine a8 [0, 1, 2, 3, 4, 5, 6, 7, 8, 9, 17, 22] hX ?_ | refine a6 [0, 1, 2, 3, 4, 5, 6, 7, 8, 9, 17, 22] hX mixed ?_ | refine aD ?_ | refine aA ?_ | refine aB ?_); (simp [go_sem]; try (refine ⟨by kernel_rfl, ?_⟩)))))
  refine aG (b := true) (by simp [go_sem]) (fun _ => ?_) (fun h => by cases h)
  (repeat (first | refine aC ?_ | refine a7 ?_ | ((first | refine a8 [0, 1, 2, 3, 4, 5, 6, 7, 8, 9, 17, 22] hX ?_ | refine a6 [0, 1, 2, 3, 4, 5, 6, 7, 8, 9, 17, 22] hX mixed ?_ | refine aD ?_ | refine aA ?_ | refine aB ?_); (simp [go_sem]; try (refine ⟨by kernel_rfl, ?_⟩)))))
theorem yH (a b d : Int) (hab : rf a b) (hcd : rf 0 d) : Means false Tryz.prog 13 [frZ a b, frZ 0 d] (.tup [frZ 0 0, ii 15]) := by
  refine aK false 49 [.cell 4 26, .tmp 5] Tryz.func13 rfl rfl rfl (by simp) (by decide) rfl fun X hX => ?_
  (repeat (first | refine aC ?_ | refine a7 ?_ | ((first | refine a8 [0, 1, 2, 3, 4, 5, 6, 7, 8, 9, 10, 20] hX ?_ | refine a6 [0, 1, 2, 3, 4, 5, 6, 7, 8, 9, 10, 20] hX mixed ?_ | refine aD ?_ | refine aA ?_ | refine aB ?_); (simp [go_sem]; try (refine ⟨by kernel_rfl, ?_⟩)))))
  first | refine aE (aY a b hab) rfl (by simp [go_sem]) rfl ?_ | refine aF (aY a b hab) rfl (by simp [go_sem]) rfl ?_
  try (simp [go_sem]; try (refine ⟨by kernel_rfl, ?_⟩))
  first | refine aI (fun hg => aY 0 d hcd) rfl (by simp [go_sem]) rfl ?_ | refine aH (fun hg => aY 0 d hcd) rfl (by simp [go_sem]) rfl ?_
  try (simp [go_sem]; try (refine ⟨by kernel_rfl, ?_⟩))
  refine aG (b := false) (by simp [go_sem]) (fun h => by cases h) (fun _ => ?_)
  (repeat (first | refine aC ?_ | refine a7 ?_ | ((first | refine a8 [0, 1, 2, 3, 4, 5, 6, 7, 8, 9, 10, 20] hX ?_ | refine a6 [0, 1, 2, 3, 4, 5, 6, 7, 8, 9, 10, 20] hX mixed ?_ | refine aD ?_ | refine aA ?_ | refine aB ?_); (simp [go_sem]; try (refine ⟨by kernel_rfl, ?_⟩)))))
  refine aG (b := true) (by simp [go_sem]) (fun _ => ?_) (fun h => by cases h)
  (repeat (first | refine aC ?_ | refine a7 ?_ | ((first | refine a8 [0, 1, 2, 3, 4, 5, 6, 7, 8, 9, 10, 20] hX ?_ | refine a6 [0, 1, 2, 3, 4, 5, 6, 7, 8, 9, 10, 20] hX mixed ?_ | refine aD ?_ | refine aA ?_ | refine aB ?_); (simp [go_sem]; try (refine ⟨by kernel_rfl, ?_⟩)))))
end Go.Proofs.YtebinaffldlihaaGreatDoor
