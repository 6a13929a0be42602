import Derived.Test.YtebinaffldlihaaGreatDoorRefF
set_option linter.all false
namespace Go.Proofs.YtebinaffldlihaaGreatDoor
open Go.RowKit Go.Ab
attribute [local irreducible] AWP Go.Ab.Sub Means MeansH CallK CallG CallT CallGT CallU
theorem nC (z : Int) : ab z = (z.natAbs : Int) := by unfold ab; split <;> omega
theorem zJ {n : Nat} (h : n ≠ 0) : sg (n : Int) = 1 := by rcases aJ (n : Int) with q | q | q <;> omega
theorem A5 (n : Nat) : ab (n : Int) = n := by unfold ab; rw [if_neg (by omega)]
set_option maxHeartbeats 4000000 in
set_option maxRecDepth 20000 in
theorem qN (z w : Int) (hz : rz z) (hw : rz w) : Means false Tryz.prog 49 [bigZ z, bigZ w] (.tup [bigZ (Int.gcd z w : Int), ii 0]) := by
  have hlz := bB hz
  have hlw := bB hw
  rw [nC] at hlz hlw
  have hzz : bigZ z = big2 (sg z) (dg (z.natAbs : Int)) := by show big2 _ (dg (ab z)) = _; rw [nC]
  have hww : bigZ w = big2 (sg w) (dg (w.natAbs : Int)) := by show big2 _ (dg (ab w)) = _; rw [nC]
  have hg : Int.gcd z w = Nat.gcd z.natAbs w.natAbs := rfl
  rw [hg]
  have r1 := aO z hz
  have r2 := aO w hw
  rw [hzz] at r1
  rw [hww] at r2
  rw [hzz, hww]
  have hsz := sg z
  generalize sg z = s1 at *
  generalize sg w = s2 at *
  generalize z.natAbs = m at *
  generalize w.natAbs = n at *
  refine aK false 36 [.cell 4 24, .tmp 5] Tryz.func49 rfl rfl rfl (by simp) (by decide) rfl fun X hX => ?_
  (repeat (first | refine aC ?_ | refine a7 ?_ | ((first | refine a8 [0, 1, 2, 3, 4, 5, 6, 7, 9, 17, 25] hX ?_ | refine a6 [0, 1, 2, 3, 4, 5, 6, 7, 9, 17, 25] hX mixed ?_ | refine aD ?_ | refine aA ?_ | refine aB ?_); (simp [go_sem]; try (refine ⟨by kernel_rfl, ?_⟩)))))
  first | refine aE (r1) rfl (by simp [go_sem]) rfl ?_ | refine aF (r1) rfl (by simp [go_sem]) rfl ?_
  try (simp [go_sem]; try (refine ⟨by kernel_rfl, ?_⟩))
  first | refine aI (fun hg => r2) rfl (by simp [go_sem]) rfl ?_ | refine aH (fun hg => r2) rfl (by simp [go_sem]) rfl ?_
  try (simp [go_sem]; try (refine ⟨by kernel_rfl, ?_⟩))
  refine aG (b := false) (by simp [go_sem]) (fun h => by cases h) (fun _ => ?_)
  (repeat (first | refine aC ?_ | refine a7 ?_ | ((first | refine a8 [0, 1, 2, 3, 4, 5, 6, 7, 9, 17, 25] hX ?_ | refine a6 [0, 1, 2, 3, 4, 5, 6, 7, 9, 17, 25] hX mixed ?_ | refine aD ?_ | refine aA ?_ | refine aB ?_); (simp [go_sem]; try (refine ⟨by kernel_rfl, ?_⟩)))))
  refine aQ (fun x : Nat × Nat => ⟨mkE [(4, .el 2 2 0 0), (6, il (dg (x.1 : Int))), (7, il (dg (x.2 : Int)))], [.row ⟨24, 2, [big2 s1 (dg (m : Int))]⟩, .row ⟨24, 2, [big2 s2 (dg (n : Int))]⟩, .row ⟨24, 2, [.agg [ii 0, .nil]]⟩]⟩)
    (fun x => (dg (x.1 : Int)).length ≤ 60 ∧ (dg (x.2 : Int)).length ≤ 60 ∧ Nat.gcd x.1 x.2 = Nat.gcd m n) (fun x => x.2) (m, n) ?_ ?_ ?_
  · refine aL _ [.old 0 ⟨24, 2, [big2 s1 (dg (m : Int))]⟩, .old 1 ⟨24, 2, [big2 s2 (dg (n : Int))]⟩, .old 2 ⟨24, 2, [.agg [ii 0, .nil]]⟩] (by simp [go_sem]) ?_
    simp [go_sem]
  · exact ⟨hlz, hlw, rfl⟩
  · rintro ⟨x, y⟩ ⟨h1, h2, h3⟩
    simp only [] at h1 h2 h3
    have hy : 0 < (dg (y : Int)).length ↔ ¬ y = 0 := by rw [List.length_pos_iff, Ne, bF]; omega
    (repeat (first | refine aC ?_ | refine a7 ?_ | ((first | refine a8 [0, 1, 2, 3, 4, 5, 6, 7, 9, 17, 25] hX ?_ | refine a6 [0, 1, 2, 3, 4, 5, 6, 7, 9, 17, 25] hX mixed ?_ | refine aD ?_ | refine aA ?_ | refine aB ?_); (simp [go_sem]; try (refine ⟨by kernel_rfl, ?_⟩)))))
    refine aG (b := decide (y ≠ 0)) (by simp [go_sem, hy]) (fun hd => ?_) (fun hd => ?_)
    · simp only [decide_eq_true_eq] at hd
      have co := rD (dg (x : Int)) (dg (y : Int)) (by omega) (by omega) (aN _) (aN _) (by rw [aU (by omega)]; omega)
      rw [aU (by omega), aU (by omega)] at co
      have em : (x : Int) % (y : Int) = ((x % y : Nat) : Int) := by omega
      rw [em] at co
      have hlt := Nat.mod_lt x (show 0 < y by omega)
      have hle : (dg ((x % y : Nat) : Int)).length ≤ 60 := Nat.le_trans (aW (by omega)) h2
      have hgc : Nat.gcd y (x % y) = Nat.gcd m n := by rw [← h3, Nat.gcd_comm x y, Nat.gcd_rec y x, Nat.gcd_comm]
      generalize x % y = z' at *
      (repeat (first | refine aC ?_ | refine a7 ?_ | ((first | refine a8 [0, 1, 2, 3, 4, 5, 6, 7, 9, 17, 25] hX ?_ | refine a6 [0, 1, 2, 3, 4, 5, 6, 7, 9, 17, 25] hX mixed ?_ | refine aD ?_ | refine aA ?_ | refine aB ?_); (simp [go_sem]; try (refine ⟨by kernel_rfl, ?_⟩)))))
      first | refine aE (co) rfl (by simp [go_sem]) rfl ?_ | refine aF (co) rfl (by simp [go_sem]) rfl ?_
      try (simp [go_sem]; try (refine ⟨by kernel_rfl, ?_⟩))
      (repeat (first | refine aC ?_ | refine a7 ?_ | ((first | refine a8 [0, 1, 2, 3, 4, 5, 6, 7, 9, 17, 25] hX ?_ | refine a6 [0, 1, 2, 3, 4, 5, 6, 7, 9, 17, 25] hX mixed ?_ | refine aD ?_ | refine aA ?_ | refine aB ?_); (simp [go_sem]; try (refine ⟨by kernel_rfl, ?_⟩)))))
      refine ⟨y, z', ⟨h2, hle, hgc⟩, hlt, ?_⟩
      refine aL _ [.old 0 ⟨24, 2, [big2 s1 (dg (m : Int))]⟩, .old 1 ⟨24, 2, [big2 s2 (dg (n : Int))]⟩, .old 2 ⟨24, 2, [.agg [ii 0, .nil]]⟩] (by simp [go_sem]) ?_
      simp [go_sem]
    · have hy0 : y = 0 := by simpa using hd
      subst hy0
      rw [Nat.gcd_zero_right] at h3
      rw [← h3]
      have cm := jA 1 (dg (x : Int)) (by omega) (aN _)
      rw [aU (by omega)] at cm
      have e : big2 (if (x : Int) = 0 then 0 else 1) (dg (x : Int)) = bigZ (x : Int) := by
        show _ = big2 (sg (x : Int)) (dg (ab (x : Int)))
        rw [A5]
        by_cases q : x = 0
        · subst q; rfl
        · rw [if_neg (by omega), zJ q]
      rw [e] at cm
      (repeat (first | refine aC ?_ | refine a7 ?_ | ((first | refine a8 [0, 1, 2, 3, 4, 5, 6, 7, 9, 17, 25] hX ?_ | refine a6 [0, 1, 2, 3, 4, 5, 6, 7, 9, 17, 25] hX mixed ?_ | refine aD ?_ | refine aA ?_ | refine aB ?_); (simp [go_sem]; try (refine ⟨by kernel_rfl, ?_⟩)))))
      first | refine aE (cm) rfl (by simp [go_sem]) rfl ?_ | refine aF (cm) rfl (by simp [go_sem]) rfl ?_
      try (simp [go_sem]; try (refine ⟨by kernel_rfl, ?_⟩))
      (repeat (first | refine aC ?_ | refine a7 ?_ | ((first | refine a8 [0, 1, 2, 3, 4, 5, 6, 7, 9, 17, 25] hX ?_ | refine a6 [0, 1, 2, 3, 4, 5, 6, 7, 9, 17, 25] hX mixed ?_ | refine aD ?_ | refine aA ?_ | refine aB ?_); (simp [go_sem]; try (refine ⟨by kernel_rfl, ?_⟩)))))
end Go.Proofs.YtebinaffldlihaaGreatDoor
