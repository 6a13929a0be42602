import Derived.Test.YtebinaffldlihaaGreatDoorBigI
set_option linter.all false
namespace Go.Proofs.YtebinaffldlihaaGreatDoor
open Go.RowKit Go.Ab
attribute [local irreducible] AWP Go.Ab.Sub Means MeansH CallK CallG CallT CallGT
def dq (z w : Int) : Int := (sg w * z) / ab w
def dr (z w : Int) : Int := sg w * ((sg w * z) % ab w)
theorem cV {s N D q r : Int} (hD : 0 < D) (h : r + D * q = s * N) (hr : 0 ≤ r ∧ r < D) : (s * N) / D = q ∧ (s * N) % D = r :=
  (Int.ediv_emod_unique hD).2 ⟨h, hr.1, hr.2⟩
theorem lF {z w : Int} (hw : w ≠ 0) :
    (sg z * sg w < 0 ∧ ab z % ab w ≠ 0 → dq z w = -(ab z / ab w + 1) ∧ dr z w = sg w * (ab w - ab z % ab w)) ∧
    (¬ (sg z * sg w < 0 ∧ ab z % ab w ≠ 0) → dq z w = sg z * sg w * (ab z / ab w) ∧ dr z w = sg z * (ab z % ab w)) := by
  have hD : 0 < ab w := by rcases aJ w with h | h | h <;> omega
  have h0 := Int.mul_ediv_add_emod (ab z) (ab w)
  have h1 := Int.emod_nonneg (ab z) (show ab w ≠ 0 by omega)
  have h2 := Int.emod_lt_of_pos (ab z) hD
  unfold dq dr
  generalize ab z / ab w = q at *
  generalize ab z % ab w = r at *
  generalize hDD : ab w = D at *
  rcases aJ w with ⟨a1, a2, a3⟩ | ⟨a1, a2, a3⟩ | ⟨a1, a2, a3⟩
  · rcases aJ z with ⟨b1, b2, b3⟩ | ⟨b1, b2, b3⟩ | ⟨b1, b2, b3⟩
    · rw [a1, b1]
      refine ⟨fun h => by omega, fun _ => ?_⟩
      obtain ⟨e1, e2⟩ := cV (s := -1) (N := z) (q := q) (r := r) hD (by omega) ⟨h1, h2⟩
      rw [e1, e2]; omega
    · rw [a1, b1]
      refine ⟨fun h => by omega, fun _ => ?_⟩
      subst b2
      rw [b3] at h0
      obtain ⟨e1, e2⟩ := cV (s := -1) (N := 0) (q := 0) (r := 0) hD (by omega) ⟨by omega, hD⟩
      rw [e1, e2]; omega
    · rw [a1, b1]
      refine ⟨fun h => ?_, fun h => ?_⟩
      · obtain ⟨e1, e2⟩ := cV (s := -1) (N := z) (q := -(q + 1)) (r := D - r) hD (by rw [Int.mul_neg, Int.mul_add]; omega) (by omega)
        rw [e1, e2]; omega
      · have hr0 : r = 0 := by omega
        subst hr0
        obtain ⟨e1, e2⟩ := cV (s := -1) (N := z) (q := -q) (r := 0) hD (by rw [Int.mul_neg]; omega) ⟨by omega, hD⟩
        rw [e1, e2]; omega
  · omega
  · rcases aJ z with ⟨b1, b2, b3⟩ | ⟨b1, b2, b3⟩ | ⟨b1, b2, b3⟩
    · rw [a1, b1]
      refine ⟨fun h => ?_, fun h => ?_⟩
      · obtain ⟨e1, e2⟩ := cV (s := 1) (N := z) (q := -(q + 1)) (r := D - r) hD (by rw [Int.mul_neg, Int.mul_add]; omega) (by omega)
        rw [e1, e2]; omega
      · have hr0 : r = 0 := by omega
        subst hr0
        obtain ⟨e1, e2⟩ := cV (s := 1) (N := z) (q := -q) (r := 0) hD (by rw [Int.mul_neg]; omega) ⟨by omega, hD⟩
        rw [e1, e2]; omega
    · rw [a1, b1]
      refine ⟨fun h => by omega, fun _ => ?_⟩
      subst b2
      obtain ⟨e1, e2⟩ := cV (s := 1) (N := 0) (q := 0) (r := 0) hD (by omega) ⟨by omega, hD⟩
      rw [e1, e2]; omega
    · rw [a1, b1]
      refine ⟨fun h => by omega, fun _ => ?_⟩
      obtain ⟨e1, e2⟩ := cV (s := 1) (N := z) (q := q) (r := r) hD (by omega) ⟨h1, h2⟩
      rw [e1, e2]; omega
set_option maxHeartbeats 4000000 in
set_option maxRecDepth 20000 in
theorem zT (z w : Int) (hz : rz z) (hw : rz w) (h0 : w ≠ 0) : Means false Tryz.prog 46 [bigZ z, bigZ w] (.tup [bigZ (dq z w), bigZ (dr z w), ii 0]) := by
  have hlz := bB hz
  have hlw := bB hw
  have hza := aV z
  have hD : 0 < ab w := by rcases aJ w with h | h | h <;> omega
  have hs : sg w ≠ 0 := by rcases aJ w with h | h | h <;> omega
  have hsz := dN z
  have hsw := dN w
  have hmm : -1 ≤ sg z * sg w ∧ sg z * sg w ≤ 1 := by rw [← eX]; exact dN _
  have hww := w64 (x := sg z * sg w) (by omega) (by omega)
  have hne : 0 < (dg (ab w)).length := by
    refine Nat.pos_of_ne_zero fun h => ?_
    have := bF.1 (List.length_eq_zero_iff.1 h)
    omega
  have hdiv := xK (dg (ab z)) (dg (ab w)) (aN _) (aN _) (by omega) (by omega) (iQ hza) (iQ (by omega)) hne
  rw [aR, aR] at hdiv
  have h1 := Int.emod_nonneg (ab z) (show ab w ≠ 0 by omega)
  have h2 := Int.emod_lt_of_pos (ab z) hD
  have h3 := Int.ediv_nonneg hza (show 0 ≤ ab w by omega)
  have h4 := Int.ediv_le_self (ab w) hza
  obtain ⟨df1, df2⟩ := lF (z := z) h0
  have hlq : (dg (ab z / ab w)).length ≤ 60 := Nat.le_trans (aW h4) hlz
  have hlr : (dg (ab z % ab w)).length ≤ 60 := Nat.le_trans (aW (by omega)) hlw
  refine aK false 67 [.cell 4 24, .cell 5 24, .tmp 6] Tryz.func46 rfl rfl rfl (by simp) (by decide) rfl fun X hX => ?_
  (repeat (first | refine aC ?_ | refine a7 ?_ | ((first | refine a8 [0, 1, 2, 3, 4, 5, 6, 7, 8, 9, 20, 44] hX ?_ | refine a6 [0, 1, 2, 3, 4, 5, 6, 7, 8, 9, 20, 44] hX mixed ?_ | refine aD ?_ | refine aA ?_ | refine aB ?_); (simp [go_sem]; try (refine ⟨by kernel_rfl, ?_⟩)))))
  first | refine aE (aX z hz) rfl (by simp [go_sem]) rfl ?_ | refine aF (aX z hz) rfl (by simp [go_sem]) rfl ?_
  try (simp [go_sem]; try (refine ⟨by kernel_rfl, ?_⟩))
  first | refine aI (fun hg => aX w hw) rfl (by simp [go_sem]) rfl ?_ | refine aH (fun hg => aX w hw) rfl (by simp [go_sem]) rfl ?_
  try (simp [go_sem]; try (refine ⟨by kernel_rfl, ?_⟩))
  (repeat (first | refine aC ?_ | refine a7 ?_ | ((first | refine a8 [0, 1, 2, 3, 4, 5, 6, 7, 8, 9, 20, 44] hX ?_ | refine a6 [0, 1, 2, 3, 4, 5, 6, 7, 8, 9, 20, 44] hX mixed ?_ | refine aD ?_ | refine aA ?_ | refine aB ?_); (simp [go_sem]; (try simp (disch := omega) only [w64, td, tm]); try (refine ⟨by kernel_rfl, ?_⟩)))))
  refine aG (b := false) (by simp [go_sem]) (fun h => by cases h) (fun _ => ?_)
  (repeat (first | refine aC ?_ | refine a7 ?_ | ((first | refine a8 [0, 1, 2, 3, 4, 5, 6, 7, 8, 9, 20, 44] hX ?_ | refine a6 [0, 1, 2, 3, 4, 5, 6, 7, 8, 9, 20, 44] hX mixed ?_ | refine aD ?_ | refine aA ?_ | refine aB ?_); (simp [go_sem]; try (refine ⟨by kernel_rfl, ?_⟩)))))
  refine aG (b := false) (by simp [go_sem, hs]) (fun h => by cases h) (fun _ => ?_)
  (repeat (first | refine aC ?_ | refine a7 ?_ | ((first | refine a8 [0, 1, 2, 3, 4, 5, 6, 7, 8, 9, 20, 44] hX ?_ | refine a6 [0, 1, 2, 3, 4, 5, 6, 7, 8, 9, 20, 44] hX mixed ?_ | refine aD ?_ | refine aA ?_ | refine aB ?_); (simp [go_sem]; try (refine ⟨by kernel_rfl, ?_⟩)))))
  first | refine aE (hdiv) rfl (by simp [go_sem]) rfl ?_ | refine aF (hdiv) rfl (by simp [go_sem]) rfl ?_
  try (simp [go_sem]; try (refine ⟨by kernel_rfl, ?_⟩))
  have hrl : 0 < (dg (ab z % ab w)).length ↔ ab z % ab w ≠ 0 := by
    rw [List.length_pos_iff, Ne, bF]; omega
  have hq0 : 0 ≤ ab z / ab w + 1 := by omega
  have hvq : val (dg (ab z / ab w)) = ab z / ab w := aU h3
  have hvr : val (dg (ab z % ab w)) = ab z % ab w := aU h1
  refine aC ?_
  refine aC ?_
  refine eL ⟨mkE [(2, .el 0 2 0 0), (3, .el 1 2 0 0), (4, .el 2 2 0 0), (5, .el 3 2 0 0), (6, ii 0), (7, il (dg (ab z / ab w))), (8, il (dg (ab z % ab w))), (44, bb (decide (sg z * sg w < 0 ∧ ab z % ab w ≠ 0)))],
    [.row ⟨24, 2, [bigZ z]⟩, .row ⟨24, 2, [bigZ w]⟩, .row ⟨24, 2, [.agg [ii 0, .nil]]⟩, .row ⟨24, 2, [.agg [ii 0, .nil]]⟩]⟩ ?_ ?_
  · by_cases hn : sg z * sg w < 0
    · (repeat (first | refine aC ?_ | refine a7 ?_ | ((first | refine a8 [0, 1, 2, 3, 4, 5, 6, 7, 8, 9, 20, 44] hX ?_ | refine a6 [0, 1, 2, 3, 4, 5, 6, 7, 8, 9, 20, 44] hX mixed ?_ | refine aD ?_ | refine aA ?_ | refine aB ?_); (simp [go_sem, hww, hn]; try (refine ⟨by kernel_rfl, ?_⟩)))))
      refine aL _ [.old 0 ⟨24, 2, [bigZ z]⟩, .old 1 ⟨24, 2, [bigZ w]⟩, .old 2 ⟨24, 2, [.agg [ii 0, .nil]]⟩, .old 3 ⟨24, 2, [.agg [ii 0, .nil]]⟩] (by simp [go_sem]) ?_
      simp [go_sem, hn]
      rw [Bool.eq_iff_iff]
      simp only [decide_eq_true_eq, Bool.not_eq_true', decide_eq_false_iff_not]
      exact hrl
    · (repeat (first | refine aC ?_ | refine a7 ?_ | ((first | refine a8 [0, 1, 2, 3, 4, 5, 6, 7, 8, 9, 20, 44] hX ?_ | refine a6 [0, 1, 2, 3, 4, 5, 6, 7, 8, 9, 20, 44] hX mixed ?_ | refine aD ?_ | refine aA ?_ | refine aB ?_); (simp [go_sem, hww, hn]; try (refine ⟨by kernel_rfl, ?_⟩)))))
      refine aL _ [.old 0 ⟨24, 2, [bigZ z]⟩, .old 1 ⟨24, 2, [bigZ w]⟩, .old 2 ⟨24, 2, [.agg [ii 0, .nil]]⟩, .old 3 ⟨24, 2, [.agg [ii 0, .nil]]⟩] (by simp [go_sem]) ?_
      simp [go_sem, hn]
  · try (simp [go_sem]; try (refine ⟨by kernel_rfl, ?_⟩))
    refine aG (b := decide (sg z * sg w < 0 ∧ ab z % ab w ≠ 0)) (by simp [go_sem]) (fun hb => ?_) (fun hb => ?_)
    · simp only [decide_eq_true_eq] at hb
      obtain ⟨e1, e2⟩ := df1 hb
      have hadd := tO (dg (ab z / ab w)) [1] (aN _) (cG ⟨by decide, by decide⟩).2 (by omega) (by simp)
      rw [hvq, (cG (r := 1) ⟨by decide, by decide⟩).1] at hadd
      have hvq1 : val (dg (ab z / ab w + 1)) = ab z / ab w + 1 := aU hq0
      have hs1 := bS (-1) (dg (ab z / ab w + 1)) (dq z w) (by
        have := aP (n := ab z / ab w + 1) 61
        have h61 : (1048576 : Int) ^ 61 = 1048576 ^ 60 * 1048576 := Int.pow_succ _ _
        have := (aP (n := ab z / ab w) 60).1 hlq
        have := this
        have : (dg (ab z / ab w + 1)).length ≤ 61 := by rw [aP]; omega
        omega) (aN _) (by rw [hvq1, e1, jY, ab, if_neg (by omega)]) (fun _ => by rw [e1, m8, sg, if_neg (by omega), if_pos (by omega)])
      have hsub := tP (dg (ab w)) (dg (ab z % ab w)) (aN _) (aN _) (by omega) (by omega) (by rw [aR, hvr]; omega)
      rw [aR, hvr] at hsub
      have hvs : val (dg (ab w - ab z % ab w)) = ab w - ab z % ab w := aU (by omega)
      have hsw2 : sg w = 1 ∨ sg w = -1 := by rcases aJ w with h | h | h <;> omega
      obtain ⟨f1, f2⟩ := tQ e2 (by omega) hsw2
      have hs2 := bS (sg w) (dg (ab w - ab z % ab w)) (dr z w) (by have := aW (show ab w - ab z % ab w ≤ ab w by omega); omega) (aN _) (by rw [hvs, f2]) (fun _ => f1)
      (repeat (first | refine aC ?_ | refine a7 ?_ | ((first | refine a8 [0, 1, 2, 3, 4, 5, 6, 7, 8, 9, 20, 44] hX ?_ | refine a6 [0, 1, 2, 3, 4, 5, 6, 7, 8, 9, 20, 44] hX mixed ?_ | refine aD ?_ | refine aA ?_ | refine aB ?_); (simp [go_sem]; (try simp (disch := omega) only [w64, td, tm]); try (refine ⟨by kernel_rfl, ?_⟩)))))
      first | refine aE (hadd) rfl (by simp [go_sem]) rfl ?_ | refine aF (hadd) rfl (by simp [go_sem]) rfl ?_
      try (simp [go_sem]; try (refine ⟨by kernel_rfl, ?_⟩))
      first | refine aE (hs1) rfl (by simp [go_sem]) rfl ?_ | refine aF (hs1) rfl (by simp [go_sem]) rfl ?_
      try (simp [go_sem]; try (refine ⟨by kernel_rfl, ?_⟩))
      first | refine aE (hsub) rfl (by simp [go_sem]) rfl ?_ | refine aF (hsub) rfl (by simp [go_sem]) rfl ?_
      try (simp [go_sem]; try (refine ⟨by kernel_rfl, ?_⟩))
      first | refine aE (hs2) rfl (by simp [go_sem]) rfl ?_ | refine aF (hs2) rfl (by simp [go_sem]) rfl ?_
      try (simp [go_sem]; try (refine ⟨by kernel_rfl, ?_⟩))
      (repeat refine And.intro (by first | omega | (unfold maxLen; omega) | kernel_rfl | (refine ⟨by first | omega | (unfold maxLen; omega), by first | omega | (unfold maxLen; omega)⟩) | grind) ?_)
      (repeat (first | refine aC ?_ | refine a7 ?_ | ((first | refine a8 [0, 1, 2, 3, 4, 5, 6, 7, 8, 9, 20, 44] hX ?_ | refine a6 [0, 1, 2, 3, 4, 5, 6, 7, 8, 9, 20, 44] hX mixed ?_ | refine aD ?_ | refine aA ?_ | refine aB ?_); (simp [go_sem]; try (refine ⟨by kernel_rfl, ?_⟩)))))
    · simp only [decide_eq_false_iff_not] at hb
      obtain ⟨e1, e2⟩ := df2 hb
      have hsz2 : sg z = 0 ∧ z = 0 ∨ (sg z = 1 ∨ sg z = -1) := by rcases aJ z with h | h | h <;> omega
      have g1 : ab (dq z w) = ab z / ab w ∧ (ab z / ab w ≠ 0 → sg (dq z w) = sg z * sg w) := by
        by_cases hq : ab z / ab w = 0
        · rw [e1, hq, Int.mul_zero]; exact ⟨rfl, fun h => (h rfl).elim⟩
        · have hm : sg z * sg w = 1 ∨ sg z * sg w = -1 := by
            rcases aJ z with h | h | h <;> rcases aJ w with h5 | h5 | h5 <;> rw [h.1, h5.1] <;> first | omega | (exfalso; apply hq; rw [h.2.2]; exact Int.zero_ediv _)
          obtain ⟨f1, f2⟩ := tQ e1 (by omega) hm
          exact ⟨f2, fun _ => f1⟩
      have g2 : ab (dr z w) = ab z % ab w ∧ (ab z % ab w ≠ 0 → sg (dr z w) = sg z) := by
        by_cases hq : ab z % ab w = 0
        · rw [e2, hq, Int.mul_zero]; exact ⟨rfl, fun h => (h rfl).elim⟩
        · have hm : sg z = 1 ∨ sg z = -1 := by
            rcases aJ z with h | h | h
            · exact .inr h.1
            · exfalso; apply hq; rw [h.2.2]; exact Int.zero_emod _
            · exact .inl h.1
          obtain ⟨f1, f2⟩ := tQ e2 (by omega) hm
          exact ⟨f2, fun _ => f1⟩
      have hs1 := bS (sg z * sg w) (dg (ab z / ab w)) (dq z w) (by omega) (aN _) (by rw [hvq, g1.1]) (by rw [hvq]; exact g1.2)
      have hs2 := bS (sg z) (dg (ab z % ab w)) (dr z w) (by omega) (aN _) (by rw [hvr, g2.1]) (by rw [hvr]; exact g2.2)
      (repeat (first | refine aC ?_ | refine a7 ?_ | ((first | refine a8 [0, 1, 2, 3, 4, 5, 6, 7, 8, 9, 20, 44] hX ?_ | refine a6 [0, 1, 2, 3, 4, 5, 6, 7, 8, 9, 20, 44] hX mixed ?_ | refine aD ?_ | refine aA ?_ | refine aB ?_); (simp [go_sem, hww]; (try simp (disch := omega) only [w64, td, tm]); try (refine ⟨by kernel_rfl, ?_⟩)))))
      first | refine aE (hs1) rfl (by simp [go_sem]) rfl ?_ | refine aF (hs1) rfl (by simp [go_sem]) rfl ?_
      try (simp [go_sem]; try (refine ⟨by kernel_rfl, ?_⟩))
      first | refine aE (hs2) rfl (by simp [go_sem]) rfl ?_ | refine aF (hs2) rfl (by simp [go_sem]) rfl ?_
      try (simp [go_sem]; try (refine ⟨by kernel_rfl, ?_⟩))
      (repeat refine And.intro (by first | omega | (unfold maxLen; omega) | kernel_rfl | (refine ⟨by first | omega | (unfold maxLen; omega), by first | omega | (unfold maxLen; omega)⟩) | grind) ?_)
      (repeat (first | refine aC ?_ | refine a7 ?_ | ((first | refine a8 [0, 1, 2, 3, 4, 5, 6, 7, 8, 9, 20, 44] hX ?_ | refine a6 [0, 1, 2, 3, 4, 5, 6, 7, 8, 9, 20, 44] hX mixed ?_ | refine aD ?_ | refine aA ?_ | refine aB ?_); (simp [go_sem]; try (refine ⟨by kernel_rfl, ?_⟩)))))
theorem tR (m n : Nat) : Nat.gcd n (m % n) = Nat.gcd m n := by
  rw [Nat.gcd_comm m n, Nat.gcd_rec n m, Nat.gcd_comm]
theorem dO (z : Int) : ab z = z.natAbs := by unfold ab; split <;> omega
set_option maxHeartbeats 4000000 in
set_option maxRecDepth 20000 in
theorem tS (z w : Int) (hz : rz z) (hw : rz w) : Means false Tryz.prog 45 [bigZ z, bigZ w] (.tup [bigZ (Int.gcd z w), ii 0]) := by
  have hlz := bB hz
  have hlw := bB hw
  rw [dO] at hlz
  rw [dO] at hlw
  have hzn : bigZ z = big2 (sg z) (dg z.natAbs) := by unfold bigZ; rw [dO]
  have hcl := gK (dg (z.natAbs : Int)) (by omega)
  rw [aP] at hlz hlw
  refine aK false 44 [.cell 4 24, .tmp 5] Tryz.func45 rfl rfl rfl (by simp) (by decide) rfl fun X hX => ?_
  (repeat (first | refine aC ?_ | refine a7 ?_ | ((first | refine a8 [0, 1, 2, 3, 4, 5, 6, 7, 9, 17, 29] hX ?_ | refine a6 [0, 1, 2, 3, 4, 5, 6, 7, 9, 17, 29] hX mixed ?_ | refine aD ?_ | refine aA ?_ | refine aB ?_); (simp [go_sem]; try (refine ⟨by kernel_rfl, ?_⟩)))))
  first | refine aE (aX z hz) rfl (by simp [go_sem]) rfl ?_ | refine aF (aX z hz) rfl (by simp [go_sem]) rfl ?_
  try (simp [go_sem]; try (refine ⟨by kernel_rfl, ?_⟩))
  first | refine aI (fun hg => aX w hw) rfl (by simp [go_sem]) rfl ?_ | refine aH (fun hg => aX w hw) rfl (by simp [go_sem]) rfl ?_
  try (simp [go_sem]; try (refine ⟨by kernel_rfl, ?_⟩))
  (repeat (first | refine aC ?_ | refine a7 ?_ | ((first | refine a8 [0, 1, 2, 3, 4, 5, 6, 7, 9, 17, 29] hX ?_ | refine a6 [0, 1, 2, 3, 4, 5, 6, 7, 9, 17, 29] hX mixed ?_ | refine aD ?_ | refine aA ?_ | refine aB ?_); (simp [go_sem]; (try simp (disch := omega) only [w64, td, tm]); try (refine ⟨by kernel_rfl, ?_⟩)))))
  refine aG (b := false) (by simp [go_sem]) (fun h => by cases h) (fun _ => ?_)
  (repeat (first | refine aC ?_ | refine a7 ?_ | ((first | refine a8 [0, 1, 2, 3, 4, 5, 6, 7, 9, 17, 29] hX ?_ | refine a6 [0, 1, 2, 3, 4, 5, 6, 7, 9, 17, 29] hX mixed ?_ | refine aD ?_ | refine aA ?_ | refine aB ?_); (simp [go_sem, dO]; (try simp (disch := omega) only [w64, td, tm]); try (refine ⟨by kernel_rfl, ?_⟩)))))
  first | refine aE (hcl) rfl (by simp [go_sem]) rfl ?_ | refine aF (hcl) rfl (by simp [go_sem]) rfl ?_
  try (simp [go_sem, dO]; try (refine ⟨by kernel_rfl, ?_⟩))
  (repeat refine And.intro (by first | omega | (unfold maxLen; omega) | kernel_rfl | (refine ⟨by first | omega | (unfold maxLen; omega), by first | omega | (unfold maxLen; omega)⟩) | grind) ?_)
  (repeat (first | refine aC ?_ | refine a7 ?_ | ((first | refine a8 [0, 1, 2, 3, 4, 5, 6, 7, 9, 17, 29] hX ?_ | refine a6 [0, 1, 2, 3, 4, 5, 6, 7, 9, 17, 29] hX mixed ?_ | refine aD ?_ | refine aA ?_ | refine aB ?_); (simp [go_sem]; (try simp (disch := omega) only [w64, td, tm]); try (refine ⟨by kernel_rfl, ?_⟩)))))
  refine aQ (fun x : Nat × Nat => ⟨mkE [(4, .el 0 2 0 0), (5, ii 0), (6, il (dg (x.1 : Int))), (7, il (dg (x.2 : Int)))], [.row ⟨24, 2, [.agg [ii 0, .nil]]⟩]⟩)
    (fun x => Nat.gcd x.1 x.2 = Int.gcd z w ∧ (x.1 : Int) < 1048576 ^ 60 ∧ (x.2 : Int) < 1048576 ^ 60) (fun x => x.2) (z.natAbs, w.natAbs) ?_ ?_ ?_
  · refine aL _ [.old 2 ⟨24, 2, [.agg [ii 0, .nil]]⟩] (by simp [go_sem]) ?_
    simp [go_sem]
  · exact ⟨rfl, hlz, hlw⟩
  · rintro ⟨m, n⟩ ⟨hg, hm, hn⟩
    simp only [] at hg hm hn
    have hlm := (aP 60).2 hm
    have hln := (aP 60).2 hn
    have hm0 : (0 : Int) ≤ m := by omega
    have hn0 : (0 : Int) ≤ n := by omega
    have hvm : val (dg (m : Int)) = m := aU hm0
    have hvn : val (dg (n : Int)) = n := aU hn0
    have hln0 : 0 < (dg (n : Int)).length ↔ n ≠ 0 := by
      rw [List.length_pos_iff, Ne, bF]; omega
    (repeat (first | refine aC ?_ | refine a7 ?_ | ((first | refine a8 [0, 1, 2, 3, 4, 5, 6, 7, 9, 17, 29] hX ?_ | refine a6 [0, 1, 2, 3, 4, 5, 6, 7, 9, 17, 29] hX mixed ?_ | refine aD ?_ | refine aA ?_ | refine aB ?_); (simp [go_sem]; (try simp (disch := omega) only [w64, td, tm]); try (refine ⟨by kernel_rfl, ?_⟩)))))
    refine aG (b := decide (n ≠ 0)) (by
      simp only [← hln0]
      simp [go_sem]) (fun hd => ?_) (fun hd => ?_)
    · simp only [decide_eq_true_eq] at hd
      have hdiv := xK (dg (m : Int)) (dg (n : Int)) (aN _) (aN _) (by omega) (by omega) (iQ hm0) (iQ hn0) (hln0.2 hd)
      rw [hvm, hvn] at hdiv
      (repeat (first | refine aC ?_ | refine a7 ?_ | ((first | refine a8 [0, 1, 2, 3, 4, 5, 6, 7, 9, 17, 29] hX ?_ | refine a6 [0, 1, 2, 3, 4, 5, 6, 7, 9, 17, 29] hX mixed ?_ | refine aD ?_ | refine aA ?_ | refine aB ?_); (simp [go_sem]; (try simp (disch := omega) only [w64, td, tm]); try (refine ⟨by kernel_rfl, ?_⟩)))))
      first | refine aE (hdiv) rfl (by simp [go_sem]) rfl ?_ | refine aF (hdiv) rfl (by simp [go_sem]) rfl ?_
      try (simp [go_sem]; try (refine ⟨by kernel_rfl, ?_⟩))
      (repeat (first | refine aC ?_ | refine a7 ?_ | ((first | refine a8 [0, 1, 2, 3, 4, 5, 6, 7, 9, 17, 29] hX ?_ | refine a6 [0, 1, 2, 3, 4, 5, 6, 7, 9, 17, 29] hX mixed ?_ | refine aD ?_ | refine aA ?_ | refine aB ?_); (simp [go_sem]; (try simp (disch := omega) only [w64, td, tm]); try (refine ⟨by kernel_rfl, ?_⟩)))))
      have hlt : m % n < n := Nat.mod_lt _ (by omega)
      refine ⟨n, m % n, ⟨by rw [tR, hg], hn, by omega⟩, hlt, ?_⟩
      refine aL _ [.old 0 ⟨24, 2, [.agg [ii 0, .nil]]⟩] (by simp [go_sem]) ?_
      simp [go_sem]
    · have hn00 : n = 0 := by simpa using hd
      subst hn00
      rw [Nat.gcd_zero_right] at hg
      rw [← hg]
      have hab : ab (m : Int) = m := by rw [dO]; omega
      have hr : rz (m : Int) := by unfold rz; rw [hab]; exact hm
      have hcl2 := gK (dg (m : Int)) (by omega)
      have hs1 := bS 1 (dg (m : Int)) m (by omega) (aN _) (by rw [hvm, hab]) (fun h => by rw [hvm] at h; rw [sg, if_neg (by omega), if_pos (by omega)])
      have hch := m9 (m : Int) (by rw [hab]; omega)
      rw [res, bV hr, pO hr] at hch
      (repeat (first | refine aC ?_ | refine a7 ?_ | ((first | refine a8 [0, 1, 2, 3, 4, 5, 6, 7, 9, 17, 29] hX ?_ | refine a6 [0, 1, 2, 3, 4, 5, 6, 7, 9, 17, 29] hX mixed ?_ | refine aD ?_ | refine aA ?_ | refine aB ?_); (simp [go_sem]; (try simp (disch := omega) only [w64, td, tm]); try (refine ⟨by kernel_rfl, ?_⟩)))))
      first | refine aE (hcl2) rfl (by simp [go_sem]) rfl ?_ | refine aF (hcl2) rfl (by simp [go_sem]) rfl ?_
      try (simp [go_sem]; try (refine ⟨by kernel_rfl, ?_⟩))
      first | refine aE (hs1) rfl (by simp [go_sem]) rfl ?_ | refine aF (hs1) rfl (by simp [go_sem]) rfl ?_
      try (simp [go_sem]; try (refine ⟨by kernel_rfl, ?_⟩))
      first | refine aE (hch) rfl (by simp [go_sem]) rfl ?_ | refine aF (hch) rfl (by simp [go_sem]) rfl ?_
      try (simp [go_sem]; try (refine ⟨by kernel_rfl, ?_⟩))
      (repeat (first | refine aC ?_ | refine a7 ?_ | ((first | refine a8 [0, 1, 2, 3, 4, 5, 6, 7, 9, 17, 29] hX ?_ | refine a6 [0, 1, 2, 3, 4, 5, 6, 7, 9, 17, 29] hX mixed ?_ | refine aD ?_ | refine aA ?_ | refine aB ?_); (simp [go_sem]; (try simp (disch := omega) only [w64, td, tm]); try (refine ⟨by kernel_rfl, ?_⟩)))))
end Go.Proofs.YtebinaffldlihaaGreatDoor
