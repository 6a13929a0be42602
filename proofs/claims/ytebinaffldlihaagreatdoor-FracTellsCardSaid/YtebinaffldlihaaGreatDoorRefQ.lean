import Derived.Test.YtebinaffldlihaaGreatDoorRefP
import Derived.Test.YtebinaffldlihaaGreatDoorKillA
set_option linter.all false
namespace Go.Proofs.YtebinaffldlihaaGreatDoor
open Go.RowKit Go.Ab
attribute [local irreducible] AWP Go.Ab.Sub Means MeansH CallK CallG CallT CallGT CallU
theorem sab {s t x : Int} (h : x = s * t) (h0 : 0 ≤ t) (hs : s = -1 ∨ (s = 0 ∧ t = 0) ∨ s = 1) : ab x = t ∧ (x ≠ 0 → s = sg x) := by
  subst h
  rcases hs with rfl | ⟨rfl, rfl⟩ | rfl
  · rcases aJ (-1 * t) with h | h | h <;> refine ⟨by omega, fun _ => by omega⟩
  · simp [ab]
  · rcases aJ (1 * t) with h | h | h <;> refine ⟨by omega, fun _ => by omega⟩
set_option maxHeartbeats 8000000 in
set_option maxRecDepth 20000 in
theorem yS (z w : Int) (hz : rz z) (hw : rz w) (h0 : w ≠ 0) : Means false Tryz.prog 50 [bigZ z, bigZ w] (.tup [bigZ (dq z w), bigZ (dr z w), ii 0]) := by
  have hlz := bB hz
  have hlw := bB hw
  have hza := aV z
  have hD : 0 < ab w := by rcases aJ w with h | h | h <;> omega
  have hs : sg w ≠ 0 := by rcases aJ w with h | h | h <;> omega
  have hmm : -1 ≤ sg z * sg w ∧ sg z * sg w ≤ 1 := by rw [← eX]; exact dN _
  have hww := w64 (x := sg z * sg w) (by omega) (by omega)
  have hov := rD (dg (ab z)) (dg (ab w)) (by omega) (by omega) (aN _) (aN _) (by rw [aR]; exact hD)
  rw [aR, aR] at hov
  have h1 := Int.emod_nonneg (ab z) (show ab w ≠ 0 by omega)
  have h2 := Int.emod_lt_of_pos (ab z) hD
  have h3 := Int.ediv_nonneg hza (show 0 ≤ ab w by omega)
  have h4 := Int.ediv_le_self (ab w) hza
  obtain ⟨df1, df2⟩ := lF (z := z) h0
  have hlq : (dg (ab z / ab w)).length ≤ 60 := Nat.le_trans (aW h4) hlz
  have hlr : (dg (ab z % ab w)).length ≤ 60 := Nat.le_trans (aW (by omega)) hlw
  have hq1 : (dg (ab z / ab w + 1)).length ≤ 61 := by
    rw [aP] at hlq ⊢
    have : (1048576 : Int) ^ 61 = 1048576 ^ 60 * 1048576 := Int.pow_succ _ _
    omega
  have hlm : (dg (ab w - ab z % ab w)).length ≤ 60 := Nat.le_trans (aW (by omega)) hlw
  have hrl : (dg (ab z % ab w)).length = 0 ↔ ab z % ab w = 0 := by rw [List.length_eq_zero_iff, bF]; omega
  have hzq : z = 0 → ab z / ab w = 0 ∧ ab z % ab w = 0 := fun h => by subst h; rw [show ab 0 = 0 from rfl]; simp
  by_cases hc : sg z * sg w < 0 ∧ ab z % ab w ≠ 0
  · obtain ⟨e1, e2⟩ := df1 hc
    obtain ⟨hc1, hc2⟩ := hc
    have cp := mO (dg (ab z / ab w)) [1] (by omega) (by simp) (aN _) (aS.2 ⟨by omega, c6⟩)
    rw [aU h3, show val [1] = 1 from rfl] at cp
    have cn := gT (dg (ab w)) (dg (ab z % ab w)) (by omega) (by omega) (aN _) (aN _) (by rw [aR, aU h1]; omega)
    rw [aR, aU h1] at cn
    obtain ⟨p1, p2⟩ := sab (s := -1) (t := ab z / ab w + 1) (x := dq z w) (by rw [e1]; omega) (by omega) (.inl rfl)
    obtain ⟨p3, p4⟩ := sab (s := sg w) (t := ab w - ab z % ab w) (x := dr z w) e2 (by omega) (by rcases aJ w with h | h | h <;> omega)
    have m1 := cU (-1) (dq z w) (dg (ab z / ab w + 1)) (by omega) (aN _) (by rw [aU (by omega), p1]) p2
    have m2 := cU (sg w) (dr z w) (dg (ab w - ab z % ab w)) (by omega) (aN _) (by rw [aU (by omega), p3]) p4
    have hn1 : ¬ 0 ≤ sg z * sg w := by omega
    have hn2 : ¬ (dg (ab z % ab w)).length = 0 := fun q => hc2 (hrl.1 q)
    have hn3 : ¬ dg (ab z % ab w) = [] := fun q => hn2 (by rw [q]; rfl)
    have cK := l5 (E := 3) (k := 1) [il (dg (ab z / ab w))] (es := [ii 1]) (rest := []) rfl (by simp [AV.zone]) (by simp) rfl cp
    generalize dq z w = x at *
    generalize dr z w = y at *
    generalize dg (ab z / ab w) = Lq at *
    generalize dg (ab z % ab w) = Lr at *
    generalize dg (ab z / ab w + 1) = Lp at *
    generalize dg (ab w - ab z % ab w) = Lm at *
    refine aK false 65 [.cell 4 24, .cell 5 24, .tmp 6] Tryz.func50 rfl rfl rfl (by simp) (by decide) rfl fun X hX => ?_
    (repeat (first | refine aC ?_ | refine a7 ?_ | ((first | refine a8 [0, 1, 2, 3, 4, 5, 6, 7, 8, 16, 21, 42] hX ?_ | refine a6 [0, 1, 2, 3, 4, 5, 6, 7, 8, 16, 21, 42] hX mixed ?_ | refine aD ?_ | refine aA ?_ | refine aB ?_); (simp [go_sem]; try (refine ⟨by kernel_rfl, ?_⟩)))))
    first | refine aE (aO z hz) rfl (by simp [go_sem]) rfl ?_ | refine aF (aO z hz) rfl (by simp [go_sem]) rfl ?_
    try (simp [go_sem]; try (refine ⟨by kernel_rfl, ?_⟩))
    first | refine aI (fun hg => aO w hw) rfl (by simp [go_sem]) rfl ?_ | refine aH (fun hg => aO w hw) rfl (by simp [go_sem]) rfl ?_
    try (simp [go_sem]; try (refine ⟨by kernel_rfl, ?_⟩))
    refine aG (b := false) (by simp [go_sem]) (fun h => by cases h) (fun _ => ?_)
    (repeat (first | refine aC ?_ | refine a7 ?_ | ((first | refine a8 [0, 1, 2, 3, 4, 5, 6, 7, 8, 16, 21, 42] hX ?_ | refine a6 [0, 1, 2, 3, 4, 5, 6, 7, 8, 16, 21, 42] hX mixed ?_ | refine aD ?_ | refine aA ?_ | refine aB ?_); (simp [go_sem]; try (refine ⟨by kernel_rfl, ?_⟩)))))
    refine aG (b := false) (by simp [go_sem, hs]) (fun h => by cases h) (fun _ => ?_)
    (repeat (first | refine aC ?_ | refine a7 ?_ | ((first | refine a8 [0, 1, 2, 3, 4, 5, 6, 7, 8, 16, 21, 42] hX ?_ | refine a6 [0, 1, 2, 3, 4, 5, 6, 7, 8, 16, 21, 42] hX mixed ?_ | refine aD ?_ | refine aA ?_ | refine aB ?_); (simp [go_sem]; try (refine ⟨by kernel_rfl, ?_⟩)))))
    first | refine aE (hov) rfl (by simp [go_sem]) rfl ?_ | refine aF (hov) rfl (by simp [go_sem]) rfl ?_
    try (simp [go_sem]; try (refine ⟨by kernel_rfl, ?_⟩))
    (repeat (first | refine aC ?_ | refine a7 ?_ | ((first | refine a8 [0, 1, 2, 3, 4, 5, 6, 7, 8, 16, 21, 42] hX ?_ | refine a6 [0, 1, 2, 3, 4, 5, 6, 7, 8, 16, 21, 42] hX mixed ?_ | refine aD ?_ | refine aA ?_ | refine aB ?_); (simp [go_sem, hww, hn1]; try (refine ⟨by kernel_rfl, ?_⟩)))))
    refine aG (b := false) (by simp [go_sem, hww, hn1, hn2, hn3]; try omega) (fun h => by cases h) (fun _ => ?_)
    (repeat (first | refine aC ?_ | refine a7 ?_ | ((first | refine a8 [0, 1, 2, 3, 4, 5, 6, 7, 8, 16, 21, 42] hX ?_ | refine a6 [0, 1, 2, 3, 4, 5, 6, 7, 8, 16, 21, 42] hX mixed ?_ | refine aD ?_ | refine aA ?_ | refine aB ?_); (simp [go_sem]; try (refine ⟨by kernel_rfl, ?_⟩)))))
    refine b4 [4] cK (by simp [go_sem]) ?_
    try (simp [go_sem]; try (refine ⟨by kernel_rfl, ?_⟩))
    first | refine aE (m1) rfl (by simp [go_sem]) rfl ?_ | refine aF (m1) rfl (by simp [go_sem]) rfl ?_
    try (simp [go_sem]; try (refine ⟨by kernel_rfl, ?_⟩))
    first | refine aE (cn) rfl (by simp [go_sem]) rfl ?_ | refine aF (cn) rfl (by simp [go_sem]) rfl ?_
    try (simp [go_sem]; try (refine ⟨by kernel_rfl, ?_⟩))
    first | refine aE (m2) rfl (by simp [go_sem]) rfl ?_ | refine aF (m2) rfl (by simp [go_sem]) rfl ?_
    try (simp [go_sem]; try (refine ⟨by kernel_rfl, ?_⟩))
    (repeat (first | refine aC ?_ | refine a7 ?_ | ((first | refine a8 [0, 1, 2, 3, 4, 5, 6, 7, 8, 16, 21, 42] hX ?_ | refine a6 [0, 1, 2, 3, 4, 5, 6, 7, 8, 16, 21, 42] hX mixed ?_ | refine aD ?_ | refine aA ?_ | refine aB ?_); (simp [go_sem]; try (refine ⟨by kernel_rfl, ?_⟩)))))
  · obtain ⟨e1, e2⟩ := df2 hc
    have hss : sg z * sg w = -1 ∨ (sg z * sg w = 0 ∧ ab z / ab w = 0) ∨ sg z * sg w = 1 := by
      rcases aJ z with h | h | h
      · rcases aJ w with h' | h' | h' <;> rw [h.1, h'.1] <;> omega
      · right; left; exact ⟨by rw [h.1]; simp, (hzq h.2.1).1⟩
      · rcases aJ w with h' | h' | h' <;> rw [h.1, h'.1] <;> omega
    obtain ⟨p1, p2⟩ := sab (s := sg z * sg w) (t := ab z / ab w) (x := dq z w) e1 h3 hss
    obtain ⟨p3, p4⟩ := sab (s := sg z) (t := ab z % ab w) (x := dr z w) e2 h1 (by
      rcases aJ z with h | h | h
      · omega
      · have := hzq h.2.1; omega
      · omega)
    have m1 := cU (sg z * sg w) (dq z w) (dg (ab z / ab w)) (by omega) (aN _) (by rw [aU h3, p1]) p2
    have m2 := cU (sg z) (dr z w) (dg (ab z % ab w)) (by omega) (aN _) (by rw [aU h1, p3]) p4
    have hcb : 0 ≤ sg z * sg w ∨ (dg (ab z % ab w)).length = 0 := by
      rcases Int.lt_or_le (sg z * sg w) 0 with q | q
      · right; exact hrl.2 (Classical.byContradiction fun r => hc ⟨q, r⟩)
      · exact .inl q
    generalize dq z w = x at *
    generalize dr z w = y at *
    generalize dg (ab z / ab w) = Lq at *
    generalize dg (ab z % ab w) = Lr at *
    refine aK false 65 [.cell 4 24, .cell 5 24, .tmp 6] Tryz.func50 rfl rfl rfl (by simp) (by decide) rfl fun X hX => ?_
    (repeat (first | refine aC ?_ | refine a7 ?_ | ((first | refine a8 [0, 1, 2, 3, 4, 5, 6, 7, 8, 16, 21, 42] hX ?_ | refine a6 [0, 1, 2, 3, 4, 5, 6, 7, 8, 16, 21, 42] hX mixed ?_ | refine aD ?_ | refine aA ?_ | refine aB ?_); (simp [go_sem]; try (refine ⟨by kernel_rfl, ?_⟩)))))
    first | refine aE (aO z hz) rfl (by simp [go_sem]) rfl ?_ | refine aF (aO z hz) rfl (by simp [go_sem]) rfl ?_
    try (simp [go_sem]; try (refine ⟨by kernel_rfl, ?_⟩))
    first | refine aI (fun hg => aO w hw) rfl (by simp [go_sem]) rfl ?_ | refine aH (fun hg => aO w hw) rfl (by simp [go_sem]) rfl ?_
    try (simp [go_sem]; try (refine ⟨by kernel_rfl, ?_⟩))
    refine aG (b := false) (by simp [go_sem]) (fun h => by cases h) (fun _ => ?_)
    (repeat (first | refine aC ?_ | refine a7 ?_ | ((first | refine a8 [0, 1, 2, 3, 4, 5, 6, 7, 8, 16, 21, 42] hX ?_ | refine a6 [0, 1, 2, 3, 4, 5, 6, 7, 8, 16, 21, 42] hX mixed ?_ | refine aD ?_ | refine aA ?_ | refine aB ?_); (simp [go_sem]; try (refine ⟨by kernel_rfl, ?_⟩)))))
    refine aG (b := false) (by simp [go_sem, hs]) (fun h => by cases h) (fun _ => ?_)
    (repeat (first | refine aC ?_ | refine a7 ?_ | ((first | refine a8 [0, 1, 2, 3, 4, 5, 6, 7, 8, 16, 21, 42] hX ?_ | refine a6 [0, 1, 2, 3, 4, 5, 6, 7, 8, 16, 21, 42] hX mixed ?_ | refine aD ?_ | refine aA ?_ | refine aB ?_); (simp [go_sem]; try (refine ⟨by kernel_rfl, ?_⟩)))))
    first | refine aE (hov) rfl (by simp [go_sem]) rfl ?_ | refine aF (hov) rfl (by simp [go_sem]) rfl ?_
    try (simp [go_sem]; try (refine ⟨by kernel_rfl, ?_⟩))
    (repeat (first | refine aC ?_ | refine a7 ?_ | ((first | refine a8 [0, 1, 2, 3, 4, 5, 6, 7, 8, 16, 21, 42] hX ?_ | refine a6 [0, 1, 2, 3, 4, 5, 6, 7, 8, 16, 21, 42] hX mixed ?_ | refine aD ?_ | refine aA ?_ | refine aB ?_); (simp [go_sem, hww]; try (refine ⟨by kernel_rfl, ?_⟩)))))
    refine aG (b := true) (by rcases hcb with q | q <;> simp [go_sem, hww, q]; try (right; exact List.length_eq_zero_iff.1 q)) (fun _ => ?_) (fun h => by cases h)
    (repeat (first | refine aC ?_ | refine a7 ?_ | ((first | refine a8 [0, 1, 2, 3, 4, 5, 6, 7, 8, 16, 21, 42] hX ?_ | refine a6 [0, 1, 2, 3, 4, 5, 6, 7, 8, 16, 21, 42] hX mixed ?_ | refine aD ?_ | refine aA ?_ | refine aB ?_); (simp [go_sem, hww]; try (refine ⟨by kernel_rfl, ?_⟩)))))
    first | refine aE (m1) rfl (by simp [go_sem]) rfl ?_ | refine aF (m1) rfl (by simp [go_sem]) rfl ?_
    try (simp [go_sem, hww]; try (refine ⟨by kernel_rfl, ?_⟩))
    first | refine aE (m2) rfl (by simp [go_sem]) rfl ?_ | refine aF (m2) rfl (by simp [go_sem]) rfl ?_
    try (simp [go_sem]; try (refine ⟨by kernel_rfl, ?_⟩))
    (repeat (first | refine aC ?_ | refine a7 ?_ | ((first | refine a8 [0, 1, 2, 3, 4, 5, 6, 7, 8, 16, 21, 42] hX ?_ | refine a6 [0, 1, 2, 3, 4, 5, 6, 7, 8, 16, 21, 42] hX mixed ?_ | refine aD ?_ | refine aA ?_ | refine aB ?_); (simp [go_sem]; try (refine ⟨by kernel_rfl, ?_⟩)))))
end Go.Proofs.YtebinaffldlihaaGreatDoor
