/-
  The reference of layer 4: division.
-/
import Derived.Test.YtlejmkmcghbdiaaGreatDoorRefP
import Derived.Test.YtlejmkmcghbdiaaGreatDoorKillA
set_option linter.all false
namespace Go.Proofs.YtlejmkmcghbdiaaGreatDoor
open Go.RowKit Go.Ab
attribute [local irreducible] AWP Go.Ab.Sub Means MeansH CallK CallG CallT CallGT CallU

theorem rDiv_0 (z : Int) (hz : rz z) : Means false Tryz.prog 14 [bigZ z, bigZ 0] (.tup [bigZ 0, bigZ 0, ii 15]) := by
  have hw : rz 0 := rz_c (by decide)
  refine means_fn false 65 [.cell 4 24, .cell 5 24, .tmp 6] Tryz.func14 rfl rfl rfl (by simp) (by decide) rfl fun X hX => ?_
  (repeat (first | refine awp_seq ?_ | refine awp_block ?_ | ((first | refine awp_runG [0, 1, 2, 3, 4, 5, 6, 7, 8, 16, 21, 42] hX ?_ | refine awp_drawnG [0, 1, 2, 3, 4, 5, 6, 7, 8, 16, 21, 42] hX mixed ?_ | refine awp_ret ?_ | refine awp_skip ?_ | refine awp_exit ?_); (simp [go_sem]; try (refine ⟨by kernel_rfl, ?_⟩)))))
  first | refine callK_intro (rRight_t z hz) rfl (by simp [go_sem]) rfl ?_ | refine callT_intro (rRight_t z hz) rfl (by simp [go_sem]) rfl ?_
  try (simp [go_sem]; try (refine ⟨by kernel_rfl, ?_⟩))
  first | refine callG_intro (fun hg => rRight_t 0 hw) rfl (by simp [go_sem]) rfl ?_ | refine callGT_intro (fun hg => rRight_t 0 hw) rfl (by simp [go_sem]) rfl ?_
  try (simp [go_sem]; try (refine ⟨by kernel_rfl, ?_⟩))
  refine awp_cond (b := false) (by simp [go_sem]) (fun h => by cases h) (fun _ => ?_)
  (repeat (first | refine awp_seq ?_ | refine awp_block ?_ | ((first | refine awp_runG [0, 1, 2, 3, 4, 5, 6, 7, 8, 16, 21, 42] hX ?_ | refine awp_drawnG [0, 1, 2, 3, 4, 5, 6, 7, 8, 16, 21, 42] hX mixed ?_ | refine awp_ret ?_ | refine awp_skip ?_ | refine awp_exit ?_); (simp [go_sem]; try (refine ⟨by kernel_rfl, ?_⟩)))))
  refine awp_cond (b := true) (by simp [go_sem, sg]) (fun _ => ?_) (fun h => by cases h)
  (repeat (first | refine awp_seq ?_ | refine awp_block ?_ | ((first | refine awp_runG [0, 1, 2, 3, 4, 5, 6, 7, 8, 16, 21, 42] hX ?_ | refine awp_drawnG [0, 1, 2, 3, 4, 5, 6, 7, 8, 16, 21, 42] hX mixed ?_ | refine awp_ret ?_ | refine awp_skip ?_ | refine awp_exit ?_); (simp [go_sem]; try (refine ⟨by kernel_rfl, ?_⟩)))))
  try rfl

/-- An integer by a sign and a size. -/
theorem sab {s t x : Int} (h : x = s * t) (h0 : 0 ≤ t) (hs : s = -1 ∨ (s = 0 ∧ t = 0) ∨ s = 1) : ab x = t ∧ (x ≠ 0 → s = sg x) := by
  subst h
  rcases hs with rfl | ⟨rfl, rfl⟩ | rfl
  · rcases sg_cases (-1 * t) with h | h | h <;> refine ⟨by omega, fun _ => by omega⟩
  · simp [ab]
  · rcases sg_cases (1 * t) with h | h | h <;> refine ⟨by omega, fun _ => by omega⟩
set_option maxHeartbeats 8000000 in
set_option maxRecDepth 20000 in
theorem rDiv_m (z w : Int) (hz : rz z) (hw : rz w) (h0 : w ≠ 0) : Means false Tryz.prog 14 [bigZ z, bigZ w] (.tup [bigZ (dq z w), bigZ (dr z w), ii 0]) := by
  have hlz := len60 hz
  have hlw := len60 hw
  have hza := ab_nonneg z
  have hD : 0 < ab w := by rcases sg_cases w with h | h | h <;> omega
  have hs : sg w ≠ 0 := by rcases sg_cases w with h | h | h <;> omega
  have hmm : -1 ≤ sg z * sg w ∧ sg z * sg w ≤ 1 := by rw [← sg_mul]; exact sg_bd _
  have hww := w64 (x := sg z * sg w) (by omega) (by omega)
  have hov := rover_m (dg (ab z)) (dg (ab w)) (by omega) (by omega) (okD_dg _) (okD_dg _) (by rw [val_ab]; exact hD)
  rw [val_ab, val_ab] at hov
  have h1 := Int.emod_nonneg (ab z) (show ab w ≠ 0 by omega)
  have h2 := Int.emod_lt_of_pos (ab z) hD
  have h3 := Int.ediv_nonneg hza (show 0 ≤ ab w by omega)
  have h4 := Int.ediv_le_self (ab w) hza
  obtain ⟨df1, df2⟩ := div_facts (z := z) h0
  have hlq : (dg (ab z / ab w)).length ≤ 60 := Nat.le_trans (dg_len_mono h4) hlz
  have hlr : (dg (ab z % ab w)).length ≤ 60 := Nat.le_trans (dg_len_mono (by omega)) hlw
  have hq1 : (dg (ab z / ab w + 1)).length ≤ 61 := by
    rw [dg_len_iff] at hlq ⊢
    have : (1048576 : Int) ^ 61 = 1048576 ^ 60 * 1048576 := Int.pow_succ _ _
    omega
  have hlm : (dg (ab w - ab z % ab w)).length ≤ 60 := Nat.le_trans (dg_len_mono (by omega)) hlw
  have hrl : (dg (ab z % ab w)).length = 0 ↔ ab z % ab w = 0 := by rw [List.length_eq_zero_iff, dg_eq_nil]; omega
  have hzq : z = 0 → ab z / ab w = 0 ∧ ab z % ab w = 0 := fun h => by subst h; rw [show ab 0 = 0 from rfl]; simp
  by_cases hc : sg z * sg w < 0 ∧ ab z % ab w ≠ 0
  · obtain ⟨e1, e2⟩ := df1 hc
    obtain ⟨hc1, hc2⟩ := hc
    have cp := rplus_m (dg (ab z / ab w)) [1] (by omega) (by simp) (okD_dg _) (okD_cons.2 ⟨by omega, okD_nil⟩)
    rw [val_dg h3, show val [1] = 1 from rfl] at cp
    have cn := rminus_m (dg (ab w)) (dg (ab z % ab w)) (by omega) (by omega) (okD_dg _) (okD_dg _) (by rw [val_ab, val_dg h1]; omega)
    rw [val_ab, val_dg h1] at cn
    obtain ⟨p1, p2⟩ := sab (s := -1) (t := ab z / ab w + 1) (x := dq z w) (by rw [e1]; omega) (by omega) (.inl rfl)
    obtain ⟨p3, p4⟩ := sab (s := sg w) (t := ab w - ab z % ab w) (x := dr z w) e2 (by omega) (by rcases sg_cases w with h | h | h <;> omega)
    have m1 := rmade_z (-1) (dq z w) (dg (ab z / ab w + 1)) (by omega) (okD_dg _) (by rw [val_dg (by omega), p1]) p2
    have m2 := rmade_z (sg w) (dr z w) (dg (ab w - ab z % ab w)) (by omega) (okD_dg _) (by rw [val_dg (by omega), p3]) p4
    have hn1 : ¬ 0 ≤ sg z * sg w := by omega
    have hn2 : ¬ (dg (ab z % ab w)).length = 0 := fun q => hc2 (hrl.1 q)
    have hn3 : ¬ dg (ab z % ab w) = [] := fun q => hn2 (by rw [q]; rfl)
    have cK := meansH_killAt (E := 3) (k := 1) [il (dg (ab z / ab w))] (es := [ii 1]) (rest := []) rfl (by simp [AV.zone]) (by simp) rfl cp
    generalize dq z w = x at *
    generalize dr z w = y at *
    generalize dg (ab z / ab w) = Lq at *
    generalize dg (ab z % ab w) = Lr at *
    generalize dg (ab z / ab w + 1) = Lp at *
    generalize dg (ab w - ab z % ab w) = Lm at *
    refine means_fn false 65 [.cell 4 24, .cell 5 24, .tmp 6] Tryz.func14 rfl rfl rfl (by simp) (by decide) rfl fun X hX => ?_
    (repeat (first | refine awp_seq ?_ | refine awp_block ?_ | ((first | refine awp_runG [0, 1, 2, 3, 4, 5, 6, 7, 8, 16, 21, 42] hX ?_ | refine awp_drawnG [0, 1, 2, 3, 4, 5, 6, 7, 8, 16, 21, 42] hX mixed ?_ | refine awp_ret ?_ | refine awp_skip ?_ | refine awp_exit ?_); (simp [go_sem]; try (refine ⟨by kernel_rfl, ?_⟩)))))
    first | refine callK_intro (rRight_t z hz) rfl (by simp [go_sem]) rfl ?_ | refine callT_intro (rRight_t z hz) rfl (by simp [go_sem]) rfl ?_
    try (simp [go_sem]; try (refine ⟨by kernel_rfl, ?_⟩))
    first | refine callG_intro (fun hg => rRight_t w hw) rfl (by simp [go_sem]) rfl ?_ | refine callGT_intro (fun hg => rRight_t w hw) rfl (by simp [go_sem]) rfl ?_
    try (simp [go_sem]; try (refine ⟨by kernel_rfl, ?_⟩))
    refine awp_cond (b := false) (by simp [go_sem]) (fun h => by cases h) (fun _ => ?_)
    (repeat (first | refine awp_seq ?_ | refine awp_block ?_ | ((first | refine awp_runG [0, 1, 2, 3, 4, 5, 6, 7, 8, 16, 21, 42] hX ?_ | refine awp_drawnG [0, 1, 2, 3, 4, 5, 6, 7, 8, 16, 21, 42] hX mixed ?_ | refine awp_ret ?_ | refine awp_skip ?_ | refine awp_exit ?_); (simp [go_sem]; try (refine ⟨by kernel_rfl, ?_⟩)))))
    refine awp_cond (b := false) (by simp [go_sem, hs]) (fun h => by cases h) (fun _ => ?_)
    (repeat (first | refine awp_seq ?_ | refine awp_block ?_ | ((first | refine awp_runG [0, 1, 2, 3, 4, 5, 6, 7, 8, 16, 21, 42] hX ?_ | refine awp_drawnG [0, 1, 2, 3, 4, 5, 6, 7, 8, 16, 21, 42] hX mixed ?_ | refine awp_ret ?_ | refine awp_skip ?_ | refine awp_exit ?_); (simp [go_sem]; try (refine ⟨by kernel_rfl, ?_⟩)))))
    first | refine callK_intro (hov) rfl (by simp [go_sem]) rfl ?_ | refine callT_intro (hov) rfl (by simp [go_sem]) rfl ?_
    try (simp [go_sem]; try (refine ⟨by kernel_rfl, ?_⟩))
    (repeat (first | refine awp_seq ?_ | refine awp_block ?_ | ((first | refine awp_runG [0, 1, 2, 3, 4, 5, 6, 7, 8, 16, 21, 42] hX ?_ | refine awp_drawnG [0, 1, 2, 3, 4, 5, 6, 7, 8, 16, 21, 42] hX mixed ?_ | refine awp_ret ?_ | refine awp_skip ?_ | refine awp_exit ?_); (simp [go_sem, hww, hn1]; try (refine ⟨by kernel_rfl, ?_⟩)))))
    refine awp_cond (b := false) (by simp [go_sem, hww, hn1, hn2, hn3]; try omega) (fun h => by cases h) (fun _ => ?_)
    (repeat (first | refine awp_seq ?_ | refine awp_block ?_ | ((first | refine awp_runG [0, 1, 2, 3, 4, 5, 6, 7, 8, 16, 21, 42] hX ?_ | refine awp_drawnG [0, 1, 2, 3, 4, 5, 6, 7, 8, 16, 21, 42] hX mixed ?_ | refine awp_ret ?_ | refine awp_skip ?_ | refine awp_exit ?_); (simp [go_sem]; try (refine ⟨by kernel_rfl, ?_⟩)))))
    refine callTE_intro [4] cK (by simp [go_sem]) ?_
    try (simp [go_sem]; try (refine ⟨by kernel_rfl, ?_⟩))
    first | refine callK_intro (m1) rfl (by simp [go_sem]) rfl ?_ | refine callT_intro (m1) rfl (by simp [go_sem]) rfl ?_
    try (simp [go_sem]; try (refine ⟨by kernel_rfl, ?_⟩))
    first | refine callK_intro (cn) rfl (by simp [go_sem]) rfl ?_ | refine callT_intro (cn) rfl (by simp [go_sem]) rfl ?_
    try (simp [go_sem]; try (refine ⟨by kernel_rfl, ?_⟩))
    first | refine callK_intro (m2) rfl (by simp [go_sem]) rfl ?_ | refine callT_intro (m2) rfl (by simp [go_sem]) rfl ?_
    try (simp [go_sem]; try (refine ⟨by kernel_rfl, ?_⟩))
    (repeat (first | refine awp_seq ?_ | refine awp_block ?_ | ((first | refine awp_runG [0, 1, 2, 3, 4, 5, 6, 7, 8, 16, 21, 42] hX ?_ | refine awp_drawnG [0, 1, 2, 3, 4, 5, 6, 7, 8, 16, 21, 42] hX mixed ?_ | refine awp_ret ?_ | refine awp_skip ?_ | refine awp_exit ?_); (simp [go_sem]; try (refine ⟨by kernel_rfl, ?_⟩)))))
  · obtain ⟨e1, e2⟩ := df2 hc
    have hss : sg z * sg w = -1 ∨ (sg z * sg w = 0 ∧ ab z / ab w = 0) ∨ sg z * sg w = 1 := by
      rcases sg_cases z with h | h | h
      · rcases sg_cases w with h' | h' | h' <;> rw [h.1, h'.1] <;> omega
      · right; left; exact ⟨by rw [h.1]; simp, (hzq h.2.1).1⟩
      · rcases sg_cases w with h' | h' | h' <;> rw [h.1, h'.1] <;> omega
    obtain ⟨p1, p2⟩ := sab (s := sg z * sg w) (t := ab z / ab w) (x := dq z w) e1 h3 hss
    obtain ⟨p3, p4⟩ := sab (s := sg z) (t := ab z % ab w) (x := dr z w) e2 h1 (by
      rcases sg_cases z with h | h | h
      · omega
      · have := hzq h.2.1; omega
      · omega)
    have m1 := rmade_z (sg z * sg w) (dq z w) (dg (ab z / ab w)) (by omega) (okD_dg _) (by rw [val_dg h3, p1]) p2
    have m2 := rmade_z (sg z) (dr z w) (dg (ab z % ab w)) (by omega) (okD_dg _) (by rw [val_dg h1, p3]) p4
    have hcb : 0 ≤ sg z * sg w ∨ (dg (ab z % ab w)).length = 0 := by
      rcases Int.lt_or_le (sg z * sg w) 0 with q | q
      · right; exact hrl.2 (Classical.byContradiction fun r => hc ⟨q, r⟩)
      · exact .inl q
    generalize dq z w = x at *
    generalize dr z w = y at *
    generalize dg (ab z / ab w) = Lq at *
    generalize dg (ab z % ab w) = Lr at *
    refine means_fn false 65 [.cell 4 24, .cell 5 24, .tmp 6] Tryz.func14 rfl rfl rfl (by simp) (by decide) rfl fun X hX => ?_
    (repeat (first | refine awp_seq ?_ | refine awp_block ?_ | ((first | refine awp_runG [0, 1, 2, 3, 4, 5, 6, 7, 8, 16, 21, 42] hX ?_ | refine awp_drawnG [0, 1, 2, 3, 4, 5, 6, 7, 8, 16, 21, 42] hX mixed ?_ | refine awp_ret ?_ | refine awp_skip ?_ | refine awp_exit ?_); (simp [go_sem]; try (refine ⟨by kernel_rfl, ?_⟩)))))
    first | refine callK_intro (rRight_t z hz) rfl (by simp [go_sem]) rfl ?_ | refine callT_intro (rRight_t z hz) rfl (by simp [go_sem]) rfl ?_
    try (simp [go_sem]; try (refine ⟨by kernel_rfl, ?_⟩))
    first | refine callG_intro (fun hg => rRight_t w hw) rfl (by simp [go_sem]) rfl ?_ | refine callGT_intro (fun hg => rRight_t w hw) rfl (by simp [go_sem]) rfl ?_
    try (simp [go_sem]; try (refine ⟨by kernel_rfl, ?_⟩))
    refine awp_cond (b := false) (by simp [go_sem]) (fun h => by cases h) (fun _ => ?_)
    (repeat (first | refine awp_seq ?_ | refine awp_block ?_ | ((first | refine awp_runG [0, 1, 2, 3, 4, 5, 6, 7, 8, 16, 21, 42] hX ?_ | refine awp_drawnG [0, 1, 2, 3, 4, 5, 6, 7, 8, 16, 21, 42] hX mixed ?_ | refine awp_ret ?_ | refine awp_skip ?_ | refine awp_exit ?_); (simp [go_sem]; try (refine ⟨by kernel_rfl, ?_⟩)))))
    refine awp_cond (b := false) (by simp [go_sem, hs]) (fun h => by cases h) (fun _ => ?_)
    (repeat (first | refine awp_seq ?_ | refine awp_block ?_ | ((first | refine awp_runG [0, 1, 2, 3, 4, 5, 6, 7, 8, 16, 21, 42] hX ?_ | refine awp_drawnG [0, 1, 2, 3, 4, 5, 6, 7, 8, 16, 21, 42] hX mixed ?_ | refine awp_ret ?_ | refine awp_skip ?_ | refine awp_exit ?_); (simp [go_sem]; try (refine ⟨by kernel_rfl, ?_⟩)))))
    first | refine callK_intro (hov) rfl (by simp [go_sem]) rfl ?_ | refine callT_intro (hov) rfl (by simp [go_sem]) rfl ?_
    try (simp [go_sem]; try (refine ⟨by kernel_rfl, ?_⟩))
    (repeat (first | refine awp_seq ?_ | refine awp_block ?_ | ((first | refine awp_runG [0, 1, 2, 3, 4, 5, 6, 7, 8, 16, 21, 42] hX ?_ | refine awp_drawnG [0, 1, 2, 3, 4, 5, 6, 7, 8, 16, 21, 42] hX mixed ?_ | refine awp_ret ?_ | refine awp_skip ?_ | refine awp_exit ?_); (simp [go_sem, hww]; try (refine ⟨by kernel_rfl, ?_⟩)))))
    refine awp_cond (b := true) (by rcases hcb with q | q <;> simp [go_sem, hww, q]; try (right; exact List.length_eq_zero_iff.1 q)) (fun _ => ?_) (fun h => by cases h)
    (repeat (first | refine awp_seq ?_ | refine awp_block ?_ | ((first | refine awp_runG [0, 1, 2, 3, 4, 5, 6, 7, 8, 16, 21, 42] hX ?_ | refine awp_drawnG [0, 1, 2, 3, 4, 5, 6, 7, 8, 16, 21, 42] hX mixed ?_ | refine awp_ret ?_ | refine awp_skip ?_ | refine awp_exit ?_); (simp [go_sem, hww]; try (refine ⟨by kernel_rfl, ?_⟩)))))
    first | refine callK_intro (m1) rfl (by simp [go_sem]) rfl ?_ | refine callT_intro (m1) rfl (by simp [go_sem]) rfl ?_
    try (simp [go_sem, hww]; try (refine ⟨by kernel_rfl, ?_⟩))
    first | refine callK_intro (m2) rfl (by simp [go_sem]) rfl ?_ | refine callT_intro (m2) rfl (by simp [go_sem]) rfl ?_
    try (simp [go_sem]; try (refine ⟨by kernel_rfl, ?_⟩))
    (repeat (first | refine awp_seq ?_ | refine awp_block ?_ | ((first | refine awp_runG [0, 1, 2, 3, 4, 5, 6, 7, 8, 16, 21, 42] hX ?_ | refine awp_drawnG [0, 1, 2, 3, 4, 5, 6, 7, 8, 16, 21, 42] hX mixed ?_ | refine awp_ret ?_ | refine awp_skip ?_ | refine awp_exit ?_); (simp [go_sem]; try (refine ⟨by kernel_rfl, ?_⟩)))))

end Go.Proofs.YtlejmkmcghbdiaaGreatDoor
