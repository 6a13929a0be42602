/-
  The reference of layer 4: opposites, sums, differences, products.
-/
import Derived.Test.YtlejmkmcghbdiaaGreatDoorRefF
set_option linter.all false
namespace Go.Proofs.YtlejmkmcghbdiaaGreatDoor
open Go.RowKit Go.Ab
attribute [local irreducible] AWP Go.Ab.Sub Means MeansH CallK CallG CallT CallGT CallU

theorem rkept_m (x : Int) (hl : (dg (ab x)).length ≤ 100000) : Means false Tryz.prog 39 [bigZ x] (res x) := by
  by_cases h : (dg (ab x)).length ≤ 60
  · have hr : rz x := (dg_len_iff 60).1 h
    rw [res, r60_of hr, e60_of hr]
    exact kept_ok _ _ h
  · have hr : ¬ rz x := fun q => h ((dg_len_iff 60).2 q)
    have e : res x = .tup [big2 0 [], ii 6] := by rw [res, r60, e60, if_neg hr, if_neg hr]; rfl
    rw [e]
    exact kept_no _ _ h hl
/-- What made gives of a sign and digits that are an integer's. -/
theorem rmade_z (s x : Int) (L : List Int) (hl : L.length ≤ 100000) (ho : okD L) (h1 : val L = ab x) (h2 : x ≠ 0 → s = sg x) : Means false Tryz.prog 40 [ii s, il L] (bigZ x) := by
  have hm := rmade_m s L hl ho
  have e : big2 (if val L = 0 then 0 else s) (dg (val L)) = bigZ x := by
    show _ = big2 (sg x) (dg (ab x))
    rw [h1]
    by_cases q : x = 0
    · subst q; rfl
    · have : ab x ≠ 0 := by unfold ab; split <;> omega
      rw [if_neg this, h2 q]
  rwa [e] at hm
theorem rNeg_m (z : Int) (hz : rz z) : Means false Tryz.prog 29 [bigZ z] (bigZ (-z)) := by
  have hlz := len60 hz
  have hb := sg_bd z
  have hww := w64 (x := - sg z) (by omega) (by omega)
  have cm := rmade_z (- sg z) (-z) (dg (ab z)) (by omega) (okD_dg _) (by rw [val_ab, ab_neg]) (fun _ => (sg_neg z).symm)
  refine means_fn false 13 [.cell 2 24] Tryz.func29 rfl rfl rfl (by simp) (by decide) rfl fun X hX => ?_
  (repeat (first | refine awp_seq ?_ | refine awp_block ?_ | ((first | refine awp_runG [0, 1, 2, 5] hX ?_ | refine awp_drawnG [0, 1, 2, 5] hX mixed ?_ | refine awp_ret ?_ | refine awp_skip ?_ | refine awp_exit ?_); (simp [go_sem]; try (refine ⟨by kernel_rfl, ?_⟩)))))
  first | refine callK_intro (rRight_t z hz) rfl (by simp [go_sem]) rfl ?_ | refine callT_intro (rRight_t z hz) rfl (by simp [go_sem]) rfl ?_
  try (simp [go_sem]; try (refine ⟨by kernel_rfl, ?_⟩))
  refine awp_cond (b := false) (by simp [go_sem]) (fun h => by cases h) (fun _ => ?_)
  (repeat (first | refine awp_seq ?_ | refine awp_block ?_ | ((first | refine awp_runG [0, 1, 2, 5] hX ?_ | refine awp_drawnG [0, 1, 2, 5] hX mixed ?_ | refine awp_ret ?_ | refine awp_skip ?_ | refine awp_exit ?_); (simp [go_sem, hww]; try (refine ⟨by kernel_rfl, ?_⟩)))))
  first | refine callK_intro (cm) rfl (by simp [go_sem]) rfl ?_ | refine callT_intro (cm) rfl (by simp [go_sem]) rfl ?_
  try (simp [go_sem]; try (refine ⟨by kernel_rfl, ?_⟩))
  (repeat (first | refine awp_seq ?_ | refine awp_block ?_ | ((first | refine awp_runG [0, 1, 2, 5] hX ?_ | refine awp_drawnG [0, 1, 2, 5] hX mixed ?_ | refine awp_ret ?_ | refine awp_skip ?_ | refine awp_exit ?_); (simp [go_sem]; try (refine ⟨by kernel_rfl, ?_⟩)))))

theorem or_sg (z w : Int) (h : sg z = 0 ∨ sg w = 0 ∨ sg z = sg w) : orI .i64 (sg z) (sg w) = (if sg z = 0 then sg w else sg z) := by
  rcases sg_cases z with ⟨a, _⟩ | ⟨a, _⟩ | ⟨a, _⟩ <;> rcases sg_cases w with ⟨b, _⟩ | ⟨b, _⟩ | ⟨b, _⟩ <;> rw [a, b] at h ⊢ <;> first | (exact absurd h (by decide)) | rfl | decide
set_option maxHeartbeats 4000000 in
set_option maxRecDepth 20000 in
theorem rAdd_m (z w : Int) (hz : rz z) (hw : rz w) : Means false Tryz.prog 7 [bigZ z, bigZ w] (res (z + w)) := by
  have hlz := len60 hz
  have hlw := len60 hw
  have hza := ab_nonneg z
  have hwa := ab_nonneg w
  have hsum : ab (z + w) ≤ ab z + ab w := by rcases sg_cases z with h | h | h <;> rcases sg_cases w with h2 | h2 | h2 <;> rcases sg_cases (z + w) with h3 | h3 | h3 <;> omega
  have hl61 : (dg (ab z + ab w)).length ≤ 61 := by
    rw [dg_len_iff]
    unfold rz at hz hw
    have : (1048576 : Int) ^ 61 = 1048576 ^ 60 * 1048576 := Int.pow_succ _ _
    omega
  have hlr : (dg (ab (z + w))).length ≤ 61 := Nat.le_trans (dg_len_mono hsum) hl61
  have ck := rkept_m (z + w) (by omega)
  by_cases hc : sg z = 0 ∨ sg w = 0 ∨ sg z = sg w
  · have cp := rplus_m (dg (ab z)) (dg (ab w)) (by omega) (by omega) (okD_dg _) (okD_dg _)
    rw [val_ab, val_ab] at cp
    have hab : ab z + ab w = ab (z + w) := by rcases sg_cases z with h | h | h <;> rcases sg_cases w with h2 | h2 | h2 <;> rcases sg_cases (z + w) with h3 | h3 | h3 <;> omega
    rw [hab] at cp
    have hor := or_sg z w hc
    have cm := rmade_z (if sg z = 0 then sg w else sg z) (z + w) (dg (ab (z + w))) (by omega) (okD_dg _) (by rw [val_ab]) (fun h => by
      rcases sg_cases z with h1 | h1 | h1 <;> rcases sg_cases w with h2 | h2 | h2 <;> rcases sg_cases (z + w) with h3 | h3 | h3 <;> rw [h1.1, h2.1, h3.1] <;> first | omega | (simp; done) | (exfalso; omega))
    have hcb : (decide (sg z = 0) || (decide (sg w = 0) || decide (sg z = sg w))) = true := by simpa using hc
    refine means_fn false 71 [.cell 4 24, .tmp 5] Tryz.func7 rfl rfl rfl (by simp) (by decide) rfl fun X hX => ?_
    (repeat (first | refine awp_seq ?_ | refine awp_block ?_ | ((first | refine awp_runG [0, 1, 2, 3, 4, 5, 13, 29, 48] hX ?_ | refine awp_drawnG [0, 1, 2, 3, 4, 5, 13, 29, 48] hX mixed ?_ | refine awp_ret ?_ | refine awp_skip ?_ | refine awp_exit ?_); (simp [go_sem]; try (refine ⟨by kernel_rfl, ?_⟩)))))
    first | refine callK_intro (rRight_t z hz) rfl (by simp [go_sem]) rfl ?_ | refine callT_intro (rRight_t z hz) rfl (by simp [go_sem]) rfl ?_
    try (simp [go_sem]; try (refine ⟨by kernel_rfl, ?_⟩))
    first | refine callG_intro (fun hg => rRight_t w hw) rfl (by simp [go_sem]) rfl ?_ | refine callGT_intro (fun hg => rRight_t w hw) rfl (by simp [go_sem]) rfl ?_
    try (simp [go_sem]; try (refine ⟨by kernel_rfl, ?_⟩))
    refine awp_cond (b := false) (by simp [go_sem]) (fun h => by cases h) (fun _ => ?_)
    (repeat (first | refine awp_seq ?_ | refine awp_block ?_ | ((first | refine awp_runG [0, 1, 2, 3, 4, 5, 13, 29, 48] hX ?_ | refine awp_drawnG [0, 1, 2, 3, 4, 5, 13, 29, 48] hX mixed ?_ | refine awp_ret ?_ | refine awp_skip ?_ | refine awp_exit ?_); (simp [go_sem]; try (refine ⟨by kernel_rfl, ?_⟩)))))
    refine awp_cond (b := true) (by simp [go_sem, Bool.or_assoc]; simpa using hc) (fun _ => ?_) (fun h => by cases h)
    (repeat (first | refine awp_seq ?_ | refine awp_block ?_ | ((first | refine awp_runG [0, 1, 2, 3, 4, 5, 13, 29, 48] hX ?_ | refine awp_drawnG [0, 1, 2, 3, 4, 5, 13, 29, 48] hX mixed ?_ | refine awp_ret ?_ | refine awp_skip ?_ | refine awp_exit ?_); (simp [go_sem, hor]; try (refine ⟨by kernel_rfl, ?_⟩)))))
    first | refine callK_intro (cp) rfl (by simp [go_sem]) rfl ?_ | refine callT_intro (cp) rfl (by simp [go_sem]) rfl ?_
    try (simp [go_sem, hor]; try (refine ⟨by kernel_rfl, ?_⟩))
    first | refine callK_intro (cm) rfl (by simp [go_sem]) rfl ?_ | refine callT_intro (cm) rfl (by simp [go_sem]) rfl ?_
    try (simp [go_sem]; try (refine ⟨by kernel_rfl, ?_⟩))
    first | refine callK_intro (ck) rfl (by simp [go_sem]) rfl ?_ | refine callT_intro (ck) rfl (by simp [go_sem]) rfl ?_
    try (simp [go_sem]; try (refine ⟨by kernel_rfl, ?_⟩))
    (repeat (first | refine awp_seq ?_ | refine awp_block ?_ | ((first | refine awp_runG [0, 1, 2, 3, 4, 5, 13, 29, 48] hX ?_ | refine awp_drawnG [0, 1, 2, 3, 4, 5, 13, 29, 48] hX mixed ?_ | refine awp_ret ?_ | refine awp_skip ?_ | refine awp_exit ?_); (simp [go_sem]; try (refine ⟨by kernel_rfl, ?_⟩)))))
  · have hc0 : ¬ sg z = 0 := fun h => hc (.inl h)
    have hc1 : ¬ sg w = 0 := fun h => hc (.inr (.inl h))
    have hc2 : ¬ sg z = sg w := fun h => hc (.inr (.inr h))
    have cl := rless_m (dg (ab z)) (dg (ab w)) (by omega) (by omega) (okD_dg _) (okD_dg _)
    rw [val_ab, val_ab] at cl
    by_cases hlt : ab z < ab w
    · have cn := rminus_m (dg (ab w)) (dg (ab z)) (by omega) (by omega) (okD_dg _) (okD_dg _) (by rw [val_ab, val_ab]; omega)
      rw [val_ab, val_ab] at cn
      have hab : ab w - ab z = ab (z + w) := by rcases sg_cases z with h | h | h <;> rcases sg_cases w with h2 | h2 | h2 <;> rcases sg_cases (z + w) with h3 | h3 | h3 <;> omega
      rw [hab] at cn
      have cm := rmade_z (sg w) (z + w) (dg (ab (z + w))) (by omega) (okD_dg _) (by rw [val_ab]) (fun h => by rcases sg_cases z with h1 | h1 | h1 <;> rcases sg_cases w with h2 | h2 | h2 <;> rcases sg_cases (z + w) with h3 | h3 | h3 <;> omega)
      rw [decide_eq_true hlt] at cl
      refine means_fn false 71 [.cell 4 24, .tmp 5] Tryz.func7 rfl rfl rfl (by simp) (by decide) rfl fun X hX => ?_
      (repeat (first | refine awp_seq ?_ | refine awp_block ?_ | ((first | refine awp_runG [0, 1, 2, 3, 4, 5, 13, 29, 48] hX ?_ | refine awp_drawnG [0, 1, 2, 3, 4, 5, 13, 29, 48] hX mixed ?_ | refine awp_ret ?_ | refine awp_skip ?_ | refine awp_exit ?_); (simp [go_sem]; try (refine ⟨by kernel_rfl, ?_⟩)))))
      first | refine callK_intro (rRight_t z hz) rfl (by simp [go_sem]) rfl ?_ | refine callT_intro (rRight_t z hz) rfl (by simp [go_sem]) rfl ?_
      try (simp [go_sem]; try (refine ⟨by kernel_rfl, ?_⟩))
      first | refine callG_intro (fun hg => rRight_t w hw) rfl (by simp [go_sem]) rfl ?_ | refine callGT_intro (fun hg => rRight_t w hw) rfl (by simp [go_sem]) rfl ?_
      try (simp [go_sem]; try (refine ⟨by kernel_rfl, ?_⟩))
      refine awp_cond (b := false) (by simp [go_sem]) (fun h => by cases h) (fun _ => ?_)
      (repeat (first | refine awp_seq ?_ | refine awp_block ?_ | ((first | refine awp_runG [0, 1, 2, 3, 4, 5, 13, 29, 48] hX ?_ | refine awp_drawnG [0, 1, 2, 3, 4, 5, 13, 29, 48] hX mixed ?_ | refine awp_ret ?_ | refine awp_skip ?_ | refine awp_exit ?_); (simp [go_sem]; try (refine ⟨by kernel_rfl, ?_⟩)))))
      refine awp_cond (b := false) (by simp [go_sem, hc0, hc1, hc2]) (fun h => by cases h) (fun _ => ?_)
      (repeat (first | refine awp_seq ?_ | refine awp_block ?_ | ((first | refine awp_runG [0, 1, 2, 3, 4, 5, 13, 29, 48] hX ?_ | refine awp_drawnG [0, 1, 2, 3, 4, 5, 13, 29, 48] hX mixed ?_ | refine awp_ret ?_ | refine awp_skip ?_ | refine awp_exit ?_); (simp [go_sem]; try (refine ⟨by kernel_rfl, ?_⟩)))))
      first | refine callK_intro (cl) rfl (by simp [go_sem]) rfl ?_ | refine callT_intro (cl) rfl (by simp [go_sem]) rfl ?_
      try (simp [go_sem]; try (refine ⟨by kernel_rfl, ?_⟩))
      refine awp_cond (b := true) (by simp [go_sem]) (fun _ => ?_) (fun h => by cases h)
      (repeat (first | refine awp_seq ?_ | refine awp_block ?_ | ((first | refine awp_runG [0, 1, 2, 3, 4, 5, 13, 29, 48] hX ?_ | refine awp_drawnG [0, 1, 2, 3, 4, 5, 13, 29, 48] hX mixed ?_ | refine awp_ret ?_ | refine awp_skip ?_ | refine awp_exit ?_); (simp [go_sem]; try (refine ⟨by kernel_rfl, ?_⟩)))))
      first | refine callK_intro (cn) rfl (by simp [go_sem]) rfl ?_ | refine callT_intro (cn) rfl (by simp [go_sem]) rfl ?_
      try (simp [go_sem]; try (refine ⟨by kernel_rfl, ?_⟩))
      first | refine callK_intro (cm) rfl (by simp [go_sem]) rfl ?_ | refine callT_intro (cm) rfl (by simp [go_sem]) rfl ?_
      try (simp [go_sem]; try (refine ⟨by kernel_rfl, ?_⟩))
      first | refine callK_intro (ck) rfl (by simp [go_sem]) rfl ?_ | refine callT_intro (ck) rfl (by simp [go_sem]) rfl ?_
      try (simp [go_sem]; try (refine ⟨by kernel_rfl, ?_⟩))
      (repeat (first | refine awp_seq ?_ | refine awp_block ?_ | ((first | refine awp_runG [0, 1, 2, 3, 4, 5, 13, 29, 48] hX ?_ | refine awp_drawnG [0, 1, 2, 3, 4, 5, 13, 29, 48] hX mixed ?_ | refine awp_ret ?_ | refine awp_skip ?_ | refine awp_exit ?_); (simp [go_sem]; try (refine ⟨by kernel_rfl, ?_⟩)))))
    · have cn := rminus_m (dg (ab z)) (dg (ab w)) (by omega) (by omega) (okD_dg _) (okD_dg _) (by rw [val_ab, val_ab]; omega)
      rw [val_ab, val_ab] at cn
      have hab : ab z - ab w = ab (z + w) := by rcases sg_cases z with h | h | h <;> rcases sg_cases w with h2 | h2 | h2 <;> rcases sg_cases (z + w) with h3 | h3 | h3 <;> omega
      rw [hab] at cn
      have cm := rmade_z (sg z) (z + w) (dg (ab (z + w))) (by omega) (okD_dg _) (by rw [val_ab]) (fun h => by rcases sg_cases z with h1 | h1 | h1 <;> rcases sg_cases w with h2 | h2 | h2 <;> rcases sg_cases (z + w) with h3 | h3 | h3 <;> omega)
      rw [decide_eq_false hlt] at cl
      refine means_fn false 71 [.cell 4 24, .tmp 5] Tryz.func7 rfl rfl rfl (by simp) (by decide) rfl fun X hX => ?_
      (repeat (first | refine awp_seq ?_ | refine awp_block ?_ | ((first | refine awp_runG [0, 1, 2, 3, 4, 5, 13, 29, 48] hX ?_ | refine awp_drawnG [0, 1, 2, 3, 4, 5, 13, 29, 48] hX mixed ?_ | refine awp_ret ?_ | refine awp_skip ?_ | refine awp_exit ?_); (simp [go_sem]; try (refine ⟨by kernel_rfl, ?_⟩)))))
      first | refine callK_intro (rRight_t z hz) rfl (by simp [go_sem]) rfl ?_ | refine callT_intro (rRight_t z hz) rfl (by simp [go_sem]) rfl ?_
      try (simp [go_sem]; try (refine ⟨by kernel_rfl, ?_⟩))
      first | refine callG_intro (fun hg => rRight_t w hw) rfl (by simp [go_sem]) rfl ?_ | refine callGT_intro (fun hg => rRight_t w hw) rfl (by simp [go_sem]) rfl ?_
      try (simp [go_sem]; try (refine ⟨by kernel_rfl, ?_⟩))
      refine awp_cond (b := false) (by simp [go_sem]) (fun h => by cases h) (fun _ => ?_)
      (repeat (first | refine awp_seq ?_ | refine awp_block ?_ | ((first | refine awp_runG [0, 1, 2, 3, 4, 5, 13, 29, 48] hX ?_ | refine awp_drawnG [0, 1, 2, 3, 4, 5, 13, 29, 48] hX mixed ?_ | refine awp_ret ?_ | refine awp_skip ?_ | refine awp_exit ?_); (simp [go_sem]; try (refine ⟨by kernel_rfl, ?_⟩)))))
      refine awp_cond (b := false) (by simp [go_sem, hc0, hc1, hc2]) (fun h => by cases h) (fun _ => ?_)
      (repeat (first | refine awp_seq ?_ | refine awp_block ?_ | ((first | refine awp_runG [0, 1, 2, 3, 4, 5, 13, 29, 48] hX ?_ | refine awp_drawnG [0, 1, 2, 3, 4, 5, 13, 29, 48] hX mixed ?_ | refine awp_ret ?_ | refine awp_skip ?_ | refine awp_exit ?_); (simp [go_sem]; try (refine ⟨by kernel_rfl, ?_⟩)))))
      first | refine callK_intro (cl) rfl (by simp [go_sem]) rfl ?_ | refine callT_intro (cl) rfl (by simp [go_sem]) rfl ?_
      try (simp [go_sem]; try (refine ⟨by kernel_rfl, ?_⟩))
      refine awp_cond (b := false) (by simp [go_sem]) (fun h => by cases h) (fun _ => ?_)
      (repeat (first | refine awp_seq ?_ | refine awp_block ?_ | ((first | refine awp_runG [0, 1, 2, 3, 4, 5, 13, 29, 48] hX ?_ | refine awp_drawnG [0, 1, 2, 3, 4, 5, 13, 29, 48] hX mixed ?_ | refine awp_ret ?_ | refine awp_skip ?_ | refine awp_exit ?_); (simp [go_sem]; try (refine ⟨by kernel_rfl, ?_⟩)))))
      first | refine callK_intro (cn) rfl (by simp [go_sem]) rfl ?_ | refine callT_intro (cn) rfl (by simp [go_sem]) rfl ?_
      try (simp [go_sem]; try (refine ⟨by kernel_rfl, ?_⟩))
      first | refine callK_intro (cm) rfl (by simp [go_sem]) rfl ?_ | refine callT_intro (cm) rfl (by simp [go_sem]) rfl ?_
      try (simp [go_sem]; try (refine ⟨by kernel_rfl, ?_⟩))
      first | refine callK_intro (ck) rfl (by simp [go_sem]) rfl ?_ | refine callT_intro (ck) rfl (by simp [go_sem]) rfl ?_
      try (simp [go_sem]; try (refine ⟨by kernel_rfl, ?_⟩))
      (repeat (first | refine awp_seq ?_ | refine awp_block ?_ | ((first | refine awp_runG [0, 1, 2, 3, 4, 5, 13, 29, 48] hX ?_ | refine awp_drawnG [0, 1, 2, 3, 4, 5, 13, 29, 48] hX mixed ?_ | refine awp_ret ?_ | refine awp_skip ?_ | refine awp_exit ?_); (simp [go_sem]; try (refine ⟨by kernel_rfl, ?_⟩)))))
theorem rSub_m (z w : Int) (hz : rz z) (hw : rz w) : Means false Tryz.prog 9 [bigZ z, bigZ w] (res (z - w)) := by
  have hadd := rAdd_m z (-w) hz (rz_neg hw)
  rw [← Int.sub_eq_add_neg] at hadd
  refine means_fn false 21 [.cell 4 24, .tmp 5] Tryz.func9 rfl rfl rfl (by simp) (by decide) rfl fun X hX => ?_
  (repeat (first | refine awp_seq ?_ | refine awp_block ?_ | ((first | refine awp_runG [0, 1, 2, 3, 4, 5, 6, 7, 10] hX ?_ | refine awp_drawnG [0, 1, 2, 3, 4, 5, 6, 7, 10] hX mixed ?_ | refine awp_ret ?_ | refine awp_skip ?_ | refine awp_exit ?_); (simp [go_sem]; try (refine ⟨by kernel_rfl, ?_⟩)))))
  first | refine callK_intro (rRight_t w hw) rfl (by simp [go_sem]) rfl ?_ | refine callT_intro (rRight_t w hw) rfl (by simp [go_sem]) rfl ?_
  try (simp [go_sem]; try (refine ⟨by kernel_rfl, ?_⟩))
  refine awp_cond (b := false) (by simp [go_sem]) (fun h => by cases h) (fun _ => ?_)
  (repeat (first | refine awp_seq ?_ | refine awp_block ?_ | ((first | refine awp_runG [0, 1, 2, 3, 4, 5, 6, 7, 10] hX ?_ | refine awp_drawnG [0, 1, 2, 3, 4, 5, 6, 7, 10] hX mixed ?_ | refine awp_ret ?_ | refine awp_skip ?_ | refine awp_exit ?_); (simp [go_sem]; try (refine ⟨by kernel_rfl, ?_⟩)))))
  first | refine callK_intro (rNeg_m w hw) rfl (by simp [go_sem]) rfl ?_ | refine callT_intro (rNeg_m w hw) rfl (by simp [go_sem]) rfl ?_
  try (simp [go_sem]; try (refine ⟨by kernel_rfl, ?_⟩))
  first | refine callK_intro (hadd) rfl (by simp [go_sem]) rfl ?_ | refine callT_intro (hadd) rfl (by simp [go_sem]) rfl ?_
  try (simp [go_sem]; try (refine ⟨by kernel_rfl, ?_⟩))
  try (repeat refine And.intro (by first | omega | (unfold maxLen; omega) | kernel_rfl | (refine ⟨by first | omega | (unfold maxLen; omega), by first | omega | (unfold maxLen; omega)⟩) | grind) ?_)
  (repeat (first | refine awp_seq ?_ | refine awp_block ?_ | ((first | refine awp_runG [0, 1, 2, 3, 4, 5, 6, 7, 10] hX ?_ | refine awp_drawnG [0, 1, 2, 3, 4, 5, 6, 7, 10] hX mixed ?_ | refine awp_ret ?_ | refine awp_skip ?_ | refine awp_exit ?_); (simp [go_sem]; try (refine ⟨by kernel_rfl, ?_⟩)))))
set_option maxHeartbeats 4000000 in
theorem rMul_m (z w : Int) (hz : rz z) (hw : rz w) : Means false Tryz.prog 11 [bigZ z, bigZ w] (res (z * w)) := by
  have hlz := len60 hz
  have hlw := len60 hw
  have ht := rtimes_m (dg (ab z)) (dg (ab w)) (by omega) (by omega) (okD_dg _) (okD_dg _)
  rw [val_ab, val_ab] at ht
  have eab : ab z * ab w = ab (z * w) := (ab_mul z w).symm
  rw [eab] at ht
  have hl120 : (dg (ab (z * w))).length ≤ 120 := by
    rw [dg_len_iff, ← eab]
    unfold rz at hz hw
    have e : (1048576 : Int) ^ 120 = 1048576 ^ 60 * 1048576 ^ 60 := by rw [← Int.pow_add]
    rw [e]
    have h1 := ab_nonneg z
    have h2 := ab_nonneg w
    rcases Int.lt_or_le 0 (ab w) with q | q
    · exact Int.lt_of_lt_of_le (Int.mul_lt_mul_of_pos_right hz q) (Int.mul_le_mul_of_nonneg_left (by omega) (by omega))
    · have : ab w = 0 := by omega
      rw [this, Int.mul_zero]; exact Int.mul_pos (pow_pos' 60) (pow_pos' 60)
  have hm := rmade_z (sg z * sg w) (z * w) (dg (ab (z * w))) (by omega) (okD_dg _) (by rw [val_ab]) (fun _ => (sg_mul z w).symm)
  have hws : IntKind.i64.wrap (sg z * sg w) = sg z * sg w := by
    rw [← sg_mul]
    have := sg_bd (z * w)
    exact w64 (by omega) (by omega)
  have ck := rkept_m (z * w) (by omega)
  refine means_fn false 29 [.cell 4 24, .tmp 5] Tryz.func11 rfl rfl rfl (by simp) (by decide) rfl fun X hX => ?_
  (repeat (first | refine awp_seq ?_ | refine awp_block ?_ | ((first | refine awp_runG [0, 1, 2, 3, 4, 5, 13] hX ?_ | refine awp_drawnG [0, 1, 2, 3, 4, 5, 13] hX mixed ?_ | refine awp_ret ?_ | refine awp_skip ?_ | refine awp_exit ?_); (simp [go_sem]; try (refine ⟨by kernel_rfl, ?_⟩)))))
  first | refine callK_intro (rRight_t z hz) rfl (by simp [go_sem]) rfl ?_ | refine callT_intro (rRight_t z hz) rfl (by simp [go_sem]) rfl ?_
  try (simp [go_sem]; try (refine ⟨by kernel_rfl, ?_⟩))
  first | refine callG_intro (fun hg => rRight_t w hw) rfl (by simp [go_sem]) rfl ?_ | refine callGT_intro (fun hg => rRight_t w hw) rfl (by simp [go_sem]) rfl ?_
  try (simp [go_sem]; try (refine ⟨by kernel_rfl, ?_⟩))
  refine awp_cond (b := false) (by simp [go_sem]) (fun h => by cases h) (fun _ => ?_)
  (repeat (first | refine awp_seq ?_ | refine awp_block ?_ | ((first | refine awp_runG [0, 1, 2, 3, 4, 5, 13] hX ?_ | refine awp_drawnG [0, 1, 2, 3, 4, 5, 13] hX mixed ?_ | refine awp_ret ?_ | refine awp_skip ?_ | refine awp_exit ?_); (simp [go_sem, hws]; try (refine ⟨by kernel_rfl, ?_⟩)))))
  first | refine callK_intro (ht) rfl (by simp [go_sem]) rfl ?_ | refine callT_intro (ht) rfl (by simp [go_sem]) rfl ?_
  try (simp [go_sem, hws]; try (refine ⟨by kernel_rfl, ?_⟩))
  first | refine callK_intro (hm) rfl (by simp [go_sem]) rfl ?_ | refine callT_intro (hm) rfl (by simp [go_sem]) rfl ?_
  try (simp [go_sem]; try (refine ⟨by kernel_rfl, ?_⟩))
  first | refine callK_intro (ck) rfl (by simp [go_sem]) rfl ?_ | refine callT_intro (ck) rfl (by simp [go_sem]) rfl ?_
  try (simp [go_sem]; try (refine ⟨by kernel_rfl, ?_⟩))
  (repeat (first | refine awp_seq ?_ | refine awp_block ?_ | ((first | refine awp_runG [0, 1, 2, 3, 4, 5, 13] hX ?_ | refine awp_drawnG [0, 1, 2, 3, 4, 5, 13] hX mixed ?_ | refine awp_ret ?_ | refine awp_skip ?_ | refine awp_exit ?_); (simp [go_sem]; try (refine ⟨by kernel_rfl, ?_⟩)))))

end Go.Proofs.YtlejmkmcghbdiaaGreatDoor
