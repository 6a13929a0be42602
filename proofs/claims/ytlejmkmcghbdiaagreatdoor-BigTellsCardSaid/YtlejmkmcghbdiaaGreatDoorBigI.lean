/-
  Layer 4: the operations as those of the integers.
-/
import Derived.Test.YtlejmkmcghbdiaaGreatDoorBigH
set_option linter.all false
namespace Go.Proofs.YtlejmkmcghbdiaaGreatDoor
open Go.RowKit Go.Ab
attribute [local irreducible] AWP Go.Ab.Sub Means MeansH CallK CallG CallT CallGT

theorem sg_cases (z : Int) : (sg z = -1 ∧ z < 0 ∧ ab z = -z) ∨ (sg z = 0 ∧ z = 0 ∧ ab z = 0) ∨ (sg z = 1 ∧ 0 < z ∧ ab z = z) := by
  unfold sg ab
  by_cases h : z < 0
  · rw [if_pos h, if_pos h]; exact .inl ⟨rfl, h, rfl⟩
  · by_cases h2 : 0 < z
    · rw [if_neg h, if_pos h2, if_neg h]; exact .inr (.inr ⟨rfl, h2, rfl⟩)
    · rw [if_neg h, if_neg h2, if_neg h]; exact .inr (.inl ⟨rfl, by omega, by omega⟩)
theorem sg_bd (z : Int) : -1 ≤ sg z ∧ sg z ≤ 1 := by rcases sg_cases z with h | h | h <;> omega
theorem sg_neg (z : Int) : sg (-z) = -sg z := by rcases sg_cases z with h | h | h <;> rcases sg_cases (-z) with h2 | h2 | h2 <;> omega
theorem ab_neg (z : Int) : ab (-z) = ab z := by rcases sg_cases z with h | h | h <;> rcases sg_cases (-z) with h2 | h2 | h2 <;> omega
theorem sg_of {z s t : Int} (h : z = s * t) (ht : 0 < t) (hs : s = 1 ∨ s = -1) : sg z = s ∧ ab z = t := by
  rcases hs with rfl | rfl
  · rcases sg_cases z with h2 | h2 | h2 <;> omega
  · rcases sg_cases z with h2 | h2 | h2 <;> omega
theorem ab_mul (z w : Int) : ab (z * w) = ab z * ab w := by
  rcases sg_cases z with ⟨_, hz, e1⟩ | ⟨_, rfl, e1⟩ | ⟨_, hz, e1⟩
  · rcases sg_cases w with ⟨_, hw, e2⟩ | ⟨_, rfl, e2⟩ | ⟨_, hw, e2⟩
    · have := Int.mul_pos_of_neg_of_neg hz hw
      rw [e1, e2, Int.neg_mul_neg, ab, if_neg (by omega)]
    · rw [e2, Int.mul_zero, Int.mul_zero]; rfl
    · have := Int.mul_neg_of_neg_of_pos hz hw
      rw [e1, e2, Int.neg_mul, ab, if_pos (by omega)]
  · rw [e1, Int.zero_mul, Int.zero_mul]; rfl
  · rcases sg_cases w with ⟨_, hw, e2⟩ | ⟨_, rfl, e2⟩ | ⟨_, hw, e2⟩
    · have := Int.mul_neg_of_pos_of_neg hz hw
      rw [e1, e2, Int.mul_neg, ab, if_pos (by omega)]
    · rw [e2, Int.mul_zero, Int.mul_zero]; rfl
    · have := Int.mul_pos hz hw
      rw [e1, e2, ab, if_neg (by omega)]
theorem sg_mul (z w : Int) : sg (z * w) = sg z * sg w := by
  rcases sg_cases z with ⟨e1, hz, _⟩ | ⟨e1, rfl, _⟩ | ⟨e1, hz, _⟩
  · rcases sg_cases w with ⟨e2, hw, _⟩ | ⟨e2, rfl, _⟩ | ⟨e2, hw, _⟩
    · have := Int.mul_pos_of_neg_of_neg hz hw
      rw [e1, e2, sg, if_neg (by omega), if_pos (by omega)]; rfl
    · rw [e2, Int.mul_zero, Int.mul_zero]; rfl
    · have := Int.mul_neg_of_neg_of_pos hz hw
      rw [e1, e2, sg, if_pos (by omega)]; rfl
  · rw [e1, Int.zero_mul, Int.zero_mul]; rfl
  · rcases sg_cases w with ⟨e2, hw, _⟩ | ⟨e2, rfl, _⟩ | ⟨e2, hw, _⟩
    · have := Int.mul_neg_of_pos_of_neg hz hw
      rw [e1, e2, sg, if_pos (by omega)]; rfl
    · rw [e2, Int.mul_zero, Int.mul_zero]; rfl
    · have := Int.mul_pos hz hw
      rw [e1, e2, sg, if_neg (by omega), if_pos (by omega)]; rfl
theorem val_ab (z : Int) : val (dg (ab z)) = ab z := val_dg (ab_nonneg z)
theorem dg_dg {n : Int} (h : 0 ≤ n) : dg (val (dg n)) = dg n := by rw [val_dg h]
theorem len60 {z : Int} (h : rz z) : (dg (ab z)).length ≤ 60 := (dg_len_iff 60).2 h
noncomputable def r60 (x : Int) : Int := if rz x then x else 0
noncomputable def e60 (x : Int) : Int := if rz x then 0 else 6
noncomputable abbrev res (x : Int) : AV := .tup [bigZ (r60 x), ii (e60 x)]
theorem r60_of {x : Int} (h : rz x) : r60 x = x := if_pos h
theorem e60_of {x : Int} (h : rz x) : e60 x = 0 := if_pos h
theorem check_m (z : Int) (hl : (dg (ab z)).length ≤ 100000) : Means false Tryz.prog 33 [bb true, bigZ z] (res z) := checked_m z hl
theorem right_t (z : Int) (h : rz z) : Means false Tryz.prog 21 [bigZ z] (bb true) := by
  have := right_m (sg z) (dg (ab z)) (by have := len60 h; omega)
  have e : decide (isR (sg z) (dg (ab z))) = true := decide_eq_true (isR_of h)
  rwa [e] at this
theorem dg_len_mul {a b : Int} {m n : Nat} (ha : 0 ≤ a) (hb : 0 ≤ b) (h1 : (dg a).length ≤ m) (h2 : (dg b).length ≤ n) : (dg (a * b)).length ≤ m + n := by
  rw [dg_len_iff] at h1 h2 ⊢
  rw [Int.pow_add]
  by_cases h0 : b = 0
  · subst h0
    rw [Int.mul_zero]
    exact Int.mul_pos (pow_pos' m) (pow_pos' n)
  · exact Int.mul_lt_mul h1 (by omega) (by omega) (by have := pow_pos' m; omega)

set_option maxHeartbeats 4000000 in
set_option maxRecDepth 20000 in
theorem Mul_m (z w : Int) (hz : rz z) (hw : rz w) : Means false Tryz.prog 10 [bigZ z, bigZ w] (res (z * w)) := by
  have hlz := len60 hz
  have hlw := len60 hw
  have hs := sg_mul z w
  have hb := sg_bd (z * w)
  have hww := w64 (x := sg z * sg w) (by omega) (by omega)
  have hmul := mul_m (dg (ab z)) (dg (ab w)) (okD_dg _) (okD_dg _) (by omega) (by omega)
  rw [val_ab, val_ab] at hmul
  have hll := dg_len_mul (ab_nonneg z) (ab_nonneg w) hlz hlw
  have hp : 0 ≤ ab z * ab w := Int.mul_nonneg (ab_nonneg z) (ab_nonneg w)
  have hsgn := signed_m (sg z * sg w) (dg (ab z * ab w)) (z * w) (by omega) (okD_dg _) (by rw [val_dg hp, ab_mul]) (fun _ => hs)
  have hch := check_m (z * w) (by rw [ab_mul]; omega)
  refine means_fn false 32 [.cell 4 24, .tmp 5] Tryz.func10 rfl rfl rfl (by simp) (by decide) rfl fun X hX => ?_
  (repeat (first | refine awp_seq ?_ | refine awp_block ?_ | ((first | refine awp_runG [0, 1, 2, 3, 4, 5, 13] hX ?_ | refine awp_drawnG [0, 1, 2, 3, 4, 5, 13] hX mixed ?_ | refine awp_ret ?_ | refine awp_skip ?_ | refine awp_exit ?_); (simp [go_sem]; try (refine ⟨by kernel_rfl, ?_⟩)))))
  first | refine callK_intro (right_t z hz) rfl (by simp [go_sem]) rfl ?_ | refine callT_intro (right_t z hz) rfl (by simp [go_sem]) rfl ?_
  try (simp [go_sem]; try (refine ⟨by kernel_rfl, ?_⟩))
  first | refine callG_intro (fun hg => right_t w hw) rfl (by simp [go_sem]) rfl ?_ | refine callGT_intro (fun hg => right_t w hw) rfl (by simp [go_sem]) rfl ?_
  try (simp [go_sem]; try (refine ⟨by kernel_rfl, ?_⟩))
  refine awp_cond (b := false) (by simp [go_sem]) (fun h => by cases h) (fun _ => ?_)
  (repeat (first | refine awp_seq ?_ | refine awp_block ?_ | ((first | refine awp_runG [0, 1, 2, 3, 4, 5, 13] hX ?_ | refine awp_drawnG [0, 1, 2, 3, 4, 5, 13] hX mixed ?_ | refine awp_ret ?_ | refine awp_skip ?_ | refine awp_exit ?_); (simp [go_sem, hww]; (try simp (disch := omega) only [w64, td, tm]); try (refine ⟨by kernel_rfl, ?_⟩)))))
  first | refine callK_intro (hmul) rfl (by simp [go_sem]) rfl ?_ | refine callT_intro (hmul) rfl (by simp [go_sem]) rfl ?_
  try (simp [go_sem]; try (refine ⟨by kernel_rfl, ?_⟩))
  first | refine callK_intro (hsgn) rfl (by simp [go_sem]) rfl ?_ | refine callT_intro (hsgn) rfl (by simp [go_sem]) rfl ?_
  try (simp [go_sem]; try (refine ⟨by kernel_rfl, ?_⟩))
  first | refine callK_intro (hch) rfl (by simp [go_sem]) rfl ?_ | refine callT_intro (hch) rfl (by simp [go_sem]) rfl ?_
  try (simp [go_sem]; try (refine ⟨by kernel_rfl, ?_⟩))
  (repeat refine And.intro (by first | omega | (unfold maxLen; omega) | kernel_rfl | (refine ⟨by first | omega | (unfold maxLen; omega), by first | omega | (unfold maxLen; omega)⟩) | grind) ?_)
  (repeat (first | refine awp_seq ?_ | refine awp_block ?_ | ((first | refine awp_runG [0, 1, 2, 3, 4, 5, 13] hX ?_ | refine awp_drawnG [0, 1, 2, 3, 4, 5, 13] hX mixed ?_ | refine awp_ret ?_ | refine awp_skip ?_ | refine awp_exit ?_); (simp [go_sem]; try (refine ⟨by kernel_rfl, ?_⟩)))))

theorem Neg_m (z : Int) (hz : rz z) : Means false Tryz.prog 28 [bigZ z] (bigZ (-z)) := by
  have hlz := len60 hz
  have hb := sg_bd z
  have hww := w64 (x := - sg z) (by omega) (by omega)
  have hcl := clone_m (dg (ab z)) (by omega)
  have hsgn := signed_m (- sg z) (dg (ab z)) (-z) (by omega) (okD_dg _) (by rw [val_ab, ab_neg]) (fun _ => sg_neg z)
  refine means_fn false 14 [.cell 2 24] Tryz.func28 rfl rfl rfl (by simp) (by decide) rfl fun X hX => ?_
  (repeat (first | refine awp_seq ?_ | refine awp_block ?_ | ((first | refine awp_runG [0, 1, 2, 5] hX ?_ | refine awp_drawnG [0, 1, 2, 5] hX mixed ?_ | refine awp_ret ?_ | refine awp_skip ?_ | refine awp_exit ?_); (simp [go_sem]; try (refine ⟨by kernel_rfl, ?_⟩)))))
  first | refine callK_intro (right_t z hz) rfl (by simp [go_sem]) rfl ?_ | refine callT_intro (right_t z hz) rfl (by simp [go_sem]) rfl ?_
  try (simp [go_sem]; try (refine ⟨by kernel_rfl, ?_⟩))
  refine awp_cond (b := false) (by simp [go_sem]) (fun h => by cases h) (fun _ => ?_)
  (repeat (first | refine awp_seq ?_ | refine awp_block ?_ | ((first | refine awp_runG [0, 1, 2, 5] hX ?_ | refine awp_drawnG [0, 1, 2, 5] hX mixed ?_ | refine awp_ret ?_ | refine awp_skip ?_ | refine awp_exit ?_); (simp [go_sem, hww]; (try simp (disch := omega) only [w64, td, tm]); try (refine ⟨by kernel_rfl, ?_⟩)))))
  first | refine callK_intro (hcl) rfl (by simp [go_sem]) rfl ?_ | refine callT_intro (hcl) rfl (by simp [go_sem]) rfl ?_
  try (simp [go_sem]; try (refine ⟨by kernel_rfl, ?_⟩))
  first | refine callK_intro (hsgn) rfl (by simp [go_sem]) rfl ?_ | refine callT_intro (hsgn) rfl (by simp [go_sem]) rfl ?_
  try (simp [go_sem]; try (refine ⟨by kernel_rfl, ?_⟩))
  (repeat refine And.intro (by first | omega | (unfold maxLen; omega) | kernel_rfl | (refine ⟨by first | omega | (unfold maxLen; omega), by first | omega | (unfold maxLen; omega)⟩) | grind) ?_)
  (repeat (first | refine awp_seq ?_ | refine awp_block ?_ | ((first | refine awp_runG [0, 1, 2, 5] hX ?_ | refine awp_drawnG [0, 1, 2, 5] hX mixed ?_ | refine awp_ret ?_ | refine awp_skip ?_ | refine awp_exit ?_); (simp [go_sem]; try (refine ⟨by kernel_rfl, ?_⟩)))))

theorem Compare_m (z w : Int) (hz : rz z) (hw : rz w) : Means false Tryz.prog 23 [bigZ z, bigZ w] (ii (cmpI z w)) := by
  have hlz := len60 hz
  have hlw := len60 hw
  have hcm := compare_m (dg (ab z)) (dg (ab w)) (by omega) (by omega) (okD_dg _) (okD_dg _) (dg_dg (ab_nonneg z)) (dg_dg (ab_nonneg w))
  rw [val_ab, val_ab] at hcm
  have hcc : -1 ≤ cmpI (ab z) (ab w) ∧ cmpI (ab z) (ab w) ≤ 1 := by unfold cmpI; split <;> (try split) <;> omega
  refine means_fn false 31 [.tmp 4] Tryz.func23 rfl rfl rfl (by simp) (by decide) rfl fun X hX => ?_
  (repeat (first | refine awp_seq ?_ | refine awp_block ?_ | ((first | refine awp_runG [0, 1, 2, 3, 4, 12, 17] hX ?_ | refine awp_drawnG [0, 1, 2, 3, 4, 12, 17] hX mixed ?_ | refine awp_ret ?_ | refine awp_skip ?_ | refine awp_exit ?_); (simp [go_sem]; try (refine ⟨by kernel_rfl, ?_⟩)))))
  first | refine callK_intro (right_t z hz) rfl (by simp [go_sem]) rfl ?_ | refine callT_intro (right_t z hz) rfl (by simp [go_sem]) rfl ?_
  try (simp [go_sem]; try (refine ⟨by kernel_rfl, ?_⟩))
  first | refine callG_intro (fun hg => right_t w hw) rfl (by simp [go_sem]) rfl ?_ | refine callGT_intro (fun hg => right_t w hw) rfl (by simp [go_sem]) rfl ?_
  try (simp [go_sem]; try (refine ⟨by kernel_rfl, ?_⟩))
  refine awp_cond (b := false) (by simp [go_sem]) (fun h => by cases h) (fun _ => ?_)
  (repeat (first | refine awp_seq ?_ | refine awp_block ?_ | ((first | refine awp_runG [0, 1, 2, 3, 4, 12, 17] hX ?_ | refine awp_drawnG [0, 1, 2, 3, 4, 12, 17] hX mixed ?_ | refine awp_ret ?_ | refine awp_skip ?_ | refine awp_exit ?_); (simp [go_sem]; (try simp (disch := omega) only [w64, td, tm]); try (refine ⟨by kernel_rfl, ?_⟩)))))
  refine awp_cond (b := decide (sg z ≠ sg w)) (by simp [go_sem]; try omega) (fun hd => ?_) (fun hd => ?_)
  · simp only [decide_eq_true_eq] at hd
    have e : cmpI (sg z) (sg w) = cmpI z w := by
      refine cmpI_eq ?_ ?_ <;> rcases sg_cases z with h | h | h <;> rcases sg_cases w with h2 | h2 | h2 <;> omega
    (repeat (first | refine awp_seq ?_ | refine awp_block ?_ | ((first | refine awp_runG [0, 1, 2, 3, 4, 12, 17] hX ?_ | refine awp_drawnG [0, 1, 2, 3, 4, 12, 17] hX mixed ?_ | refine awp_ret ?_ | refine awp_skip ?_ | refine awp_exit ?_); (simp [go_sem]; try (refine ⟨by kernel_rfl, ?_⟩)))))
    first | refine callK_intro (cmp_m (sg z) (sg w)) rfl (by simp [go_sem]) rfl ?_ | refine callT_intro (cmp_m (sg z) (sg w)) rfl (by simp [go_sem]) rfl ?_
    try (simp [go_sem]; try (refine ⟨by kernel_rfl, ?_⟩))
    (repeat (first | refine awp_seq ?_ | refine awp_block ?_ | ((first | refine awp_runG [0, 1, 2, 3, 4, 12, 17] hX ?_ | refine awp_drawnG [0, 1, 2, 3, 4, 12, 17] hX mixed ?_ | refine awp_ret ?_ | refine awp_skip ?_ | refine awp_exit ?_); (simp [go_sem, e]; try (refine ⟨by kernel_rfl, ?_⟩)))))
  · simp at hd
    have e : sg w * cmpI (ab z) (ab w) = cmpI z w := by
      rcases sg_cases w with ⟨h1, h2, h3⟩ | ⟨h1, h2, h3⟩ | ⟨h1, h2, h3⟩ <;> rcases sg_cases z with ⟨h4, h5, h6⟩ | ⟨h4, h5, h6⟩ | ⟨h4, h5, h6⟩ <;> first | omega | (rw [h1, h3, h6]; unfold cmpI; split <;> (try split) <;> (try split) <;> omega) | skip
    have hew := w64 (x := cmpI z w) (by unfold cmpI; split <;> (try split) <;> omega) (by unfold cmpI; split <;> (try split) <;> omega)
    (repeat (first | refine awp_seq ?_ | refine awp_block ?_ | ((first | refine awp_runG [0, 1, 2, 3, 4, 12, 17] hX ?_ | refine awp_drawnG [0, 1, 2, 3, 4, 12, 17] hX mixed ?_ | refine awp_ret ?_ | refine awp_skip ?_ | refine awp_exit ?_); (simp [go_sem, hd]; (try simp (disch := omega) only [w64, td, tm]); try (refine ⟨by kernel_rfl, ?_⟩)))))
    first | refine callK_intro (hcm) rfl (by simp [go_sem]) rfl ?_ | refine callT_intro (hcm) rfl (by simp [go_sem]) rfl ?_
    try (simp [go_sem, hd, hew, e]; try (refine ⟨by kernel_rfl, ?_⟩))
    (repeat refine And.intro (by first | omega | (unfold maxLen; omega) | kernel_rfl | (refine ⟨by first | omega | (unfold maxLen; omega), by first | omega | (unfold maxLen; omega)⟩) | grind) ?_)
    (repeat (first | refine awp_seq ?_ | refine awp_block ?_ | ((first | refine awp_runG [0, 1, 2, 3, 4, 12, 17] hX ?_ | refine awp_drawnG [0, 1, 2, 3, 4, 12, 17] hX mixed ?_ | refine awp_ret ?_ | refine awp_skip ?_ | refine awp_exit ?_); (simp [go_sem]; try (refine ⟨by kernel_rfl, ?_⟩)))))

theorem or_m (a b : Int) : Means false Tryz.prog 35 [.sl [ii a, ii b]] (ii (if a = 0 then b else a)) := by
  refine means_fn false 18 [.tmp 2] Tryz.func35 rfl rfl rfl (by simp) (by decide) rfl fun X hX => ?_
  (repeat (first | refine awp_seq ?_ | refine awp_block ?_ | ((first | refine awp_runG [0, 2, 3, 5, 6, 7, 8, 9, 14] hX ?_ | refine awp_drawnG [0, 2, 3, 5, 6, 7, 8, 9, 14] hX mixed ?_ | refine awp_ret ?_ | refine awp_skip ?_ | refine awp_exit ?_); (simp [go_sem]; try (refine ⟨by kernel_rfl, ?_⟩)))))
  refine awp_loop (fun n : Nat => ⟨mkE [(3, ii 0), (6, .sl [ii a, ii b]), (7, ii 2), (8, ii n)], []⟩) (fun n => n ≤ 2 ∧ (1 ≤ n → a = 0) ∧ (2 ≤ n → b = 0)) (fun n => 2 - n) 0 ?_ ?_ ?_
  · refine sub_of _ [] (by simp [go_sem]) ?_
    simp [go_sem]
  · simp
  · rintro n ⟨hn, ha, hb⟩
    match n, hn with
    | 0, _ =>
      (repeat (first | refine awp_seq ?_ | refine awp_block ?_ | ((first | refine awp_runG [0, 2, 3, 5, 6, 7, 8, 9, 14] hX ?_ | refine awp_drawnG [0, 2, 3, 5, 6, 7, 8, 9, 14] hX mixed ?_ | refine awp_ret ?_ | refine awp_skip ?_ | refine awp_exit ?_); (simp [go_sem]; try (refine ⟨by kernel_rfl, ?_⟩)))))
      refine awp_cond (b := true) (by simp [go_sem]) (fun _ => ?_) (fun h => by cases h)
      (repeat (first | refine awp_seq ?_ | refine awp_block ?_ | ((first | refine awp_runG [0, 2, 3, 5, 6, 7, 8, 9, 14] hX ?_ | refine awp_drawnG [0, 2, 3, 5, 6, 7, 8, 9, 14] hX mixed ?_ | refine awp_ret ?_ | refine awp_skip ?_ | refine awp_exit ?_); (simp [go_sem]; (try simp (disch := omega) only [w64, td, tm]); try (refine ⟨by kernel_rfl, ?_⟩)))))
      refine awp_cond (b := decide (a ≠ 0)) (by simp [go_sem]) (fun h => ?_) (fun h => ?_)
      · simp at h
        (repeat (first | refine awp_seq ?_ | refine awp_block ?_ | ((first | refine awp_runG [0, 2, 3, 5, 6, 7, 8, 9, 14] hX ?_ | refine awp_drawnG [0, 2, 3, 5, 6, 7, 8, 9, 14] hX mixed ?_ | refine awp_ret ?_ | refine awp_skip ?_ | refine awp_exit ?_); (simp [go_sem, h]; try (refine ⟨by kernel_rfl, ?_⟩)))))
      · simp at h
        (repeat (first | refine awp_seq ?_ | refine awp_block ?_ | ((first | refine awp_runG [0, 2, 3, 5, 6, 7, 8, 9, 14] hX ?_ | refine awp_drawnG [0, 2, 3, 5, 6, 7, 8, 9, 14] hX mixed ?_ | refine awp_ret ?_ | refine awp_skip ?_ | refine awp_exit ?_); (simp [go_sem]; (try simp (disch := omega) only [w64, td, tm]); try (refine ⟨by kernel_rfl, ?_⟩)))))
        refine ⟨1, ⟨by omega, fun _ => h, fun h => by omega⟩, by omega, ?_⟩
        refine sub_of _ [] (by simp [go_sem]) ?_
        simp [go_sem]
    | 1, _ =>
      have ha0 := ha (by omega)
      (repeat (first | refine awp_seq ?_ | refine awp_block ?_ | ((first | refine awp_runG [0, 2, 3, 5, 6, 7, 8, 9, 14] hX ?_ | refine awp_drawnG [0, 2, 3, 5, 6, 7, 8, 9, 14] hX mixed ?_ | refine awp_ret ?_ | refine awp_skip ?_ | refine awp_exit ?_); (simp [go_sem]; try (refine ⟨by kernel_rfl, ?_⟩)))))
      refine awp_cond (b := true) (by simp [go_sem]) (fun _ => ?_) (fun h => by cases h)
      (repeat (first | refine awp_seq ?_ | refine awp_block ?_ | ((first | refine awp_runG [0, 2, 3, 5, 6, 7, 8, 9, 14] hX ?_ | refine awp_drawnG [0, 2, 3, 5, 6, 7, 8, 9, 14] hX mixed ?_ | refine awp_ret ?_ | refine awp_skip ?_ | refine awp_exit ?_); (simp [go_sem]; (try simp (disch := omega) only [w64, td, tm]); try (refine ⟨by kernel_rfl, ?_⟩)))))
      refine awp_cond (b := decide (b ≠ 0)) (by simp [go_sem]) (fun h => ?_) (fun h => ?_)
      · simp at h
        (repeat (first | refine awp_seq ?_ | refine awp_block ?_ | ((first | refine awp_runG [0, 2, 3, 5, 6, 7, 8, 9, 14] hX ?_ | refine awp_drawnG [0, 2, 3, 5, 6, 7, 8, 9, 14] hX mixed ?_ | refine awp_ret ?_ | refine awp_skip ?_ | refine awp_exit ?_); (simp [go_sem, ha0]; try (refine ⟨by kernel_rfl, ?_⟩)))))
      · simp at h
        (repeat (first | refine awp_seq ?_ | refine awp_block ?_ | ((first | refine awp_runG [0, 2, 3, 5, 6, 7, 8, 9, 14] hX ?_ | refine awp_drawnG [0, 2, 3, 5, 6, 7, 8, 9, 14] hX mixed ?_ | refine awp_ret ?_ | refine awp_skip ?_ | refine awp_exit ?_); (simp [go_sem]; (try simp (disch := omega) only [w64, td, tm]); try (refine ⟨by kernel_rfl, ?_⟩)))))
        refine ⟨2, ⟨by omega, fun _ => ha0, fun _ => h⟩, by omega, ?_⟩
        refine sub_of _ [] (by simp [go_sem]) ?_
        simp [go_sem]
    | 2, _ =>
      have ha0 := ha (by omega)
      have hb0 := hb (by omega)
      (repeat (first | refine awp_seq ?_ | refine awp_block ?_ | ((first | refine awp_runG [0, 2, 3, 5, 6, 7, 8, 9, 14] hX ?_ | refine awp_drawnG [0, 2, 3, 5, 6, 7, 8, 9, 14] hX mixed ?_ | refine awp_ret ?_ | refine awp_skip ?_ | refine awp_exit ?_); (simp [go_sem]; try (refine ⟨by kernel_rfl, ?_⟩)))))
      refine awp_cond (b := false) (by simp [go_sem]) (fun h => by cases h) (fun _ => ?_)
      (repeat (first | refine awp_seq ?_ | refine awp_block ?_ | ((first | refine awp_runG [0, 2, 3, 5, 6, 7, 8, 9, 14] hX ?_ | refine awp_drawnG [0, 2, 3, 5, 6, 7, 8, 9, 14] hX mixed ?_ | refine awp_ret ?_ | refine awp_skip ?_ | refine awp_exit ?_); (simp [go_sem, ha0, hb0]; try (refine ⟨by kernel_rfl, ?_⟩)))))

set_option maxHeartbeats 4000000 in
set_option maxRecDepth 20000 in
theorem Add_m (z w : Int) (hz : rz z) (hw : rz w) : Means false Tryz.prog 6 [bigZ z, bigZ w] (res (z + w)) := by
  have hlz := len60 hz
  have hlw := len60 hw
  have hsz := sg_bd z
  have hsw := sg_bd w
  have hza := ab_nonneg z
  have hwa := ab_nonneg w
  have hmm : -1 ≤ sg z * sg w ∧ sg z * sg w ≤ 1 := by rw [← sg_mul]; exact sg_bd _
  have hww := w64 (x := sg z * sg w) (by omega) (by omega)
  have hsum : ab (z + w) ≤ ab z + ab w := by rcases sg_cases z with h | h | h <;> rcases sg_cases w with h2 | h2 | h2 <;> rcases sg_cases (z + w) with h3 | h3 | h3 <;> omega
  have hl61 : (dg (ab z + ab w)).length ≤ 61 := by
    rw [dg_len_iff]
    unfold rz at hz hw
    have : (1048576 : Int) ^ 61 = 1048576 ^ 60 * 1048576 := Int.pow_succ _ _
    omega
  have hl61' : (dg (ab (z + w))).length ≤ 61 := Nat.le_trans (dg_len_mono hsum) hl61
  have hch := check_m (z + w) (by omega)
  have hcm := compare_m (dg (ab z)) (dg (ab w)) (by omega) (by omega) (okD_dg _) (okD_dg _) (dg_dg hza) (dg_dg hwa)
  rw [val_ab, val_ab] at hcm
  refine means_fn false 69 [.cell 4 24, .tmp 5] Tryz.func6 rfl rfl rfl (by simp) (by decide) rfl fun X hX => ?_
  (repeat (first | refine awp_seq ?_ | refine awp_block ?_ | ((first | refine awp_runG [0, 1, 2, 3, 4, 5, 13, 18, 40] hX ?_ | refine awp_drawnG [0, 1, 2, 3, 4, 5, 13, 18, 40] hX mixed ?_ | refine awp_ret ?_ | refine awp_skip ?_ | refine awp_exit ?_); (simp [go_sem]; try (refine ⟨by kernel_rfl, ?_⟩)))))
  first | refine callK_intro (right_t z hz) rfl (by simp [go_sem]) rfl ?_ | refine callT_intro (right_t z hz) rfl (by simp [go_sem]) rfl ?_
  try (simp [go_sem]; try (refine ⟨by kernel_rfl, ?_⟩))
  first | refine callG_intro (fun hg => right_t w hw) rfl (by simp [go_sem]) rfl ?_ | refine callGT_intro (fun hg => right_t w hw) rfl (by simp [go_sem]) rfl ?_
  try (simp [go_sem]; try (refine ⟨by kernel_rfl, ?_⟩))
  refine awp_cond (b := false) (by simp [go_sem]) (fun h => by cases h) (fun _ => ?_)
  (repeat (first | refine awp_seq ?_ | refine awp_block ?_ | ((first | refine awp_runG [0, 1, 2, 3, 4, 5, 13, 18, 40] hX ?_ | refine awp_drawnG [0, 1, 2, 3, 4, 5, 13, 18, 40] hX mixed ?_ | refine awp_ret ?_ | refine awp_skip ?_ | refine awp_exit ?_); (simp [go_sem, hww]; (try simp (disch := omega) only [w64, td, tm]); try (refine ⟨by kernel_rfl, ?_⟩)))))
  refine awp_cond (b := decide (0 ≤ sg z * sg w)) (by simp [go_sem]) (fun hd => ?_) (fun hd => ?_)
  · simp at hd
    have hab : ab (z + w) = ab z + ab w := by
      rcases sg_cases z with ⟨h, h1, h2⟩ | ⟨h, h1, h2⟩ | ⟨h, h1, h2⟩ <;> rcases sg_cases w with ⟨h3, h4, h5⟩ | ⟨h3, h4, h5⟩ | ⟨h3, h4, h5⟩ <;> rw [h, h3] at hd <;> rcases sg_cases (z + w) with h6 | h6 | h6 <;> omega
    have hsg : ab z + ab w ≠ 0 → sg (z + w) = (if sg z = 0 then sg w else sg z) := by
      intro _
      rcases sg_cases z with ⟨h, h1, h2⟩ | ⟨h, h1, h2⟩ | ⟨h, h1, h2⟩ <;> rcases sg_cases w with ⟨h3, h4, h5⟩ | ⟨h3, h4, h5⟩ | ⟨h3, h4, h5⟩ <;> rw [h, h3] at hd ⊢ <;> rcases sg_cases (z + w) with h6 | h6 | h6 <;> simp <;> omega
    have hadd := add_m (dg (ab z)) (dg (ab w)) (okD_dg _) (okD_dg _) (by omega) (by omega)
    rw [val_ab, val_ab] at hadd
    have hvv : val (dg (ab z + ab w)) = ab z + ab w := val_dg (by omega)
    have hsgn := signed_m (if sg z = 0 then sg w else sg z) (dg (ab z + ab w)) (z + w) (by omega) (okD_dg _) (by rw [hvv, hab]) (by rw [hvv]; exact hsg)
    (repeat (first | refine awp_seq ?_ | refine awp_block ?_ | ((first | refine awp_runG [0, 1, 2, 3, 4, 5, 13, 18, 40] hX ?_ | refine awp_drawnG [0, 1, 2, 3, 4, 5, 13, 18, 40] hX mixed ?_ | refine awp_ret ?_ | refine awp_skip ?_ | refine awp_exit ?_); (simp [go_sem]; (try simp (disch := omega) only [w64, td, tm]); try (refine ⟨by kernel_rfl, ?_⟩)))))
    first | refine callK_intro (or_m (sg z) (sg w)) rfl (by simp [go_sem]) rfl ?_ | refine callT_intro (or_m (sg z) (sg w)) rfl (by simp [go_sem]) rfl ?_
    try (simp [go_sem]; try (refine ⟨by kernel_rfl, ?_⟩))
    first | refine callK_intro (hadd) rfl (by simp [go_sem]) rfl ?_ | refine callT_intro (hadd) rfl (by simp [go_sem]) rfl ?_
    try (simp [go_sem]; try (refine ⟨by kernel_rfl, ?_⟩))
    first | refine callK_intro (hsgn) rfl (by simp [go_sem]) rfl ?_ | refine callT_intro (hsgn) rfl (by simp [go_sem]) rfl ?_
    try (simp [go_sem]; try (refine ⟨by kernel_rfl, ?_⟩))
    first | refine callK_intro (hch) rfl (by simp [go_sem]) rfl ?_ | refine callT_intro (hch) rfl (by simp [go_sem]) rfl ?_
    try (simp [go_sem]; try (refine ⟨by kernel_rfl, ?_⟩))
    (repeat refine And.intro (by first | omega | (unfold maxLen; omega) | kernel_rfl | (refine ⟨by first | omega | (unfold maxLen; omega), by first | omega | (unfold maxLen; omega)⟩) | grind) ?_)
    (repeat (first | refine awp_seq ?_ | refine awp_block ?_ | ((first | refine awp_runG [0, 1, 2, 3, 4, 5, 13, 18, 40] hX ?_ | refine awp_drawnG [0, 1, 2, 3, 4, 5, 13, 18, 40] hX mixed ?_ | refine awp_ret ?_ | refine awp_skip ?_ | refine awp_exit ?_); (simp [go_sem]; try (refine ⟨by kernel_rfl, ?_⟩)))))
  · simp at hd
    have hcl : cmpI (ab z) (ab w) < 0 ↔ ab z < ab w := cmpI_lt
    (repeat (first | refine awp_seq ?_ | refine awp_block ?_ | ((first | refine awp_runG [0, 1, 2, 3, 4, 5, 13, 18, 40] hX ?_ | refine awp_drawnG [0, 1, 2, 3, 4, 5, 13, 18, 40] hX mixed ?_ | refine awp_ret ?_ | refine awp_skip ?_ | refine awp_exit ?_); (simp [go_sem]; (try simp (disch := omega) only [w64, td, tm]); try (refine ⟨by kernel_rfl, ?_⟩)))))
    first | refine callK_intro (hcm) rfl (by simp [go_sem]) rfl ?_ | refine callT_intro (hcm) rfl (by simp [go_sem]) rfl ?_
    try (simp [go_sem]; try (refine ⟨by kernel_rfl, ?_⟩))
    (repeat (first | refine awp_seq ?_ | refine awp_block ?_ | ((first | refine awp_runG [0, 1, 2, 3, 4, 5, 13, 18, 40] hX ?_ | refine awp_drawnG [0, 1, 2, 3, 4, 5, 13, 18, 40] hX mixed ?_ | refine awp_ret ?_ | refine awp_skip ?_ | refine awp_exit ?_); (simp [go_sem]; (try simp (disch := omega) only [w64, td, tm]); try (refine ⟨by kernel_rfl, ?_⟩)))))
    refine awp_cond (b := decide (ab z < ab w)) (by simp [go_sem, cmpI_lt]) (fun hd2 => ?_) (fun hd2 => ?_)
    · simp at hd2
      have hsub := sub_m (dg (ab w)) (dg (ab z)) (okD_dg _) (okD_dg _) (by omega) (by omega) (by rw [val_ab, val_ab]; omega)
      rw [val_ab, val_ab] at hsub
      have hvv : val (dg (ab w - ab z)) = ab w - ab z := val_dg (by omega)
      have hfin : ab (z + w) = ab w - ab z ∧ sg (z + w) = sg w := by
        rcases sg_cases z with ⟨h, h1, h2⟩ | ⟨h, h1, h2⟩ | ⟨h, h1, h2⟩ <;> rcases sg_cases w with ⟨h3, h4, h5⟩ | ⟨h3, h4, h5⟩ | ⟨h3, h4, h5⟩ <;> rw [h, h3] at hd <;> rcases sg_cases (z + w) with h6 | h6 | h6 <;> omega
      have hsgn := signed_m (sg w) (dg (ab w - ab z)) (z + w) (by have := dg_len_mono (show ab w - ab z ≤ ab z + ab w by omega); omega) (okD_dg _) (by rw [hvv, hfin.1]) (fun _ => hfin.2)
      (repeat (first | refine awp_seq ?_ | refine awp_block ?_ | ((first | refine awp_runG [0, 1, 2, 3, 4, 5, 13, 18, 40] hX ?_ | refine awp_drawnG [0, 1, 2, 3, 4, 5, 13, 18, 40] hX mixed ?_ | refine awp_ret ?_ | refine awp_skip ?_ | refine awp_exit ?_); (simp [go_sem]; (try simp (disch := omega) only [w64, td, tm]); try (refine ⟨by kernel_rfl, ?_⟩)))))
      first | refine callK_intro (hsub) rfl (by simp [go_sem]) rfl ?_ | refine callT_intro (hsub) rfl (by simp [go_sem]) rfl ?_
      try (simp [go_sem]; try (refine ⟨by kernel_rfl, ?_⟩))
      first | refine callK_intro (hsgn) rfl (by simp [go_sem]) rfl ?_ | refine callT_intro (hsgn) rfl (by simp [go_sem]) rfl ?_
      try (simp [go_sem]; try (refine ⟨by kernel_rfl, ?_⟩))
      first | refine callK_intro (hch) rfl (by simp [go_sem]) rfl ?_ | refine callT_intro (hch) rfl (by simp [go_sem]) rfl ?_
      try (simp [go_sem]; try (refine ⟨by kernel_rfl, ?_⟩))
      (repeat refine And.intro (by first | omega | (unfold maxLen; omega) | kernel_rfl | (refine ⟨by first | omega | (unfold maxLen; omega), by first | omega | (unfold maxLen; omega)⟩) | grind) ?_)
      (repeat (first | refine awp_seq ?_ | refine awp_block ?_ | ((first | refine awp_runG [0, 1, 2, 3, 4, 5, 13, 18, 40] hX ?_ | refine awp_drawnG [0, 1, 2, 3, 4, 5, 13, 18, 40] hX mixed ?_ | refine awp_ret ?_ | refine awp_skip ?_ | refine awp_exit ?_); (simp [go_sem]; try (refine ⟨by kernel_rfl, ?_⟩)))))
    · simp at hd2
      have hsub := sub_m (dg (ab z)) (dg (ab w)) (okD_dg _) (okD_dg _) (by omega) (by omega) (by rw [val_ab, val_ab]; omega)
      rw [val_ab, val_ab] at hsub
      have hvv : val (dg (ab z - ab w)) = ab z - ab w := val_dg (by omega)
      have hfin : ab (z + w) = ab z - ab w ∧ (ab z - ab w ≠ 0 → sg (z + w) = sg z) := by
        rcases sg_cases z with ⟨h, h1, h2⟩ | ⟨h, h1, h2⟩ | ⟨h, h1, h2⟩ <;> rcases sg_cases w with ⟨h3, h4, h5⟩ | ⟨h3, h4, h5⟩ | ⟨h3, h4, h5⟩ <;> rw [h, h3] at hd <;> rcases sg_cases (z + w) with h6 | h6 | h6 <;> omega
      have hsgn := signed_m (sg z) (dg (ab z - ab w)) (z + w) (by have := dg_len_mono (show ab z - ab w ≤ ab z + ab w by omega); omega) (okD_dg _) (by rw [hvv, hfin.1]) (by rw [hvv]; exact hfin.2)
      (repeat (first | refine awp_seq ?_ | refine awp_block ?_ | ((first | refine awp_runG [0, 1, 2, 3, 4, 5, 13, 18, 40] hX ?_ | refine awp_drawnG [0, 1, 2, 3, 4, 5, 13, 18, 40] hX mixed ?_ | refine awp_ret ?_ | refine awp_skip ?_ | refine awp_exit ?_); (simp [go_sem]; (try simp (disch := omega) only [w64, td, tm]); try (refine ⟨by kernel_rfl, ?_⟩)))))
      first | refine callK_intro (hsub) rfl (by simp [go_sem]) rfl ?_ | refine callT_intro (hsub) rfl (by simp [go_sem]) rfl ?_
      try (simp [go_sem]; try (refine ⟨by kernel_rfl, ?_⟩))
      first | refine callK_intro (hsgn) rfl (by simp [go_sem]) rfl ?_ | refine callT_intro (hsgn) rfl (by simp [go_sem]) rfl ?_
      try (simp [go_sem]; try (refine ⟨by kernel_rfl, ?_⟩))
      first | refine callK_intro (hch) rfl (by simp [go_sem]) rfl ?_ | refine callT_intro (hch) rfl (by simp [go_sem]) rfl ?_
      try (simp [go_sem]; try (refine ⟨by kernel_rfl, ?_⟩))
      (repeat refine And.intro (by first | omega | (unfold maxLen; omega) | kernel_rfl | (refine ⟨by first | omega | (unfold maxLen; omega), by first | omega | (unfold maxLen; omega)⟩) | grind) ?_)
      (repeat (first | refine awp_seq ?_ | refine awp_block ?_ | ((first | refine awp_runG [0, 1, 2, 3, 4, 5, 13, 18, 40] hX ?_ | refine awp_drawnG [0, 1, 2, 3, 4, 5, 13, 18, 40] hX mixed ?_ | refine awp_ret ?_ | refine awp_skip ?_ | refine awp_exit ?_); (simp [go_sem]; try (refine ⟨by kernel_rfl, ?_⟩)))))
theorem rz_neg {z : Int} (h : rz z) : rz (-z) := by unfold rz at *; rwa [ab_neg]
theorem Sub_m (z w : Int) (hz : rz z) (hw : rz w) : Means false Tryz.prog 8 [bigZ z, bigZ w] (res (z - w)) := by
  have hadd := Add_m z (-w) hz (rz_neg hw)
  rw [← Int.sub_eq_add_neg] at hadd
  refine means_fn false 19 [.cell 4 24, .tmp 5] Tryz.func8 rfl rfl rfl (by simp) (by decide) rfl fun X hX => ?_
  (repeat (first | refine awp_seq ?_ | refine awp_block ?_ | ((first | refine awp_runG [0, 1, 2, 3, 4, 5, 8] hX ?_ | refine awp_drawnG [0, 1, 2, 3, 4, 5, 8] hX mixed ?_ | refine awp_ret ?_ | refine awp_skip ?_ | refine awp_exit ?_); (simp [go_sem]; try (refine ⟨by kernel_rfl, ?_⟩)))))
  first | refine callK_intro (right_t w hw) rfl (by simp [go_sem]) rfl ?_ | refine callT_intro (right_t w hw) rfl (by simp [go_sem]) rfl ?_
  try (simp [go_sem]; try (refine ⟨by kernel_rfl, ?_⟩))
  refine awp_cond (b := false) (by simp [go_sem]) (fun h => by cases h) (fun _ => ?_)
  (repeat (first | refine awp_seq ?_ | refine awp_block ?_ | ((first | refine awp_runG [0, 1, 2, 3, 4, 5, 8] hX ?_ | refine awp_drawnG [0, 1, 2, 3, 4, 5, 8] hX mixed ?_ | refine awp_ret ?_ | refine awp_skip ?_ | refine awp_exit ?_); (simp [go_sem]; (try simp (disch := omega) only [w64, td, tm]); try (refine ⟨by kernel_rfl, ?_⟩)))))
  first | refine callK_intro (Neg_m w hw) rfl (by simp [go_sem]) rfl ?_ | refine callT_intro (Neg_m w hw) rfl (by simp [go_sem]) rfl ?_
  try (simp [go_sem]; try (refine ⟨by kernel_rfl, ?_⟩))
  first | refine callK_intro (hadd) rfl (by simp [go_sem]) rfl ?_ | refine callT_intro (hadd) rfl (by simp [go_sem]) rfl ?_
  try (simp [go_sem]; try (refine ⟨by kernel_rfl, ?_⟩))
  (repeat refine And.intro (by first | omega | (unfold maxLen; omega) | kernel_rfl | (refine ⟨by first | omega | (unfold maxLen; omega), by first | omega | (unfold maxLen; omega)⟩) | grind) ?_)
  (repeat (first | refine awp_seq ?_ | refine awp_block ?_ | ((first | refine awp_runG [0, 1, 2, 3, 4, 5, 8] hX ?_ | refine awp_drawnG [0, 1, 2, 3, 4, 5, 8] hX mixed ?_ | refine awp_ret ?_ | refine awp_skip ?_ | refine awp_exit ?_); (simp [go_sem]; try (refine ⟨by kernel_rfl, ?_⟩)))))

end Go.Proofs.YtlejmkmcghbdiaaGreatDoor
