/-
  Layer 37: fractions beside numbers, equality of lists.
-/
import Derived.Test.YtlcmmaokfbjojaaPreB
set_option linter.all false
namespace Go.Proofs.Ytlcmmaokfbjojaa
open Go.RowKit Go.Ab
attribute [local irreducible] AWP Go.Ab.Sub Means MeansH CallK CallG CallT CallGT CallU

theorem rf_one {a : Int} (h : rz a) : rf a 1 := ⟨h, rz_c (by decide), by decide, Int.gcd_one⟩
theorem of_m (p q : Int) (hp : -9223372036854775808 ≤ p ∧ p ≤ 9223372036854775807) (hq : -9223372036854775808 ≤ q ∧ q ≤ 9223372036854775807) (h0 : q ≠ 0) : Means false Try.prog 16 [ii p, ii q] (frZ (np p q) (nq p q)) := by
  refine means_fn false 14 [.cell 4 38] Try.func16 rfl rfl rfl (by simp) (by decide) rfl fun X hX => ?_
  (repeat (first | refine awp_seq ?_ | refine awp_block ?_ | ((first | refine awp_runG [0, 1, 4, 5] hX ?_ | refine awp_drawnG [0, 1, 4, 5] hX mixed ?_ | refine awp_ret ?_ | refine awp_skip ?_ | refine awp_exit ?_); (simp [go_sem]; try (refine ⟨by kernel_rfl, ?_⟩)))))
  first | refine callK_intro (Of_f p q hp hq h0) rfl (by simp [go_sem]) rfl ?_ | refine callT_intro (Of_f p q hp hq h0) rfl (by simp [go_sem]) rfl ?_
  try (simp [go_sem]; try (refine ⟨by kernel_rfl, ?_⟩))
  (repeat (first | refine awp_seq ?_ | refine awp_block ?_ | ((first | refine awp_runG [0, 1, 4, 5] hX ?_ | refine awp_drawnG [0, 1, 4, 5] hX mixed ?_ | refine awp_ret ?_ | refine awp_skip ?_ | refine awp_exit ?_); (simp [go_sem]; try (refine ⟨by kernel_rfl, ?_⟩)))))
theorem of_1 (p : Int) (hp : -9223372036854775808 ≤ p ∧ p ≤ 9223372036854775807) : Means false Try.prog 16 [ii p, ii 1] (frZ p 1) := by
  have := of_m p 1 hp (by omega) (by omega)
  obtain ⟨e1, e2⟩ := low_rat (rf_one (rz_i hp))
  rwa [e1, e2] at this

/-- A fraction that differs from a number by less than 1. -/
theorem near_t (p q n : Int) (h : rf p q) (hp : ab p ≤ 1000000000000000000000) (hq : q ≤ 1000000) (hn : -1125899906842624 ≤ n ∧ n ≤ 1125899906842624) (h1 : n * q - q < p) (h2 : p < n * q + q) : Means false Try.prog 19 [frZ p q, ii n] (bb true) := by
  have hq0 : 0 < q := h.2.2.1
  have hnq : -1125899906842624 * 1000000 ≤ n * q ∧ n * q ≤ 1125899906842624 * 1000000 := by
    constructor
    · have := Int.mul_le_mul_of_nonneg_right hn.1 (show 0 ≤ q by omega)
      have := Int.mul_le_mul_of_nonneg_left hq (show (0 : Int) ≤ 1125899906842624 by omega)
      omega
    · exact Int.mul_le_mul hn.2 hq (by omega) (by omega)
  have hpb : -1000000000000000000000 ≤ p ∧ p ≤ 1000000000000000000000 := by unfold ab at hp; split at hp <;> omega
  have cS := Sub_f p q n 1 h (rf_one (rz_i (by omega)))
  have e1 : p * 1 + -n * q = p - n * q := by rw [Int.mul_one, Int.neg_mul]; omega
  have e2 : q * 1 = q := Int.mul_one q
  rw [e1, e2, resF_t ⟨⟨by rw [Int.mul_one]; exact h.1, rz_c (by unfold ab; split <;> rw [Int.neg_mul] at * <;> omega), by rw [e1]; exact rz_c (by unfold ab; split <;> omega)⟩, h.2.1⟩] at cS
  have hdz : rz (p - n * q) := rz_c (by unfold ab; split <;> omega)
  have hrf := low_rf hdz h.2.1 (show q ≠ 0 by omega)
  have hl := low_spec (p := p - n * q) (q := q) (by omega)
  have k1 := Compare_f _ _ 1 1 hrf (rf_one (rz_c (by decide)))
  have k2 := Compare_f _ _ (-1) 1 hrf (rf_one (rz_c (by decide)))
  obtain ⟨l1, l2, l3, _⟩ := hl
  have c1 : cmpI (np (p - n * q) q * 1) (1 * nq (p - n * q) q) = -1 := by
    refine cmpI_one ?_
    rw [Int.mul_one, Int.one_mul]
    have : np (p - n * q) q * q < nq (p - n * q) q * q := by rw [l3, Int.mul_comm (nq _ _)]; exact Int.mul_lt_mul_of_pos_right (by omega) l1
    exact Int.lt_of_mul_lt_mul_right this (by omega)
  have c2 : cmpI (np (p - n * q) q * 1) (-1 * nq (p - n * q) q) = 1 := by
    refine cmpI_two ?_
    rw [Int.mul_one, Int.neg_mul, Int.one_mul]
    have : -nq (p - n * q) q * q < np (p - n * q) q * q := by
      rw [l3, Int.neg_mul, Int.mul_comm (nq _ _), ← Int.neg_mul]; exact Int.mul_lt_mul_of_pos_right (by omega) l1
    exact Int.lt_of_mul_lt_mul_right this (by omega)
  rw [c1] at k1
  rw [c2] at k2
  generalize np (p - n * q) q = x at *
  generalize nq (p - n * q) q = y at *
  refine means_fn false 28 [.tmp 4] Try.func19 rfl rfl rfl (by simp) (by decide) rfl fun X hX => ?_
  (repeat (first | refine awp_seq ?_ | refine awp_block ?_ | ((first | refine awp_runG [0, 1, 2, 4, 5, 6] hX ?_ | refine awp_skip ?_ | refine awp_exit ?_); (simp [go_sem]; try (refine ⟨by kernel_rfl, ?_⟩)))))
  refine awp_drawUG [0, 1, 2, 4, 5, 6] 1 hX mixed ?_; (simp [go_sem]; try (refine ⟨by kernel_rfl, ?_⟩))
  refine callU_intro (of_1 n (by omega)) rfl (by simp [go_sem]) rfl ?_
  try (simp [go_sem]; try (refine ⟨by kernel_rfl, ?_⟩))
  refine callU_intro (cS) rfl (by simp [go_sem]) rfl ?_
  try (simp [go_sem]; try (refine ⟨by kernel_rfl, ?_⟩))
  refine ⟨⟨by kernel_rfl, by kernel_rfl⟩, ?_⟩
  (repeat (first | refine awp_seq ?_ | refine awp_block ?_ | ((first | refine awp_runG [0, 1, 2, 4, 5, 6] hX ?_ | refine awp_drawnG [0, 1, 2, 4, 5, 6] hX mixed ?_ | refine awp_ret ?_ | refine awp_skip ?_ | refine awp_exit ?_); (simp [go_sem]; try (refine ⟨by kernel_rfl, ?_⟩)))))
  first | refine callG_intro (fun hg => of_1 1 (by omega)) rfl (by simp [go_sem]) rfl ?_ | refine callGT_intro (fun hg => of_1 1 (by omega)) rfl (by simp [go_sem]) rfl ?_
  try (simp [go_sem]; try (refine ⟨by kernel_rfl, ?_⟩))
  first | refine callG_intro (fun hg => k1) rfl (by simp [go_sem]) rfl ?_ | refine callGT_intro (fun hg => k1) rfl (by simp [go_sem]) rfl ?_
  try (simp [go_sem]; try (refine ⟨by kernel_rfl, ?_⟩))
  first | refine callG_intro (fun hg => of_1 (-1) (by omega)) rfl (by simp [go_sem]) rfl ?_ | refine callGT_intro (fun hg => of_1 (-1) (by omega)) rfl (by simp [go_sem]) rfl ?_
  try (simp [go_sem]; try (refine ⟨by kernel_rfl, ?_⟩))
  first | refine callG_intro (fun hg => k2) rfl (by simp [go_sem]) rfl ?_ | refine callGT_intro (fun hg => k2) rfl (by simp [go_sem]) rfl ?_
  try (simp [go_sem]; try (refine ⟨by kernel_rfl, ?_⟩))
  (repeat (first | refine awp_seq ?_ | refine awp_block ?_ | ((first | refine awp_runG [0, 1, 2, 4, 5, 6] hX ?_ | refine awp_drawnG [0, 1, 2, 4, 5, 6] hX mixed ?_ | refine awp_ret ?_ | refine awp_skip ?_ | refine awp_exit ?_); (simp [go_sem]; try (refine ⟨by kernel_rfl, ?_⟩)))))

theorem same_m (a b : List Int) (hla : a.length ≤ 9223372036854775807) (hlb : b.length ≤ 9223372036854775807) : Means true Try.prog 13 [il a, il b] (bb (decide (a = b))) := by
  refine means_fn true 26 [.tmp 4] Try.func13 rfl rfl rfl (by simp) (by decide) rfl fun X hX => ?_
  by_cases hl : a.length = b.length
  · (repeat (first | refine awp_seq ?_ | refine awp_block ?_ | ((first | refine awp_runG [0, 1, 4, 5, 10, 14, 25] hX ?_ | refine awp_drawnG [0, 1, 4, 5, 10, 14, 25] hX mixed ?_ | refine awp_ret ?_ | refine awp_skip ?_ | refine awp_exit ?_); (simp [go_sem, hl]; try (refine ⟨by kernel_rfl, ?_⟩)))))
    refine awp_cond (b := false) (by simp [go_sem, hl]) (fun hb => by cases hb) (fun _ => ?_)
    (repeat (first | refine awp_seq ?_ | refine awp_block ?_ | ((first | refine awp_runG [0, 1, 4, 5, 10, 14, 25] hX ?_ | refine awp_drawnG [0, 1, 4, 5, 10, 14, 25] hX mixed ?_ | refine awp_ret ?_ | refine awp_skip ?_ | refine awp_exit ?_); (simp [go_sem]; try (refine ⟨by kernel_rfl, ?_⟩)))))
    refine awp_loop (fun n : Nat => ⟨mkE [(0, il a), (1, il b), (5, ii n)], []⟩) (fun n => n ≤ a.length ∧ a.take n = b.take n) (fun n => a.length - n) 0 ?_ ?_ ?_
    · refine sub_of _ [] (by simp [go_sem]) ?_
      simp [go_sem]
    · exact ⟨Nat.zero_le _, by simp⟩
    · rintro n ⟨hn, he⟩
      (repeat (first | refine awp_seq ?_ | refine awp_block ?_ | ((first | refine awp_runG [0, 1, 4, 5, 10, 14, 25] hX ?_ | refine awp_drawnG [0, 1, 4, 5, 10, 14, 25] hX mixed ?_ | refine awp_ret ?_ | refine awp_skip ?_ | refine awp_exit ?_); (simp [go_sem]; try (refine ⟨by kernel_rfl, ?_⟩)))))
      refine awp_cond (b := decide (n < a.length)) (by simp [go_sem]) (fun hd2 => ?_) (fun hd2 => ?_)
      · simp at hd2
        have h2 : n < b.length := by omega
        (repeat (first | refine awp_seq ?_ | refine awp_block ?_ | ((first | refine awp_runG [0, 1, 4, 5, 10, 14, 25] hX ?_ | refine awp_drawnG [0, 1, 4, 5, 10, 14, 25] hX mixed ?_ | refine awp_ret ?_ | refine awp_skip ?_ | refine awp_exit ?_); (simp [go_sem, hd2, h2]; (try simp (disch := omega) only [w64, td, tm]); try (refine ⟨by kernel_rfl, ?_⟩)))))
        (repeat refine And.intro (by first | omega | (unfold maxLen; omega) | kernel_rfl | (refine ⟨by first | omega | (unfold maxLen; omega), by first | omega | (unfold maxLen; omega)⟩) | grind) ?_)
        try (simp [go_sem, hd2, h2]; try (refine ⟨by kernel_rfl, ?_⟩))
        refine awp_cond (b := decide (a[n] ≠ b[n])) (by simp [go_sem, hd2, h2]; try omega) (fun hc => ?_) (fun hc => ?_)
        · simp only [decide_eq_true_eq] at hc
          have hne : ¬ a = b := fun e => hc (by simp only [e])
          (repeat (first | refine awp_seq ?_ | refine awp_block ?_ | ((first | refine awp_runG [0, 1, 4, 5, 10, 14, 25] hX ?_ | refine awp_drawnG [0, 1, 4, 5, 10, 14, 25] hX mixed ?_ | refine awp_ret ?_ | refine awp_skip ?_ | refine awp_exit ?_); (simp [go_sem, hne]; try (refine ⟨by kernel_rfl, ?_⟩)))))
        · simp at hc
          (repeat (first | refine awp_seq ?_ | refine awp_block ?_ | ((first | refine awp_runG [0, 1, 4, 5, 10, 14, 25] hX ?_ | refine awp_drawnG [0, 1, 4, 5, 10, 14, 25] hX mixed ?_ | refine awp_ret ?_ | refine awp_skip ?_ | refine awp_exit ?_); (simp [go_sem]; (try simp (disch := omega) only [w64, td, tm]); try (refine ⟨by kernel_rfl, ?_⟩)))))
          refine ⟨n + 1, ⟨by omega, ?_⟩, by omega, ?_⟩
          · rw [List.take_succ_eq_append_getElem hd2, List.take_succ_eq_append_getElem h2, he, hc]
          · refine sub_of _ [] (by simp [go_sem]) ?_
            simp [go_sem]
      · have hnl : n = a.length := by simp at hd2; omega
        subst hnl
        have hab : a = b := by rwa [List.take_length, hl, List.take_length] at he
        (repeat (first | refine awp_seq ?_ | refine awp_block ?_ | ((first | refine awp_runG [0, 1, 4, 5, 10, 14, 25] hX ?_ | refine awp_drawnG [0, 1, 4, 5, 10, 14, 25] hX mixed ?_ | refine awp_ret ?_ | refine awp_skip ?_ | refine awp_exit ?_); (simp [go_sem, hab]; try (refine ⟨by kernel_rfl, ?_⟩)))))
  · have hne : ¬ a = b := fun e => hl (by rw [e])
    (repeat (first | refine awp_seq ?_ | refine awp_block ?_ | ((first | refine awp_runG [0, 1, 4, 5, 10, 14, 25] hX ?_ | refine awp_drawnG [0, 1, 4, 5, 10, 14, 25] hX mixed ?_ | refine awp_ret ?_ | refine awp_skip ?_ | refine awp_exit ?_); (simp [go_sem, hl]; try (refine ⟨by kernel_rfl, ?_⟩)))))
    refine awp_cond (b := true) (by simp [go_sem, hl]; try omega) (fun _ => ?_) (fun hb => by cases hb)
    (repeat (first | refine awp_seq ?_ | refine awp_block ?_ | ((first | refine awp_runG [0, 1, 4, 5, 10, 14, 25] hX ?_ | refine awp_drawnG [0, 1, 4, 5, 10, 14, 25] hX mixed ?_ | refine awp_ret ?_ | refine awp_skip ?_ | refine awp_exit ?_); (simp [go_sem, hne]; try (refine ⟨by kernel_rfl, ?_⟩)))))
theorem same_t (a : List Int) (hla : a.length ≤ 9223372036854775807) : Means true Try.prog 13 [il a, il a] (bb true) := by
  have := same_m a a hla hla
  rwa [decide_eq_true rfl] at this

set_option maxHeartbeats 4000000 in
set_option maxRecDepth 20000 in
/-- A list of fractions is itself. -/
theorem sameF_t (A : List (Int × Int)) (hl : A.length ≤ 9223372036854775807) (hz : ∀ i (h : i < A.length), rz A[i].1 ∧ rz A[i].2) : Means false Try.prog 12 [.sl (A.map fz), .sl (A.map fz)] (bb true) := by
  have hn : ∀ k (h : k < A.length), nth (A.map fz) k = fz A[k] := fun k h => nth_map fz h
  have hlm : (A.map fz).length = A.length := List.length_map ..
  refine means_fn false 29 [.tmp 4] Try.func12 rfl rfl rfl (by simp) (by decide) rfl fun X hX => ?_
  (repeat (first | refine awp_seq ?_ | refine awp_block ?_ | ((first | refine awp_runG [0, 1, 4, 5, 6, 11, 15, 28] hX ?_ | refine awp_drawnG [0, 1, 4, 5, 6, 11, 15, 28] hX mixed ?_ | refine awp_ret ?_ | refine awp_skip ?_ | refine awp_exit ?_); (simp [go_sem, hlm]; try (refine ⟨by kernel_rfl, ?_⟩)))))
  refine awp_cond (b := false) (by simp [go_sem, hlm]) (fun hb => by cases hb) (fun _ => ?_)
  (repeat (first | refine awp_seq ?_ | refine awp_block ?_ | ((first | refine awp_runG [0, 1, 4, 5, 6, 11, 15, 28] hX ?_ | refine awp_drawnG [0, 1, 4, 5, 6, 11, 15, 28] hX mixed ?_ | refine awp_ret ?_ | refine awp_skip ?_ | refine awp_exit ?_); (simp [go_sem]; try (refine ⟨by kernel_rfl, ?_⟩)))))
  refine awp_loop (fun k : Nat => ⟨mkE [(0, .sl (A.map fz)), (1, .sl (A.map fz)), (5, ii k)], []⟩) (fun k => k ≤ A.length) (fun k => A.length - k) 0 ?_ ?_ ?_
  · refine sub_of _ [] (by simp [go_sem]) ?_
    simp [go_sem]
  · omega
  · intro k hk
    (repeat (first | refine awp_seq ?_ | refine awp_block ?_ | ((first | refine awp_runG [0, 1, 4, 5, 6, 11, 15, 28] hX ?_ | refine awp_drawnG [0, 1, 4, 5, 6, 11, 15, 28] hX mixed ?_ | refine awp_ret ?_ | refine awp_skip ?_ | refine awp_exit ?_); (simp [go_sem, hlm]; try (refine ⟨by kernel_rfl, ?_⟩)))))
    refine awp_cond (b := decide (k < A.length)) (by simp [go_sem, hlm]) (fun hc => ?_) (fun hc => ?_)
    · simp at hc
      have h1 := hz k hc
      have h2 := hn k hc
      have wk := w64 (x := (k : Int) + 1) (by omega) (by omega)
      have cS := SameF_t (a := A[k].1) (b := A[k].2) rfl rfl h1.1 h1.2
      generalize A[k] = x at *
      obtain ⟨p, q⟩ := x
      generalize A.map fz = D at *
      have hkD : k < D.length := by omega
      (repeat (first | refine awp_seq ?_ | refine awp_block ?_ | ((first | refine awp_runG [0, 1, 4, 5, 6, 11, 15, 28] hX ?_ | refine awp_drawnG [0, 1, 4, 5, 6, 11, 15, 28] hX mixed ?_ | refine awp_ret ?_ | refine awp_skip ?_ | refine awp_exit ?_); (simp [go_sem, hkD, h2]; try (refine ⟨by kernel_rfl, ?_⟩)))))
      first | refine callK_intro (cS) rfl (by simp [go_sem]) rfl ?_ | refine callT_intro (cS) rfl (by simp [go_sem]) rfl ?_
      try (simp [go_sem]; try (refine ⟨by kernel_rfl, ?_⟩))
      (repeat (first | refine awp_seq ?_ | refine awp_block ?_ | ((first | refine awp_runG [0, 1, 4, 5, 6, 11, 15, 28] hX ?_ | refine awp_drawnG [0, 1, 4, 5, 6, 11, 15, 28] hX mixed ?_ | refine awp_ret ?_ | refine awp_skip ?_ | refine awp_exit ?_); (simp [go_sem]; try (refine ⟨by kernel_rfl, ?_⟩)))))
      refine awp_cond (b := false) (by simp [go_sem]) (fun hb => by cases hb) (fun _ => ?_)
      (repeat (first | refine awp_seq ?_ | refine awp_block ?_ | ((first | refine awp_runG [0, 1, 4, 5, 6, 11, 15, 28] hX ?_ | refine awp_drawnG [0, 1, 4, 5, 6, 11, 15, 28] hX mixed ?_ | refine awp_ret ?_ | refine awp_skip ?_ | refine awp_exit ?_); (simp [go_sem, wk]; try (refine ⟨by kernel_rfl, ?_⟩)))))
      refine ⟨k + 1, by omega, by omega, ?_⟩
      refine sub_of _ [] (by simp [go_sem]) ?_
      simp [go_sem]
    · (repeat (first | refine awp_seq ?_ | refine awp_block ?_ | ((first | refine awp_runG [0, 1, 4, 5, 6, 11, 15, 28] hX ?_ | refine awp_drawnG [0, 1, 4, 5, 6, 11, 15, 28] hX mixed ?_ | refine awp_ret ?_ | refine awp_skip ?_ | refine awp_exit ?_); (simp [go_sem]; try (refine ⟨by kernel_rfl, ?_⟩)))))

end Go.Proofs.Ytlcmmaokfbjojaa
