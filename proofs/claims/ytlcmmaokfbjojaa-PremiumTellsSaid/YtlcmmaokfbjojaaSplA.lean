/-
  Layer 18: sums of weights, quotas, equality.
-/
import Derived.Test.YtlcmmaokfbjojaaSplC
import Derived.Test.YtlcmmaokfbjojaaSplP
set_option linter.all false
namespace Go.Proofs.Ytlcmmaokfbjojaa
open Go.RowKit Go.Ab
attribute [local irreducible] AWP Go.Ab.Sub Means MeansH CallK CallG CallT CallGT CallU

/-- The program's sum of weights. -/
theorem wsum_m (W : List Int) (hl : W.length ≤ 9223372036854775807) : Means true Try.prog 65 [il W] (ii (wsum W)) := by
  refine means_fn true 28 [.tmp 2] Try.func65 rfl rfl rfl (by simp) (by decide) rfl fun X hX => ?_
  (repeat (first | refine awp_seq ?_ | refine awp_block ?_ | ((first | refine awp_runG [0, 2, 3, 5, 6, 7, 8, 9, 22] hX ?_ | refine awp_drawnG [0, 2, 3, 5, 6, 7, 8, 9, 22] hX mixed ?_ | refine awp_ret ?_ | refine awp_skip ?_ | refine awp_exit ?_); (simp [go_sem]; try (refine ⟨by kernel_rfl, ?_⟩)))))
  refine awp_loop (fun n : Nat => ⟨mkE [(0, il W), (3, ii (sumL (W.take n))), (6, il W), (7, ii W.length), (8, ii n)], []⟩) (fun n => n ≤ W.length ∧ (W.take n).all inW = true ∧ (0 < n → W.length ≤ 60)) (fun n => W.length - n) 0 ?_ ?_ ?_
  · refine sub_of _ [] (by simp [go_sem]) ?_
    simp [go_sem]
  · simp
  · rintro n ⟨hn, hk, h60⟩
    have hsb := sumW_bd hk
    have htl : (W.take n).length = n := by rw [List.length_take]; omega
    rw [htl] at hsb
    (repeat (first | refine awp_seq ?_ | refine awp_block ?_ | ((first | refine awp_runG [0, 2, 3, 5, 6, 7, 8, 9, 22] hX ?_ | refine awp_drawnG [0, 2, 3, 5, 6, 7, 8, 9, 22] hX mixed ?_ | refine awp_ret ?_ | refine awp_skip ?_ | refine awp_exit ?_); (simp [go_sem]; try (refine ⟨by kernel_rfl, ?_⟩)))))
    refine awp_cond (b := decide (n < W.length)) (by simp [go_sem]) (fun hc => ?_) (fun hc => ?_)
    · simp at hc
      (repeat (first | refine awp_seq ?_ | refine awp_block ?_ | ((first | refine awp_runG [0, 2, 3, 5, 6, 7, 8, 9, 22] hX ?_ | refine awp_drawnG [0, 2, 3, 5, 6, 7, 8, 9, 22] hX mixed ?_ | refine awp_ret ?_ | refine awp_skip ?_ | refine awp_exit ?_); (simp [go_sem, hc]; try (refine ⟨by kernel_rfl, ?_⟩)))))
      refine awp_cond (b := !inW W[n] || decide (60 < W.length)) (by simp [go_sem, inW]; rw [Bool.eq_iff_iff]; simp; try omega) (fun hd => ?_) (fun hd => ?_)
      · have e : wsum W = 0 := by
          simp at hd
          rcases hd with hd | hd
          · exact okW_bad hc hd
          · unfold wsum; rw [if_neg]; intro q; have := okW_len q; omega
        rw [e]
        (repeat (first | refine awp_seq ?_ | refine awp_block ?_ | ((first | refine awp_runG [0, 2, 3, 5, 6, 7, 8, 9, 22] hX ?_ | refine awp_drawnG [0, 2, 3, 5, 6, 7, 8, 9, 22] hX mixed ?_ | refine awp_ret ?_ | refine awp_skip ?_ | refine awp_exit ?_); (simp [go_sem]; try (refine ⟨by kernel_rfl, ?_⟩)))))
      · simp at hd
        have hwb := inW_iff.1 hd.1
        have e := sumL_succ hc
        have hw := w64 (x := sumL (W.take n) + W[n]) (by omega) (by omega)
        (repeat (first | refine awp_seq ?_ | refine awp_block ?_ | ((first | refine awp_runG [0, 2, 3, 5, 6, 7, 8, 9, 22] hX ?_ | refine awp_drawnG [0, 2, 3, 5, 6, 7, 8, 9, 22] hX mixed ?_ | refine awp_ret ?_ | refine awp_skip ?_ | refine awp_exit ?_); (simp [go_sem, hw]; try (refine ⟨by kernel_rfl, ?_⟩)))))
        have hwn := w64 (x := (n : Int) + 1) (by omega) (by omega)
        try (simp [go_sem, hwn]; try (refine ⟨by kernel_rfl, ?_⟩))
        refine ⟨n + 1, ⟨by omega, List.all_eq_true.1 (all_succ hc hk hd.1), fun _ => hd.2⟩, by omega, ?_⟩
        rw [e]
        refine sub_of _ [] (by simp [go_sem]) ?_
        simp [go_sem, hwn]
    · have : n = W.length := by simp at hc; omega
      subst this
      rw [List.take_length] at hk ⊢
      have e : wsum W = sumL W := by
        unfold wsum
        by_cases hl60 : W.length ≤ 60
        · rw [if_pos]; simp [okW, hk, hl60]
        · exfalso; have := h60 (by omega); omega
      rw [e]
      (repeat (first | refine awp_seq ?_ | refine awp_block ?_ | ((first | refine awp_runG [0, 2, 3, 5, 6, 7, 8, 9, 22] hX ?_ | refine awp_drawnG [0, 2, 3, 5, 6, 7, 8, 9, 22] hX mixed ?_ | refine awp_ret ?_ | refine awp_skip ?_ | refine awp_exit ?_); (simp [go_sem]; try (refine ⟨by kernel_rfl, ?_⟩)))))

/-- The reference's. -/
theorem rsum_m (W : List Int) (hl : W.length ≤ 9223372036854775807) : Means true Try.prog 67 [il W] (ii (wsum W)) := by
  refine means_fn true 34 [.tmp 2] Try.func67 rfl rfl rfl (by simp) (by decide) rfl fun X hX => ?_
  (repeat (first | refine awp_seq ?_ | refine awp_block ?_ | ((first | refine awp_runG [0, 2, 3, 4, 8, 26] hX ?_ | refine awp_drawnG [0, 2, 3, 4, 8, 26] hX mixed ?_ | refine awp_ret ?_ | refine awp_skip ?_ | refine awp_exit ?_); (simp [go_sem]; try (refine ⟨by kernel_rfl, ?_⟩)))))
  refine awp_loop (fun n : Nat => ⟨mkE [(0, il W), (3, ii (sumL (W.take n))), (4, ii n)], []⟩) (fun n => n ≤ W.length ∧ (W.take n).all inW = true ∧ n ≤ 60) (fun n => W.length - n) 0 ?_ ?_ ?_
  · refine sub_of _ [] (by simp [go_sem]) ?_
    simp [go_sem]
  · simp
  · rintro n ⟨hn, hk, h60⟩
    have hsb := sumW_bd hk
    have htl : (W.take n).length = n := by rw [List.length_take]; omega
    rw [htl] at hsb
    (repeat (first | refine awp_seq ?_ | refine awp_block ?_ | ((first | refine awp_runG [0, 2, 3, 4, 8, 26] hX ?_ | refine awp_drawnG [0, 2, 3, 4, 8, 26] hX mixed ?_ | refine awp_ret ?_ | refine awp_skip ?_ | refine awp_exit ?_); (simp [go_sem]; try (refine ⟨by kernel_rfl, ?_⟩)))))
    refine awp_cond (b := decide (n < W.length)) (by simp [go_sem]) (fun hc => ?_) (fun hc => ?_)
    · simp at hc
      (repeat (first | refine awp_seq ?_ | refine awp_block ?_ | ((first | refine awp_runG [0, 2, 3, 4, 8, 26] hX ?_ | refine awp_drawnG [0, 2, 3, 4, 8, 26] hX mixed ?_ | refine awp_ret ?_ | refine awp_skip ?_ | refine awp_exit ?_); (simp [go_sem, hc]; try (refine ⟨by kernel_rfl, ?_⟩)))))
      refine awp_cond (b := !inW W[n] || decide (60 ≤ n)) (by simp [go_sem, inW, hc]; rw [Bool.eq_iff_iff]; simp; try omega) (fun hd => ?_) (fun hd => ?_)
      · have e : wsum W = 0 := by
          simp at hd
          rcases hd with hd | hd
          · exact okW_bad hc hd
          · unfold wsum; rw [if_neg]; intro q; have := okW_len q; omega
        rw [e]
        (repeat (first | refine awp_seq ?_ | refine awp_block ?_ | ((first | refine awp_runG [0, 2, 3, 4, 8, 26] hX ?_ | refine awp_drawnG [0, 2, 3, 4, 8, 26] hX mixed ?_ | refine awp_ret ?_ | refine awp_skip ?_ | refine awp_exit ?_); (simp [go_sem]; try (refine ⟨by kernel_rfl, ?_⟩)))))
      · simp at hd
        have hwb := inW_iff.1 hd.1
        have e := sumL_succ hc
        have hw := w64 (x := sumL (W.take n) + W[n]) (by omega) (by omega)
        have hwn := w64 (x := (n : Int) + 1) (by omega) (by omega)
        (repeat (first | refine awp_seq ?_ | refine awp_block ?_ | ((first | refine awp_runG [0, 2, 3, 4, 8, 26] hX ?_ | refine awp_drawnG [0, 2, 3, 4, 8, 26] hX mixed ?_ | refine awp_ret ?_ | refine awp_skip ?_ | refine awp_exit ?_); (simp [go_sem, hc, hw, hwn]; try (refine ⟨by kernel_rfl, ?_⟩)))))
        refine ⟨n + 1, ⟨by omega, List.all_eq_true.1 (all_succ hc hk hd.1), by omega⟩, by omega, ?_⟩
        rw [e]
        refine sub_of _ [] (by simp [go_sem]) ?_
        simp [go_sem]
    · have : n = W.length := by simp at hc; omega
      subst this
      rw [List.take_length] at hk ⊢
      have e : wsum W = sumL W := by
        unfold wsum
        rw [if_pos]; simp [okW, hk, h60]
      rw [e]
      (repeat (first | refine awp_seq ?_ | refine awp_block ?_ | ((first | refine awp_runG [0, 2, 3, 4, 8, 26] hX ?_ | refine awp_drawnG [0, 2, 3, 4, 8, 26] hX mixed ?_ | refine awp_ret ?_ | refine awp_skip ?_ | refine awp_exit ?_); (simp [go_sem]; try (refine ⟨by kernel_rfl, ?_⟩)))))

theorem amount_m (n : Int) : Means true Try.prog 43 [ii n] (bb (isAm n)) := by
  refine means_fn true 9 [.tmp 2] Try.func43 rfl rfl rfl (by simp) (by decide) rfl fun X hX => ?_
  (repeat (first | refine awp_seq ?_ | refine awp_block ?_ | ((first | refine awp_runG [0, 2] hX ?_ | refine awp_drawnG [0, 2] hX mixed ?_ | refine awp_ret ?_ | refine awp_skip ?_ | refine awp_exit ?_); (simp [go_sem]; try (refine ⟨by kernel_rfl, ?_⟩)))))
  simp [isAm]
theorem ramount_m (n : Int) : Means true Try.prog 45 [ii n] (bb (isAm n)) := by
  refine means_fn true 9 [.tmp 2] Try.func45 rfl rfl rfl (by simp) (by decide) rfl fun X hX => ?_
  (repeat (first | refine awp_seq ?_ | refine awp_block ?_ | ((first | refine awp_runG [0, 2] hX ?_ | refine awp_drawnG [0, 2] hX mixed ?_ | refine awp_ret ?_ | refine awp_skip ?_ | refine awp_exit ?_); (simp [go_sem]; try (refine ⟨by kernel_rfl, ?_⟩)))))
  simp [isAm]

end Go.Proofs.Ytlcmmaokfbjojaa
