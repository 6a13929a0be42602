/-
  Layer 18: sums of weights, quotas, equality.
-/
import Derived.Test.YtjgkjenbgadacaaDoorSplC
import Derived.Test.YtjgkjenbgadacaaDoorSplP
set_option linter.all false
namespace Go.Proofs.YtjgkjenbgadacaaDoor
open Go.RowKit Go.Ab
attribute [local irreducible] AWP Go.Ab.Sub Means MeansH CallK CallG CallT CallGT CallU

theorem ints_m (a b : List Int) (hla : a.length ≤ 9223372036854775807) (hlb : b.length ≤ 9223372036854775807) : Means true Tryd.prog 18 [il a, il b] (bb (decide (a = b))) := by
  refine means_fn true 26 [.tmp 4] Tryd.func18 rfl rfl rfl (by simp) (by decide) rfl fun X hX => ?_
  by_cases hl : a.length = b.length
  · (repeat (first | refine awp_seq ?_ | refine awp_block ?_ | ((first | refine awp_runG [0, 1, 4, 5, 10, 14, 25] hX ?_ | refine awp_drawnG [0, 1, 4, 5, 10, 14, 25] hX mixed ?_ | refine awp_ret ?_ | refine awp_skip ?_ | refine awp_exit ?_); (simp [go_sem, hl]; try (refine ⟨by kernel_rfl, ?_⟩)))))
    refine awp_cond (b := false) (by simp [go_sem, hl]) (fun hb => by cases hb) (fun _ => ?_)
    (repeat (first | refine awp_seq ?_ | refine awp_block ?_ | ((first | refine awp_runG [0, 1, 4, 5, 10, 14, 25] hX ?_ | refine awp_drawnG [0, 1, 4, 5, 10, 14, 25] hX mixed ?_ | refine awp_ret ?_ | refine awp_skip ?_ | refine awp_exit ?_); (simp [go_sem]; try (refine ⟨by kernel_rfl, ?_⟩)))))
    refine awp_loop (fun n : Nat => ⟨mkE [(0, il a), (1, il b), (5, ii n)], []⟩) (fun n => n ≤ a.length ∧ a.take n = b.take n) (fun n => a.length - n) 0 ?_ ?_ ?_
    · refine sub_of _ [] (by simp [go_sem]) ?_
      simp [go_sem]
    · exact ⟨Nat.zero_le _, by simp⟩
    · rintro n ⟨hn, he⟩
      (repeat (first | refine awp_seq ?_ | refine awp_block ?_ | ((first | refine awp_runG [0, 1, 4, 5, 10, 14, 25] hX ?_ | refine awp_drawnG [0, 1, 4, 5, 10, 14, 25] hX mixed ?_ | refine awp_ret ?_ | refine awp_skip ?_ | refine awp_exit ?_); (simp [go_sem]; try (refine ⟨by kernel_rfl, ?_⟩)))))
      refine awp_cond (b := decide (n < a.length)) (by simp [go_sem]) (fun hd2 => ?_) (fun hd2 => ?_)
      · simp at hd2
        have h2 : n < b.length := by omega
        (repeat (first | refine awp_seq ?_ | refine awp_block ?_ | ((first | refine awp_runG [0, 1, 4, 5, 10, 14, 25] hX ?_ | refine awp_drawnG [0, 1, 4, 5, 10, 14, 25] hX mixed ?_ | refine awp_ret ?_ | refine awp_skip ?_ | refine awp_exit ?_); (simp [go_sem, hd2, h2]; (try simp (disch := omega) only [w64, td, tm]); try (refine ⟨by kernel_rfl, ?_⟩)))))
        (repeat refine And.intro (by first | omega | (unfold maxLen; omega) | kernel_rfl | (refine ⟨by first | omega | (unfold maxLen; omega), by first | omega | (unfold maxLen; omega)⟩) | grind) ?_)
        try (simp [go_sem, hd2, h2]; try (refine ⟨by kernel_rfl, ?_⟩))
        refine awp_cond (b := decide (a[n] ≠ b[n])) (by simp [go_sem, hd2, h2]; try omega) (fun hc => ?_) (fun hc => ?_)
        · simp only [decide_eq_true_eq] at hc
          have hne : ¬ a = b := fun e => hc (by simp only [e])
          (repeat (first | refine awp_seq ?_ | refine awp_block ?_ | ((first | refine awp_runG [0, 1, 4, 5, 10, 14, 25] hX ?_ | refine awp_drawnG [0, 1, 4, 5, 10, 14, 25] hX mixed ?_ | refine awp_ret ?_ | refine awp_skip ?_ | refine awp_exit ?_); (simp [go_sem, hne]; try (refine ⟨by kernel_rfl, ?_⟩)))))
        · simp at hc
          (repeat (first | refine awp_seq ?_ | refine awp_block ?_ | ((first | refine awp_runG [0, 1, 4, 5, 10, 14, 25] hX ?_ | refine awp_drawnG [0, 1, 4, 5, 10, 14, 25] hX mixed ?_ | refine awp_ret ?_ | refine awp_skip ?_ | refine awp_exit ?_); (simp [go_sem]; (try simp (disch := omega) only [w64, td, tm]); try (refine ⟨by kernel_rfl, ?_⟩)))))
          refine ⟨n + 1, ⟨by omega, ?_⟩, by omega, ?_⟩
          · rw [List.take_succ_eq_append_getElem hd2, List.take_succ_eq_append_getElem h2, he, hc]
          · refine sub_of _ [] (by simp [go_sem]) ?_
            simp [go_sem]
      · have hnl : n = a.length := by simp at hd2; omega
        subst hnl
        have hab : a = b := by rwa [List.take_length, hl, List.take_length] at he
        (repeat (first | refine awp_seq ?_ | refine awp_block ?_ | ((first | refine awp_runG [0, 1, 4, 5, 10, 14, 25] hX ?_ | refine awp_drawnG [0, 1, 4, 5, 10, 14, 25] hX mixed ?_ | refine awp_ret ?_ | refine awp_skip ?_ | refine awp_exit ?_); (simp [go_sem, hab]; try (refine ⟨by kernel_rfl, ?_⟩)))))
  · have hne : ¬ a = b := fun e => hl (by rw [e])
    (repeat (first | refine awp_seq ?_ | refine awp_block ?_ | ((first | refine awp_runG [0, 1, 4, 5, 10, 14, 25] hX ?_ | refine awp_drawnG [0, 1, 4, 5, 10, 14, 25] hX mixed ?_ | refine awp_ret ?_ | refine awp_skip ?_ | refine awp_exit ?_); (simp [go_sem, hl]; try (refine ⟨by kernel_rfl, ?_⟩)))))
    refine awp_cond (b := true) (by simp [go_sem, hl]; try omega) (fun _ => ?_) (fun hb => by cases hb)
    (repeat (first | refine awp_seq ?_ | refine awp_block ?_ | ((first | refine awp_runG [0, 1, 4, 5, 10, 14, 25] hX ?_ | refine awp_drawnG [0, 1, 4, 5, 10, 14, 25] hX mixed ?_ | refine awp_ret ?_ | refine awp_skip ?_ | refine awp_exit ?_); (simp [go_sem, hne]; try (refine ⟨by kernel_rfl, ?_⟩)))))
theorem ints_t (a : List Int) (hla : a.length ≤ 9223372036854775807) : Means true Tryd.prog 18 [il a, il a] (bb true) := by
  have := ints_m a a hla hla
  rwa [decide_eq_true rfl] at this

/-- The program's sum of weights. -/
theorem wsum_m (W : List Int) (hl : W.length ≤ 9223372036854775807) : Means true Tryd.prog 63 [il W] (ii (wsum W)) := by
  refine means_fn true 28 [.tmp 2] Tryd.func63 rfl rfl rfl (by simp) (by decide) rfl fun X hX => ?_
  (repeat (first | refine awp_seq ?_ | refine awp_block ?_ | ((first | refine awp_runG [0, 2, 3, 5, 6, 7, 8, 9, 22] hX ?_ | refine awp_drawnG [0, 2, 3, 5, 6, 7, 8, 9, 22] hX mixed ?_ | refine awp_ret ?_ | refine awp_skip ?_ | refine awp_exit ?_); (simp [go_sem]; try (refine ⟨by kernel_rfl, ?_⟩)))))
  refine awp_loop (fun n : Nat => ⟨mkE [(0, il W), (3, ii (sumL (W.take n))), (6, il W), (7, ii W.length), (8, ii n)], []⟩) (fun n => n ≤ W.length ∧ (W.take n).all inW = true ∧ (0 < n → W.length ≤ 60)) (fun n => W.length - n) 0 ?_ ?_ ?_
  · refine sub_of _ [] (by simp [go_sem]) ?_
    simp [go_sem]
  · simp
  · rintro n ⟨hn, hk, h60⟩
    have hsb := sumW_bd hk
    have htl : (W.take n).length = n := by rw [List.length_take]; omega
    rw [htl] at hsb
    (repeat (first | refine awp_seq ?_ | refine awp_block ?_ | ((first | refine awp_runG [0, 2, 3, 5, 6, 7, 8, 9, 22] hX ?_ | refine awp_drawnG [0, 2, 3, 5, 6, 7, 8, 9, 22] hX mixed ?_ | refine awp_ret ?_ | refine awp_skip ?_ | refine awp_exit ?_); (simp [go_sem]; try (refine ⟨by kernel_rfl, ?_⟩)))))
    refine awp_cond (b := decide (n < W.length)) (by simp [go_sem]) (fun hc => ?_) (fun hc => ?_)
    · simp at hc
      (repeat (first | refine awp_seq ?_ | refine awp_block ?_ | ((first | refine awp_runG [0, 2, 3, 5, 6, 7, 8, 9, 22] hX ?_ | refine awp_drawnG [0, 2, 3, 5, 6, 7, 8, 9, 22] hX mixed ?_ | refine awp_ret ?_ | refine awp_skip ?_ | refine awp_exit ?_); (simp [go_sem, hc]; try (refine ⟨by kernel_rfl, ?_⟩)))))
      refine awp_cond (b := !inW W[n] || decide (60 < W.length)) (by simp [go_sem, inW]; rw [Bool.eq_iff_iff]; simp; try omega) (fun hd => ?_) (fun hd => ?_)
      · have e : wsum W = 0 := by
          simp at hd
          rcases hd with hd | hd
          · exact okW_bad hc hd
          · unfold wsum; rw [if_neg]; intro q; have := okW_len q; omega
        rw [e]
        (repeat (first | refine awp_seq ?_ | refine awp_block ?_ | ((first | refine awp_runG [0, 2, 3, 5, 6, 7, 8, 9, 22] hX ?_ | refine awp_drawnG [0, 2, 3, 5, 6, 7, 8, 9, 22] hX mixed ?_ | refine awp_ret ?_ | refine awp_skip ?_ | refine awp_exit ?_); (simp [go_sem]; try (refine ⟨by kernel_rfl, ?_⟩)))))
      · simp at hd
        have hwb := inW_iff.1 hd.1
        have e := sumL_succ hc
        have hw := w64 (x := sumL (W.take n) + W[n]) (by omega) (by omega)
        (repeat (first | refine awp_seq ?_ | refine awp_block ?_ | ((first | refine awp_runG [0, 2, 3, 5, 6, 7, 8, 9, 22] hX ?_ | refine awp_drawnG [0, 2, 3, 5, 6, 7, 8, 9, 22] hX mixed ?_ | refine awp_ret ?_ | refine awp_skip ?_ | refine awp_exit ?_); (simp [go_sem, hw]; try (refine ⟨by kernel_rfl, ?_⟩)))))
        have hwn := w64 (x := (n : Int) + 1) (by omega) (by omega)
        try (simp [go_sem, hwn]; try (refine ⟨by kernel_rfl, ?_⟩))
        refine ⟨n + 1, ⟨by omega, List.all_eq_true.1 (all_succ hc hk hd.1), fun _ => hd.2⟩, by omega, ?_⟩
        rw [e]
        refine sub_of _ [] (by simp [go_sem]) ?_
        simp [go_sem, hwn]
    · have : n = W.length := by simp at hc; omega
      subst this
      rw [List.take_length] at hk ⊢
      have e : wsum W = sumL W := by
        unfold wsum
        by_cases hl60 : W.length ≤ 60
        · rw [if_pos]; simp [okW, hk, hl60]
        · exfalso; have := h60 (by omega); omega
      rw [e]
      (repeat (first | refine awp_seq ?_ | refine awp_block ?_ | ((first | refine awp_runG [0, 2, 3, 5, 6, 7, 8, 9, 22] hX ?_ | refine awp_drawnG [0, 2, 3, 5, 6, 7, 8, 9, 22] hX mixed ?_ | refine awp_ret ?_ | refine awp_skip ?_ | refine awp_exit ?_); (simp [go_sem]; try (refine ⟨by kernel_rfl, ?_⟩)))))

/-- The reference's. -/
theorem rsum_m (W : List Int) (hl : W.length ≤ 9223372036854775807) : Means true Tryd.prog 70 [il W] (ii (wsum W)) := by
  refine means_fn true 34 [.tmp 2] Tryd.func70 rfl rfl rfl (by simp) (by decide) rfl fun X hX => ?_
  (repeat (first | refine awp_seq ?_ | refine awp_block ?_ | ((first | refine awp_runG [0, 2, 3, 4, 8, 26] hX ?_ | refine awp_drawnG [0, 2, 3, 4, 8, 26] hX mixed ?_ | refine awp_ret ?_ | refine awp_skip ?_ | refine awp_exit ?_); (simp [go_sem]; try (refine ⟨by kernel_rfl, ?_⟩)))))
  refine awp_loop (fun n : Nat => ⟨mkE [(0, il W), (3, ii (sumL (W.take n))), (4, ii n)], []⟩) (fun n => n ≤ W.length ∧ (W.take n).all inW = true ∧ n ≤ 60) (fun n => W.length - n) 0 ?_ ?_ ?_
  · refine sub_of _ [] (by simp [go_sem]) ?_
    simp [go_sem]
  · simp
  · rintro n ⟨hn, hk, h60⟩
    have hsb := sumW_bd hk
    have htl : (W.take n).length = n := by rw [List.length_take]; omega
    rw [htl] at hsb
    (repeat (first | refine awp_seq ?_ | refine awp_block ?_ | ((first | refine awp_runG [0, 2, 3, 4, 8, 26] hX ?_ | refine awp_drawnG [0, 2, 3, 4, 8, 26] hX mixed ?_ | refine awp_ret ?_ | refine awp_skip ?_ | refine awp_exit ?_); (simp [go_sem]; try (refine ⟨by kernel_rfl, ?_⟩)))))
    refine awp_cond (b := decide (n < W.length)) (by simp [go_sem]) (fun hc => ?_) (fun hc => ?_)
    · simp at hc
      (repeat (first | refine awp_seq ?_ | refine awp_block ?_ | ((first | refine awp_runG [0, 2, 3, 4, 8, 26] hX ?_ | refine awp_drawnG [0, 2, 3, 4, 8, 26] hX mixed ?_ | refine awp_ret ?_ | refine awp_skip ?_ | refine awp_exit ?_); (simp [go_sem, hc]; try (refine ⟨by kernel_rfl, ?_⟩)))))
      refine awp_cond (b := !inW W[n] || decide (60 ≤ n)) (by simp [go_sem, inW, hc]; rw [Bool.eq_iff_iff]; simp; try omega) (fun hd => ?_) (fun hd => ?_)
      · have e : wsum W = 0 := by
          simp at hd
          rcases hd with hd | hd
          · exact okW_bad hc hd
          · unfold wsum; rw [if_neg]; intro q; have := okW_len q; omega
        rw [e]
        (repeat (first | refine awp_seq ?_ | refine awp_block ?_ | ((first | refine awp_runG [0, 2, 3, 4, 8, 26] hX ?_ | refine awp_drawnG [0, 2, 3, 4, 8, 26] hX mixed ?_ | refine awp_ret ?_ | refine awp_skip ?_ | refine awp_exit ?_); (simp [go_sem]; try (refine ⟨by kernel_rfl, ?_⟩)))))
      · simp at hd
        have hwb := inW_iff.1 hd.1
        have e := sumL_succ hc
        have hw := w64 (x := sumL (W.take n) + W[n]) (by omega) (by omega)
        have hwn := w64 (x := (n : Int) + 1) (by omega) (by omega)
        (repeat (first | refine awp_seq ?_ | refine awp_block ?_ | ((first | refine awp_runG [0, 2, 3, 4, 8, 26] hX ?_ | refine awp_drawnG [0, 2, 3, 4, 8, 26] hX mixed ?_ | refine awp_ret ?_ | refine awp_skip ?_ | refine awp_exit ?_); (simp [go_sem, hc, hw, hwn]; try (refine ⟨by kernel_rfl, ?_⟩)))))
        refine ⟨n + 1, ⟨by omega, List.all_eq_true.1 (all_succ hc hk hd.1), by omega⟩, by omega, ?_⟩
        rw [e]
        refine sub_of _ [] (by simp [go_sem]) ?_
        simp [go_sem]
    · have : n = W.length := by simp at hc; omega
      subst this
      rw [List.take_length] at hk ⊢
      have e : wsum W = sumL W := by
        unfold wsum
        rw [if_pos]; simp [okW, hk, h60]
      rw [e]
      (repeat (first | refine awp_seq ?_ | refine awp_block ?_ | ((first | refine awp_runG [0, 2, 3, 4, 8, 26] hX ?_ | refine awp_drawnG [0, 2, 3, 4, 8, 26] hX mixed ?_ | refine awp_ret ?_ | refine awp_skip ?_ | refine awp_exit ?_); (simp [go_sem]; try (refine ⟨by kernel_rfl, ?_⟩)))))

theorem amount_m (n : Int) : Means true Tryd.prog 64 [ii n] (bb (isAm n)) := by
  refine means_fn true 9 [.tmp 2] Tryd.func64 rfl rfl rfl (by simp) (by decide) rfl fun X hX => ?_
  (repeat (first | refine awp_seq ?_ | refine awp_block ?_ | ((first | refine awp_runG [0, 2] hX ?_ | refine awp_drawnG [0, 2] hX mixed ?_ | refine awp_ret ?_ | refine awp_skip ?_ | refine awp_exit ?_); (simp [go_sem]; try (refine ⟨by kernel_rfl, ?_⟩)))))
  simp [isAm]
theorem ramount_m (n : Int) : Means true Tryd.prog 71 [ii n] (bb (isAm n)) := by
  refine means_fn true 9 [.tmp 2] Tryd.func71 rfl rfl rfl (by simp) (by decide) rfl fun X hX => ?_
  (repeat (first | refine awp_seq ?_ | refine awp_block ?_ | ((first | refine awp_runG [0, 2] hX ?_ | refine awp_drawnG [0, 2] hX mixed ?_ | refine awp_ret ?_ | refine awp_skip ?_ | refine awp_exit ?_); (simp [go_sem]; try (refine ⟨by kernel_rfl, ?_⟩)))))
  simp [isAm]
theorem quota_m (n w s : Int) (hn : 0 ≤ n ∧ n ≤ 1099511627776) (hw : 0 ≤ w ∧ w ≤ 1048576) (hs : 0 < s ∧ s ≤ 62914560) : Means true Tryd.prog 65 [ii n, ii w, ii s] (.tup [ii (n * w / s), ii (n * w % s)]) := by
  obtain ⟨a1, a2, a3, a4, a5, a6, a7, a8, a9, a10⟩ := quo_bd hn hw hs
  obtain ⟨e1, e2⟩ := quo_split (n := n) (w := w) hs.1
  have t1 : n.tdiv s = n / s := Int.tdiv_eq_ediv_of_nonneg hn.1
  have t2 : n.tmod s = n % s := Int.tmod_eq_emod_of_nonneg hn.1
  have t3 : (n % s * w).tdiv s = n % s * w / s := Int.tdiv_eq_ediv_of_nonneg a7
  have t4 : (n % s * w).tmod s = n % s * w % s := Int.tmod_eq_emod_of_nonneg a7
  have m1 := Int.emod_nonneg (n % s * w) (show s ≠ 0 by omega)
  have m2 := Int.emod_lt_of_pos (n % s * w) hs.1
  rw [← e1, ← e2]
  have hs0 : s ≠ 0 := by omega
  have w1 := w64 (x := n / s) (by omega) (by omega)
  have w2 := w64 (x := n % s) (by omega) (by omega)
  have w3 := w64 (x := n / s * w) (by omega) (by omega)
  have w4 := w64 (x := n % s * w) (by omega) (by omega)
  have w5 := w64 (x := n % s * w / s) (by omega) (by omega)
  have w6 := w64 (x := n % s * w % s) (by omega) (by omega)
  have w7 := w64 (x := n / s * w + n % s * w / s) (by omega) (by omega)
  refine means_fn true 30 [.tmp 6, .tmp 7] Tryd.func65 rfl rfl rfl (by simp) (by decide) rfl fun X hX => ?_
  (repeat (first | refine awp_seq ?_ | refine awp_block ?_ | ((first | refine awp_runG [0, 1, 2, 6, 7, 8, 9] hX ?_ | refine awp_drawnG [0, 1, 2, 6, 7, 8, 9] hX mixed ?_ | refine awp_ret ?_ | refine awp_skip ?_ | refine awp_exit ?_); (simp [go_sem, t1, t2, t3, t4, hs0, w1, w2, w3, w4, w5, w6, w7]; try (refine ⟨by kernel_rfl, ?_⟩)))))
theorem rfloor_m (n w s : Int) (hn : 0 ≤ n ∧ n ≤ 1099511627776) (hw : 0 ≤ w ∧ w ≤ 1048576) (hs : 0 < s ∧ s ≤ 62914560) : Means true Tryd.prog 72 [ii n, ii w, ii s] (ii (n * w / s)) := by
  obtain ⟨a1, a2, a3, a4, a5, a6, a7, a8, a9, a10⟩ := quo_bd hn hw hs
  obtain ⟨e1, e2⟩ := quo_split (n := n) (w := w) hs.1
  have t1 : n.tdiv s = n / s := Int.tdiv_eq_ediv_of_nonneg hn.1
  have t2 : n.tmod s = n % s := Int.tmod_eq_emod_of_nonneg hn.1
  have t3 : (n % s * w).tdiv s = n % s * w / s := Int.tdiv_eq_ediv_of_nonneg a7
  rw [← e1]
  have hs0 : s ≠ 0 := by omega
  have w1 := w64 (x := n / s) (by omega) (by omega)
  have w2 := w64 (x := n % s) (by omega) (by omega)
  have w3 := w64 (x := n / s * w) (by omega) (by omega)
  have w4 := w64 (x := n % s * w) (by omega) (by omega)
  have w5 := w64 (x := n % s * w / s) (by omega) (by omega)
  have w7 := w64 (x := n / s * w + n % s * w / s) (by omega) (by omega)
  refine means_fn true 20 [.tmp 6] Tryd.func72 rfl rfl rfl (by simp) (by decide) rfl fun X hX => ?_
  (repeat (first | refine awp_seq ?_ | refine awp_block ?_ | ((first | refine awp_runG [0, 1, 2, 6] hX ?_ | refine awp_drawnG [0, 1, 2, 6] hX mixed ?_ | refine awp_ret ?_ | refine awp_skip ?_ | refine awp_exit ?_); (simp [go_sem, t1, t2, t3, hs0, w1, w2, w3, w4, w5, w7]; try (refine ⟨by kernel_rfl, ?_⟩)))))
theorem rrest_m (n w s : Int) (hn : 0 ≤ n ∧ n ≤ 1099511627776) (hw : 0 ≤ w ∧ w ≤ 1048576) (hs : 0 < s ∧ s ≤ 62914560) : Means true Tryd.prog 73 [ii n, ii w, ii s] (ii (n * w % s)) := by
  obtain ⟨a1, a2, a3, a4, a5, a6, a7, a8, a9, a10⟩ := quo_bd hn hw hs
  obtain ⟨e1, e2⟩ := quo_split (n := n) (w := w) hs.1
  have t2 : n.tmod s = n % s := Int.tmod_eq_emod_of_nonneg hn.1
  have t4 : (n % s * w).tmod s = n % s * w % s := Int.tmod_eq_emod_of_nonneg a7
  have m1 := Int.emod_nonneg (n % s * w) (show s ≠ 0 by omega)
  have m2 := Int.emod_lt_of_pos (n % s * w) hs.1
  rw [← e2]
  have hs0 : s ≠ 0 := by omega
  have w2 := w64 (x := n % s) (by omega) (by omega)
  have w4 := w64 (x := n % s * w) (by omega) (by omega)
  have w6 := w64 (x := n % s * w % s) (by omega) (by omega)
  refine means_fn true 14 [.tmp 6] Tryd.func73 rfl rfl rfl (by simp) (by decide) rfl fun X hX => ?_
  (repeat (first | refine awp_seq ?_ | refine awp_block ?_ | ((first | refine awp_runG [0, 1, 2, 6] hX ?_ | refine awp_drawnG [0, 1, 2, 6] hX mixed ?_ | refine awp_ret ?_ | refine awp_skip ?_ | refine awp_exit ?_); (simp [go_sem, t2, t4, hs0, w2, w4, w6]; try (refine ⟨by kernel_rfl, ?_⟩)))))

end Go.Proofs.YtjgkjenbgadacaaDoor
