/-
  Layer 37: weights, rates, premiums.
-/
import Derived.Test.YtlcmmaokfbjojaaPreP
import Derived.Test.YtlcmmaokfbjojaaFracX
import Derived.Test.YtlcmmaokfbjojaaSplI
set_option linter.all false
namespace Go.Proofs.Ytlcmmaokfbjojaa
open Go.RowKit Go.Ab
attribute [local irreducible] AWP Go.Ab.Sub Means MeansH CallK CallG CallT CallGT CallU

theorem min_m (L : List Int) (hl : L.length ≤ 9223372036854775807) (h0 : 0 < L.length) : Means true Try.prog 37 [il L] (ii (mnL L)) := by
  refine means_fn true 25 [.tmp 2] Try.func37 rfl rfl rfl (by simp) (by decide) rfl fun X hX => ?_
  (repeat (first | refine awp_seq ?_ | refine awp_block ?_ | ((first | refine awp_runG [0, 2, 3, 4, 7, 15] hX ?_ | refine awp_drawnG [0, 2, 3, 4, 7, 15] hX mixed ?_ | refine awp_ret ?_ | refine awp_skip ?_ | refine awp_exit ?_); (simp [go_sem, h0]; try (refine ⟨by kernel_rfl, ?_⟩)))))
  refine awp_cond (b := false) (by simp [go_sem]; try omega) (fun hb => by cases hb) (fun _ => ?_)
  (repeat (first | refine awp_seq ?_ | refine awp_block ?_ | ((first | refine awp_runG [0, 2, 3, 4, 7, 15] hX ?_ | refine awp_drawnG [0, 2, 3, 4, 7, 15] hX mixed ?_ | refine awp_ret ?_ | refine awp_skip ?_ | refine awp_exit ?_); (simp [go_sem, h0]; try (refine ⟨by kernel_rfl, ?_⟩)))))
  refine awp_loop (fun k : Nat => ⟨mkE [(0, il L), (3, ii (mnL (L.take k))), (4, ii k)], []⟩) (fun k => 1 ≤ k ∧ k ≤ L.length) (fun k => L.length - k) 1 ?_ ?_ ?_
  · have e : mnL (L.take 1) = L[0] := by cases L with
      | nil => simp at h0
      | cons x l => rfl
    rw [e]
    refine sub_of _ [] (by simp [go_sem]) ?_
    simp [go_sem]
  · omega
  · rintro k ⟨h1, h2⟩
    (repeat (first | refine awp_seq ?_ | refine awp_block ?_ | ((first | refine awp_runG [0, 2, 3, 4, 7, 15] hX ?_ | refine awp_drawnG [0, 2, 3, 4, 7, 15] hX mixed ?_ | refine awp_ret ?_ | refine awp_skip ?_ | refine awp_exit ?_); (simp [go_sem]; try (refine ⟨by kernel_rfl, ?_⟩)))))
    refine awp_cond (b := decide (k < L.length)) (by simp [go_sem]) (fun hc => ?_) (fun hc => ?_)
    · simp at hc
      have e := mnL_succ hc (by omega)
      have wk := w64 (x := (k : Int) + 1) (by omega) (by omega)
      (repeat (first | refine awp_seq ?_ | refine awp_block ?_ | ((first | refine awp_runG [0, 2, 3, 4, 7, 15] hX ?_ | refine awp_drawnG [0, 2, 3, 4, 7, 15] hX mixed ?_ | refine awp_ret ?_ | refine awp_skip ?_ | refine awp_exit ?_); (simp [go_sem, hc, wk]; try (refine ⟨by kernel_rfl, ?_⟩)))))
      refine ⟨k + 1, by omega, by omega, ?_⟩
      rw [e]
      refine sub_of _ [] (by simp [go_sem]) ?_
      simp [go_sem]
    · have : k = L.length := by simp at hc; omega
      subst this
      rw [List.take_length]
      (repeat (first | refine awp_seq ?_ | refine awp_block ?_ | ((first | refine awp_runG [0, 2, 3, 4, 7, 15] hX ?_ | refine awp_drawnG [0, 2, 3, 4, 7, 15] hX mixed ?_ | refine awp_ret ?_ | refine awp_skip ?_ | refine awp_exit ?_); (simp [go_sem]; try (refine ⟨by kernel_rfl, ?_⟩)))))
theorem max_m (L : List Int) (hl : L.length ≤ 9223372036854775807) (h0 : 0 < L.length) : Means true Try.prog 38 [il L] (ii (mxL L)) := by
  refine means_fn true 25 [.tmp 2] Try.func38 rfl rfl rfl (by simp) (by decide) rfl fun X hX => ?_
  (repeat (first | refine awp_seq ?_ | refine awp_block ?_ | ((first | refine awp_runG [0, 2, 3, 4, 7, 15] hX ?_ | refine awp_drawnG [0, 2, 3, 4, 7, 15] hX mixed ?_ | refine awp_ret ?_ | refine awp_skip ?_ | refine awp_exit ?_); (simp [go_sem, h0]; try (refine ⟨by kernel_rfl, ?_⟩)))))
  refine awp_cond (b := false) (by simp [go_sem]; try omega) (fun hb => by cases hb) (fun _ => ?_)
  (repeat (first | refine awp_seq ?_ | refine awp_block ?_ | ((first | refine awp_runG [0, 2, 3, 4, 7, 15] hX ?_ | refine awp_drawnG [0, 2, 3, 4, 7, 15] hX mixed ?_ | refine awp_ret ?_ | refine awp_skip ?_ | refine awp_exit ?_); (simp [go_sem, h0]; try (refine ⟨by kernel_rfl, ?_⟩)))))
  refine awp_loop (fun k : Nat => ⟨mkE [(0, il L), (3, ii (mxL (L.take k))), (4, ii k)], []⟩) (fun k => 1 ≤ k ∧ k ≤ L.length) (fun k => L.length - k) 1 ?_ ?_ ?_
  · have e : mxL (L.take 1) = L[0] := by cases L with
      | nil => simp at h0
      | cons x l => rfl
    rw [e]
    refine sub_of _ [] (by simp [go_sem]) ?_
    simp [go_sem]
  · omega
  · rintro k ⟨h1, h2⟩
    (repeat (first | refine awp_seq ?_ | refine awp_block ?_ | ((first | refine awp_runG [0, 2, 3, 4, 7, 15] hX ?_ | refine awp_drawnG [0, 2, 3, 4, 7, 15] hX mixed ?_ | refine awp_ret ?_ | refine awp_skip ?_ | refine awp_exit ?_); (simp [go_sem]; try (refine ⟨by kernel_rfl, ?_⟩)))))
    refine awp_cond (b := decide (k < L.length)) (by simp [go_sem]) (fun hc => ?_) (fun hc => ?_)
    · simp at hc
      have e := mxL_succ hc (by omega)
      have wk := w64 (x := (k : Int) + 1) (by omega) (by omega)
      (repeat (first | refine awp_seq ?_ | refine awp_block ?_ | ((first | refine awp_runG [0, 2, 3, 4, 7, 15] hX ?_ | refine awp_drawnG [0, 2, 3, 4, 7, 15] hX mixed ?_ | refine awp_ret ?_ | refine awp_skip ?_ | refine awp_exit ?_); (simp [go_sem, hc, wk]; try (refine ⟨by kernel_rfl, ?_⟩)))))
      refine ⟨k + 1, by omega, by omega, ?_⟩
      rw [e]
      refine sub_of _ [] (by simp [go_sem]) ?_
      simp [go_sem]
    · have : k = L.length := by simp at hc; omega
      subst this
      rw [List.take_length]
      (repeat (first | refine awp_seq ?_ | refine awp_block ?_ | ((first | refine awp_runG [0, 2, 3, 4, 7, 15] hX ?_ | refine awp_drawnG [0, 2, 3, 4, 7, 15] hX mixed ?_ | refine awp_ret ?_ | refine awp_skip ?_ | refine awp_exit ?_); (simp [go_sem]; try (refine ⟨by kernel_rfl, ?_⟩)))))

set_option maxHeartbeats 4000000 in
set_option maxRecDepth 20000 in
theorem weigh_m (C : List Int) (hl : C.length ≤ 9223372036854775807) (b : Int) : Means true Try.prog 21 [il C, ii b] (.tup [il (if rightP C b then wts C else []), ii (if rightP C b then sumL (wts C) else 0), ii (if rightP C b then b * C.length else 0), bb (rightP C b)]) := by
  cases hr : rightP C b with
  | false =>
    rw [if_neg (by simp), if_neg (by simp), if_neg (by simp)]
    by_cases h0 : C.length = 0
    · have hC : C = [] := List.length_eq_zero_iff.1 h0
      subst hC
      refine means_fn true 60 [.tmp 4, .tmp 5, .tmp 6, .tmp 7] Try.func21 rfl rfl rfl (by simp) (by decide) rfl fun X hX => ?_
      (repeat (first | refine awp_seq ?_ | refine awp_block ?_ | ((first | refine awp_runG [0, 1, 4, 5, 6, 7, 8, 10, 38, 39, 40, 41, 42] hX ?_ | refine awp_drawnG [0, 1, 4, 5, 6, 7, 8, 10, 38, 39, 40, 41, 42] hX mixed ?_ | refine awp_ret ?_ | refine awp_skip ?_ | refine awp_exit ?_); (simp [go_sem]; try (refine ⟨by kernel_rfl, ?_⟩)))))
      first | refine callG_skip rfl ?_ | refine callGT_skip rfl ?_
      try (simp [go_sem]; try (refine ⟨by kernel_rfl, ?_⟩))
      first | refine callG_skip rfl ?_ | refine callGT_skip rfl ?_
      try (simp [go_sem]; try (refine ⟨by kernel_rfl, ?_⟩))
      refine awp_cond (b := true) (by simp [go_sem]) (fun _ => ?_) (fun h => by cases h)
      (repeat (first | refine awp_seq ?_ | refine awp_block ?_ | ((first | refine awp_runG [0, 1, 4, 5, 6, 7, 8, 10, 38, 39, 40, 41, 42] hX ?_ | refine awp_drawnG [0, 1, 4, 5, 6, 7, 8, 10, 38, 39, 40, 41, 42] hX mixed ?_ | refine awp_ret ?_ | refine awp_skip ?_ | refine awp_exit ?_); (simp [go_sem]; try (refine ⟨by kernel_rfl, ?_⟩)))))
    · have hp : 0 < C.length := by omega
      have c1 := min_m C hl hp
      have c2 := max_m C hl hp
      have hmm := all_mm hp
      have htd : Int.tdiv 1099511627776 (C.length : Int) = 1099511627776 / (C.length : Int) := Int.tdiv_eq_ediv_of_nonneg (by omega)
      have hd0 := Int.ediv_nonneg (a := 1099511627776) (b := (C.length : Int)) (by omega) (by omega)
      have hd1 := Int.ediv_le_self (C.length : Int) (show (0 : Int) ≤ 1099511627776 by omega)
      have w1 := w64 (x := 1099511627776 / (C.length : Int)) (by omega) (by omega)
      have hn0 : ¬ (C.length : Int) = 0 := by omega
      have fin : (decide ((60 : Int) < C.length) || (decide (b < 0) || (decide (1099511627776 / (C.length : Int) < b) || (decide (mnL C < 0) || decide (1000 < mxL C))))) = true := by
        rw [hmm]
        simp only [rightP, okB] at hr
        rw [Bool.eq_false_iff] at hr
        refine Classical.byContradiction fun q => hr ?_
        simp at q ⊢
        exact ⟨⟨⟨⟨by omega, q.1⟩, q.2.1⟩, q.2.2.1⟩, q.2.2.2⟩
      refine means_fn true 60 [.tmp 4, .tmp 5, .tmp 6, .tmp 7] Try.func21 rfl rfl rfl (by simp) (by decide) rfl fun X hX => ?_
      (repeat (first | refine awp_seq ?_ | refine awp_block ?_ | ((first | refine awp_runG [0, 1, 4, 5, 6, 7, 8, 10, 38, 39, 40, 41, 42] hX ?_ | refine awp_drawnG [0, 1, 4, 5, 6, 7, 8, 10, 38, 39, 40, 41, 42] hX mixed ?_ | refine awp_ret ?_ | refine awp_skip ?_ | refine awp_exit ?_); (simp [go_sem, htd, w1, hn0, h0]; try (refine ⟨by kernel_rfl, ?_⟩)))))
      first | refine callG_intro (fun hg => c1) rfl (by simp [go_sem]) rfl ?_ | refine callGT_intro (fun hg => c1) rfl (by simp [go_sem]) rfl ?_
      try (simp [go_sem, hn0, h0]; try (refine ⟨by kernel_rfl, ?_⟩))
      first | refine callG_intro (fun hg => c2) rfl (by simp [go_sem]) rfl ?_ | refine callGT_intro (fun hg => c2) rfl (by simp [go_sem]) rfl ?_
      try (simp [go_sem, hn0, h0]; try (refine ⟨by kernel_rfl, ?_⟩))
      try (repeat refine And.intro (by first | omega | (unfold maxLen; omega) | kernel_rfl | (refine ⟨by first | omega | (unfold maxLen; omega), by first | omega | (unfold maxLen; omega)⟩) | grind) ?_)
      refine awp_cond (b := true) (by simp [go_sem, hn0, h0, Bool.or_assoc]; simpa using fin) (fun _ => ?_) (fun h => by cases h)
      (repeat (first | refine awp_seq ?_ | refine awp_block ?_ | ((first | refine awp_runG [0, 1, 4, 5, 6, 7, 8, 10, 38, 39, 40, 41, 42] hX ?_ | refine awp_drawnG [0, 1, 4, 5, 6, 7, 8, 10, 38, 39, 40, 41, 42] hX mixed ?_ | refine awp_ret ?_ | refine awp_skip ?_ | refine awp_exit ?_); (simp [go_sem]; try (refine ⟨by kernel_rfl, ?_⟩)))))
  | true =>
    rw [if_pos rfl, if_pos rfl, if_pos rfl]
    have R := right_RP hr
    have hp : 0 < C.length := by have := R.len; omega
    have h0 : ¬ C.length = 0 := by omega
    have c1 := min_m C hl hp
    have c2 := max_m C hl hp
    have hmm := all_mm hp
    have htd : Int.tdiv 1099511627776 (C.length : Int) = 1099511627776 / (C.length : Int) := Int.tdiv_eq_ediv_of_nonneg (by omega)
    have hd0 := Int.ediv_nonneg (a := 1099511627776) (b := (C.length : Int)) (by omega) (by omega)
    have hd1 := Int.ediv_le_self (C.length : Int) (show (0 : Int) ≤ 1099511627776 by omega)
    have w1 := w64 (x := 1099511627776 / (C.length : Int)) (by omega) (by omega)
    have hn0 : ¬ (C.length : Int) = 0 := by omega
    have fin : (decide ((60 : Int) < C.length) || (decide (b < 0) || (decide (1099511627776 / (C.length : Int) < b) || (decide (mnL C < 0) || decide (1000 < mxL C))))) = false := by
      rw [hmm]
      simp only [rightP, okB, Bool.and_eq_true, decide_eq_true_eq] at hr
      obtain ⟨⟨⟨⟨r1, r2⟩, r3⟩, r4⟩, r5⟩ := hr
      rw [r5]
      simp
      omega
    have hsb := fun k => (wts_bd (C := C.take k) (List.all_eq_true.2 fun x hx => List.all_eq_true.1 R.all x (List.mem_of_mem_take hx)))
    have hcb := R.coin
    have wcc := w64 (x := b * C.length) (by omega) (by omega)
    have hlen := R.len
    refine means_fn true 60 [.tmp 4, .tmp 5, .tmp 6, .tmp 7] Try.func21 rfl rfl rfl (by simp) (by decide) rfl fun X hX => ?_
    (repeat (first | refine awp_seq ?_ | refine awp_block ?_ | ((first | refine awp_runG [0, 1, 4, 5, 6, 7, 8, 10, 38, 39, 40, 41, 42] hX ?_ | refine awp_drawnG [0, 1, 4, 5, 6, 7, 8, 10, 38, 39, 40, 41, 42] hX mixed ?_ | refine awp_ret ?_ | refine awp_skip ?_ | refine awp_exit ?_); (simp [go_sem, htd, w1, hn0, h0]; try (refine ⟨by kernel_rfl, ?_⟩)))))
    first | refine callG_intro (fun hg => c1) rfl (by simp [go_sem]) rfl ?_ | refine callGT_intro (fun hg => c1) rfl (by simp [go_sem]) rfl ?_
    try (simp [go_sem, hn0, h0]; try (refine ⟨by kernel_rfl, ?_⟩))
    first | refine callG_intro (fun hg => c2) rfl (by simp [go_sem]) rfl ?_ | refine callGT_intro (fun hg => c2) rfl (by simp [go_sem]) rfl ?_
    try (simp [go_sem, hn0, h0]; try (refine ⟨by kernel_rfl, ?_⟩))
    try (repeat refine And.intro (by first | omega | (unfold maxLen; omega) | kernel_rfl | (refine ⟨by first | omega | (unfold maxLen; omega), by first | omega | (unfold maxLen; omega)⟩) | grind) ?_)
    refine awp_cond (b := false) (by simp [go_sem, hn0, h0, Bool.or_assoc]; simpa using fin) (fun h => by cases h) (fun _ => ?_)
    (repeat (first | refine awp_seq ?_ | refine awp_block ?_ | ((first | refine awp_runG [0, 1, 4, 5, 6, 7, 8, 10, 38, 39, 40, 41, 42] hX ?_ | refine awp_drawnG [0, 1, 4, 5, 6, 7, 8, 10, 38, 39, 40, 41, 42] hX mixed ?_ | refine awp_ret ?_ | refine awp_skip ?_ | refine awp_exit ?_); (simp [go_sem]; try (refine ⟨by kernel_rfl, ?_⟩)))))
    refine awp_loop (fun k : Nat => ⟨mkE [(1, ii b), (4, .ow 0), (5, ii (sumL (wts (C.take k)))), (8, ii C.length), (39, il C), (40, ii C.length), (41, ii k)], [rowI (wts (C.take k))]⟩) (fun k => k ≤ C.length) (fun k => C.length - k) 0 ?_ ?_ ?_
    · refine sub_of _ [.birth 3 1] (by simp [go_sem, wts]) ?_
      simp [go_sem, wts]
    · omega
    · intro k hk
      have hll : (wts (C.take k)).length = k := by rw [wts_len, List.length_take]; omega
      have hb1 := hsb k
      have hlt : (C.take k).length = k := by rw [List.length_take]; omega
      rw [hlt] at hb1
      (repeat (first | refine awp_seq ?_ | refine awp_block ?_ | ((first | refine awp_runG [0, 1, 4, 5, 6, 7, 8, 10, 38, 39, 40, 41, 42] hX ?_ | refine awp_drawnG [0, 1, 4, 5, 6, 7, 8, 10, 38, 39, 40, 41, 42] hX mixed ?_ | refine awp_ret ?_ | refine awp_skip ?_ | refine awp_exit ?_); (simp [go_sem]; try (refine ⟨by kernel_rfl, ?_⟩)))))
      refine awp_cond (b := decide (k < C.length)) (by simp [go_sem]) (fun hc => ?_) (fun hc => ?_)
      · simp at hc
        have hs := wts_succ hc
        have hcr := R.mem hc
        have hss : sumL (wts (C.take (k + 1))) = sumL (wts (C.take k)) + (C[k] + 1) := by rw [hs, sumL_app]; simp
        clear hsb
        obtain ⟨c, hce⟩ : ∃ c, C[k] = c := ⟨_, rfl⟩
        rw [hce] at hcr hs hss
        generalize wts (C.take k) = D at *
        have w2 := w64 (x := c + 1) (by omega) (by omega)
        have w3 := w64 (x := sumL D + (c + 1)) (by omega) (by omega)
        have w4 := w64 (x := (k : Int) + 1) (by omega) (by omega)
        (repeat (first | refine awp_seq ?_ | refine awp_block ?_ | ((first | refine awp_runG [0, 1, 4, 5, 6, 7, 8, 10, 38, 39, 40, 41, 42] hX ?_ | refine awp_drawnG [0, 1, 4, 5, 6, 7, 8, 10, 38, 39, 40, 41, 42] hX mixed ?_ | refine awp_ret ?_ | refine awp_skip ?_ | refine awp_exit ?_); (simp [go_sem, hc, hce, w2, hll]; try (refine ⟨by kernel_rfl, ?_⟩)))))
        try (repeat refine And.intro (by first | omega | (unfold maxLen; omega) | kernel_rfl | (refine ⟨by first | omega | (unfold maxLen; omega), by first | omega | (unfold maxLen; omega)⟩) | grind) ?_)
        try (repeat (first | refine awp_seq ?_ | refine awp_block ?_ | ((first | refine awp_runG [0, 1, 4, 5, 6, 7, 8, 10, 38, 39, 40, 41, 42] hX ?_ | refine awp_drawnG [0, 1, 4, 5, 6, 7, 8, 10, 38, 39, 40, 41, 42] hX mixed ?_ | refine awp_ret ?_ | refine awp_skip ?_ | refine awp_exit ?_); (simp [go_sem, hc, hce, w2, w3, w4, hll]; try (refine ⟨by kernel_rfl, ?_⟩)))))
        refine ⟨k + 1, by omega, by omega, ?_⟩
        rw [hss, hs]
        refine sub_of _ [.old 2 ⟨3, 1, (D ++ [c + 1]).map ii⟩] (by simp [go_sem]) ?_
        simp [go_sem]
        try omega
      · have : k = C.length := by simp at hc; omega
        subst this
        rw [List.take_length]
        (repeat (first | refine awp_seq ?_ | refine awp_block ?_ | ((first | refine awp_runG [0, 1, 4, 5, 6, 7, 8, 10, 38, 39, 40, 41, 42] hX ?_ | refine awp_drawnG [0, 1, 4, 5, 6, 7, 8, 10, 38, 39, 40, 41, 42] hX mixed ?_ | refine awp_ret ?_ | refine awp_skip ?_ | refine awp_exit ?_); (simp [go_sem, wcc]; try (refine ⟨by kernel_rfl, ?_⟩)))))

end Go.Proofs.Ytlcmmaokfbjojaa
