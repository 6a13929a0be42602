/-
  Layer 18: the law SplitGiven.
-/
import Derived.Test.YtoiccjhjfhijpaaSplF
import Derived.Test.YtoiccjhjfhijpaaSplL
set_option linter.all false
namespace Go.Proofs.Ytoiccjhjfhijpaa
open Go.RowKit Go.Ab
attribute [local irreducible] AWP Go.Ab.Sub Means MeansH CallK CallG CallT CallGT CallU

set_option maxHeartbeats 16000000 in
set_option maxRecDepth 20000 in
theorem splitGiven_m (W : List Int) (hl : W.length ≤ 9223372036854775807) (n m : Int) : Means true Try.prog 5 [il W, ii n, ii m] (bb true) := by
  refine means_fn true 166 [.tmp 6] Try.func5 rfl rfl rfl (by simp) (by decide) rfl fun X hX => ?_
  (repeat (first | refine awp_seq ?_ | refine awp_block ?_ | ((first | refine awp_runG [0, 1, 2, 6, 7, 8, 9, 10, 11, 12, 13, 14, 15, 35, 80, 84, 102, 164] hX ?_ | refine awp_drawnG [0, 1, 2, 6, 7, 8, 9, 10, 11, 12, 13, 14, 15, 35, 80, 84, 102, 164] hX mixed ?_ | refine awp_ret ?_ | refine awp_skip ?_ | refine awp_exit ?_); (simp [go_sem]; try (refine ⟨by kernel_rfl, ?_⟩)))))
  first | refine callK_intro (small_m) rfl (by simp [go_sem]) rfl ?_ | refine callT_intro (small_m) rfl (by simp [go_sem]) rfl ?_
  try (simp [go_sem]; try (refine ⟨by kernel_rfl, ?_⟩))
  (repeat (first | refine awp_seq ?_ | refine awp_block ?_ | ((first | refine awp_runG [0, 1, 2, 6, 7, 8, 9, 10, 11, 12, 13, 14, 15, 35, 80, 84, 102, 164] hX ?_ | refine awp_drawnG [0, 1, 2, 6, 7, 8, 9, 10, 11, 12, 13, 14, 15, 35, 80, 84, 102, 164] hX mixed ?_ | refine awp_ret ?_ | refine awp_skip ?_ | refine awp_exit ?_); (simp [go_sem]; try (refine ⟨by kernel_rfl, ?_⟩)))))
  first | refine callK_intro (rsum_m W hl) rfl (by simp [go_sem]) rfl ?_ | refine callT_intro (rsum_m W hl) rfl (by simp [go_sem]) rfl ?_
  try (simp [go_sem]; try (refine ⟨by kernel_rfl, ?_⟩))
  (repeat (first | refine awp_seq ?_ | refine awp_block ?_ | ((first | refine awp_runG [0, 1, 2, 6, 7, 8, 9, 10, 11, 12, 13, 14, 15, 35, 80, 84, 102, 164] hX ?_ | refine awp_drawnG [0, 1, 2, 6, 7, 8, 9, 10, 11, 12, 13, 14, 15, 35, 80, 84, 102, 164] hX mixed ?_ | refine awp_ret ?_ | refine awp_skip ?_ | refine awp_exit ?_); (simp [go_sem]; try (refine ⟨by kernel_rfl, ?_⟩)))))
  first | refine callK_intro (slight_m W hl) rfl (by simp [go_sem]) rfl ?_ | refine callT_intro (slight_m W hl) rfl (by simp [go_sem]) rfl ?_
  try (simp [go_sem]; try (refine ⟨by kernel_rfl, ?_⟩))
  first | refine callG_intro (fun hg => ramount_m n) rfl (by simp [go_sem]) rfl ?_ | refine callGT_intro (fun hg => ramount_m n) rfl (by simp [go_sem]) rfl ?_
  try (simp [go_sem]; try (refine ⟨by kernel_rfl, ?_⟩))
  first | refine callG_intro (fun hg => ramount_m m) rfl (by simp [go_sem]) rfl ?_ | refine callGT_intro (fun hg => ramount_m m) rfl (by simp [go_sem]) rfl ?_
  try (simp [go_sem]; try (refine ⟨by kernel_rfl, ?_⟩))
  refine awp_cond (b := !(decide ((W.length : Int) ≤ 12) && decide (wsum W ≤ 3000)) || decide (wsum W = 0) || !isAm n || !isAm m) (by simp [go_sem, Bool.or_assoc]) (fun hb => ?_) (fun hb => ?_)
  · (repeat (first | refine awp_seq ?_ | refine awp_block ?_ | ((first | refine awp_runG [0, 1, 2, 6, 7, 8, 9, 10, 11, 12, 13, 14, 15, 35, 80, 84, 102, 164] hX ?_ | refine awp_drawnG [0, 1, 2, 6, 7, 8, 9, 10, 11, 12, 13, 14, 15, 35, 80, 84, 102, 164] hX mixed ?_ | refine awp_ret ?_ | refine awp_skip ?_ | refine awp_exit ?_); (simp [go_sem]; try (refine ⟨by kernel_rfl, ?_⟩)))))
  simp at hb
  obtain ⟨⟨⟨⟨hl12, h3k⟩, hs0⟩, hn⟩, hm⟩ := hb
  obtain ⟨hok, hse, hs⟩ := wsum_pos hs0
  have hn2 : 0 ≤ n ∧ n ≤ 1099511627776 := by simpa [isAm] using hn
  have hm2 : 0 ≤ m ∧ m ≤ 1099511627776 := by simpa [isAm] using hm
  have e1 : givenE W n = 0 := by unfold givenE; rw [if_neg (by simp [hs0, hn]), if_neg (by omega)]
  have e2 : givenE W m = 0 := by unfold givenE; rw [if_neg (by simp [hs0, hm]), if_neg (by omega)]
  have c1 := given_ok W n hl e1
  have c2 := given_ok W m hl e2
  have l1 := given_len W n
  have l2 := given_len W m
  have s1 := given_sum hok hs hn2.1
  have s2 := given_sum hok hs hm2.1
  have b1 := fun i (h : i < W.length) => given_bd hok hs hn2.1 h
  have b2 := fun i (h : i < W.length) => given_bd hok hs hm2.1 h
  have nr := fun i (h : i < W.length) => given_near hok hs hn2.1 h
  have mo1 := fun (q : n ≤ m) i (h : i < W.length) => given_mono hok hs hn2.1 q h
  have mo2 := fun (q : m ≤ n) i (h : i < W.length) => given_mono hok hs hm2.1 q h
  have fl := fun i (h : i < W.length) => rfloor_m n W[i] (sumL W) hn2 (okW_mem hok (List.getElem_mem h)) (by omega)
  have rs := fun i (h : i < W.length) => rrest_m n W[i] (sumL W) hn2 (okW_mem hok (List.getElem_mem h)) (by omega)
  have qb := fun i (h : i < W.length) => quo_le (n := n) (w := gt W i) (s := sumL W) hn2.1 ⟨gt_W hok i, W_le hok h⟩ hs
  rw [hse]
  generalize given W n = A at *
  generalize given W m = B at *
  have ab : ∀ x ∈ A, -1125899906842624 ≤ x ∧ x ≤ 1125899906842624 := fun x hx => by
    obtain ⟨i, hi, rfl⟩ := List.getElem_of_mem hx
    have := b1 i (by omega); rw [gt_at hi] at this; omega
  have bb' : ∀ x ∈ B, -1125899906842624 ≤ x ∧ x ≤ 1125899906842624 := fun x hx => by
    obtain ⟨i, hi, rfl⟩ := List.getElem_of_mem hx
    have := b2 i (by omega); rw [gt_at hi] at this; omega
  have t1 := total_m A (by omega) ab
  have t2 := total_m B (by omega) bb'
  rw [s1] at t1
  rw [s2] at t2
  generalize sumL W = s at *
  (repeat (first | refine awp_seq ?_ | refine awp_block ?_ | ((first | refine awp_runG [0, 1, 2, 6, 7, 8, 9, 10, 11, 12, 13, 14, 15, 35, 80, 84, 102, 164] hX ?_ | refine awp_drawnG [0, 1, 2, 6, 7, 8, 9, 10, 11, 12, 13, 14, 15, 35, 80, 84, 102, 164] hX mixed ?_ | refine awp_ret ?_ | refine awp_skip ?_ | refine awp_exit ?_); (simp [go_sem]; try (refine ⟨by kernel_rfl, ?_⟩)))))
  first | refine callK_intro (c1) rfl (by simp [go_sem]) rfl ?_ | refine callT_intro (c1) rfl (by simp [go_sem]) rfl ?_
  try (simp [go_sem]; try (refine ⟨by kernel_rfl, ?_⟩))
  (repeat (first | refine awp_seq ?_ | refine awp_block ?_ | ((first | refine awp_runG [0, 1, 2, 6, 7, 8, 9, 10, 11, 12, 13, 14, 15, 35, 80, 84, 102, 164] hX ?_ | refine awp_drawnG [0, 1, 2, 6, 7, 8, 9, 10, 11, 12, 13, 14, 15, 35, 80, 84, 102, 164] hX mixed ?_ | refine awp_ret ?_ | refine awp_skip ?_ | refine awp_exit ?_); (simp [go_sem]; try (refine ⟨by kernel_rfl, ?_⟩)))))
  first | refine callK_intro (c2) rfl (by simp [go_sem]) rfl ?_ | refine callT_intro (c2) rfl (by simp [go_sem]) rfl ?_
  try (simp [go_sem]; try (refine ⟨by kernel_rfl, ?_⟩))
  (repeat (first | refine awp_seq ?_ | refine awp_block ?_ | ((first | refine awp_runG [0, 1, 2, 6, 7, 8, 9, 10, 11, 12, 13, 14, 15, 35, 80, 84, 102, 164] hX ?_ | refine awp_drawnG [0, 1, 2, 6, 7, 8, 9, 10, 11, 12, 13, 14, 15, 35, 80, 84, 102, 164] hX mixed ?_ | refine awp_ret ?_ | refine awp_skip ?_ | refine awp_exit ?_); (simp [go_sem, l1, l2]; try (refine ⟨by kernel_rfl, ?_⟩)))))
  first | refine callG_intro (fun hg => t1) rfl (by simp [go_sem]) rfl ?_ | refine callGT_intro (fun hg => t1) rfl (by simp [go_sem]) rfl ?_
  try (simp [go_sem, l1, l2]; try (refine ⟨by kernel_rfl, ?_⟩))
  first | refine callG_intro (fun hg => t2) rfl (by simp [go_sem]) rfl ?_ | refine callGT_intro (fun hg => t2) rfl (by simp [go_sem]) rfl ?_
  try (simp [go_sem, l1, l2]; try (refine ⟨by kernel_rfl, ?_⟩))
  refine awp_cond (b := false) (by simp [go_sem, l1, l2]) (fun h => by cases h) (fun _ => ?_)
  (repeat (first | refine awp_seq ?_ | refine awp_block ?_ | ((first | refine awp_runG [0, 1, 2, 6, 7, 8, 9, 10, 11, 12, 13, 14, 15, 35, 80, 84, 102, 164] hX ?_ | refine awp_drawnG [0, 1, 2, 6, 7, 8, 9, 10, 11, 12, 13, 14, 15, 35, 80, 84, 102, 164] hX mixed ?_ | refine awp_ret ?_ | refine awp_skip ?_ | refine awp_exit ?_); (simp [go_sem]; try (refine ⟨by kernel_rfl, ?_⟩)))))
  refine awp_loop (fun k : Nat => ⟨mkE [(0, il W), (1, ii n), (2, ii m), (7, bb true), (8, ii s), (9, il A), (11, il B), (13, ii k)], []⟩) (fun k => k ≤ W.length) (fun k => W.length - k) 0 ?_ ?_ ?_
  · refine sub_of _ [] (by simp [go_sem]) ?_
    simp [go_sem]
  · omega
  · intro k hk
    (repeat (first | refine awp_seq ?_ | refine awp_block ?_ | ((first | refine awp_runG [0, 1, 2, 6, 7, 8, 9, 10, 11, 12, 13, 14, 15, 35, 80, 84, 102, 164] hX ?_ | refine awp_drawnG [0, 1, 2, 6, 7, 8, 9, 10, 11, 12, 13, 14, 15, 35, 80, 84, 102, 164] hX mixed ?_ | refine awp_ret ?_ | refine awp_skip ?_ | refine awp_exit ?_); (simp [go_sem]; try (refine ⟨by kernel_rfl, ?_⟩)))))
    refine awp_cond (b := decide (k < W.length)) (by simp [go_sem]) (fun hc => ?_) (fun hc => ?_)
    · simp at hc
      have hkA : k < A.length := by omega
      have hkB : k < B.length := by omega
      have cf := fl k hc
      have cr := rs k hc
      have r1 := nr k hc
      have r2 := fun q => mo1 q k hc
      have r3 := fun q => mo2 q k hc
      have r4 := qb k hc
      rw [gt_at hc, gt_at hkA] at r1
      rw [gt_at hkA, gt_at hkB] at r2 r3
      rw [gt_at hc] at r4
      obtain ⟨w, hw⟩ : ∃ w, W[k] = w := ⟨_, rfl⟩
      obtain ⟨a, ha⟩ : ∃ a, A[k] = a := ⟨_, rfl⟩
      obtain ⟨b, hbe⟩ : ∃ b, B[k] = b := ⟨_, rfl⟩
      rw [hw] at cf cr r1 r4
      rw [ha] at r1 r2 r3
      rw [hbe] at r2 r3
      obtain ⟨q, hq⟩ : ∃ q, n * w / s = q := ⟨_, rfl⟩
      obtain ⟨r, hr⟩ : ∃ r, n * w % s = r := ⟨_, rfl⟩
      rw [hq] at cf r1 r4
      rw [hr] at cr r1
      have wq := w64 (x := q + 1) (by omega) (by omega)
      have wk := w64 (x := (k : Int) + 1) (by omega) (by omega)
      have fin : ∀ hi : Int, a ≤ hi → (decide (a < q) || decide (hi < a) || (decide (n ≤ m) && decide (b < a)) || (decide (m ≤ n) && decide (a < b)) || (decide (w = 0) && !decide (a = 0))) = false := fun hi h => by
        obtain ⟨p1, p2, p3⟩ := r1
        rw [Bool.eq_false_iff]
        intro hh
        simp at hh
        rcases hh with (((hh | hh) | hh) | hh) | hh
        · omega
        · omega
        · have := r2 hh.1; omega
        · have := r3 hh.1; omega
        · exact hh.2 (p3 hh.1)
      (repeat (first | refine awp_seq ?_ | refine awp_block ?_ | ((first | refine awp_runG [0, 1, 2, 6, 7, 8, 9, 10, 11, 12, 13, 14, 15, 35, 80, 84, 102, 164] hX ?_ | refine awp_drawnG [0, 1, 2, 6, 7, 8, 9, 10, 11, 12, 13, 14, 15, 35, 80, 84, 102, 164] hX mixed ?_ | refine awp_ret ?_ | refine awp_skip ?_ | refine awp_exit ?_); (simp [go_sem, hc, hw]; try (refine ⟨by kernel_rfl, ?_⟩)))))
      first | refine callK_intro (cf) rfl (by simp [go_sem]) rfl ?_ | refine callT_intro (cf) rfl (by simp [go_sem]) rfl ?_
      try (simp [go_sem]; try (refine ⟨by kernel_rfl, ?_⟩))
      (repeat (first | refine awp_seq ?_ | refine awp_block ?_ | ((first | refine awp_runG [0, 1, 2, 6, 7, 8, 9, 10, 11, 12, 13, 14, 15, 35, 80, 84, 102, 164] hX ?_ | refine awp_drawnG [0, 1, 2, 6, 7, 8, 9, 10, 11, 12, 13, 14, 15, 35, 80, 84, 102, 164] hX mixed ?_ | refine awp_ret ?_ | refine awp_skip ?_ | refine awp_exit ?_); (simp [go_sem, hc, hw]; try (refine ⟨by kernel_rfl, ?_⟩)))))
      first | refine callK_intro (cr) rfl (by simp [go_sem]) rfl ?_ | refine callT_intro (cr) rfl (by simp [go_sem]) rfl ?_
      try (simp [go_sem]; try (refine ⟨by kernel_rfl, ?_⟩))
      refine awp_cut ⟨mkE [(0, il W), (1, ii n), (2, ii m), (7, bb true), (8, ii s), (9, il A), (11, il B), (13, ii k), (14, ii q), (15, ii (q + if 0 < r then 1 else 0))], []⟩ ?_ ?_
      · refine awp_cond (b := decide (0 < r)) (by simp [go_sem]) (fun hd => ?_) (fun hd => ?_)
        · simp only [decide_eq_true_eq] at hd
          rw [if_pos hd]
          (repeat (first | refine awp_seq ?_ | refine awp_block ?_ | ((first | refine awp_runG [0, 1, 2, 6, 7, 8, 9, 10, 11, 12, 13, 14, 15, 35, 80, 84, 102, 164] hX ?_ | refine awp_drawnG [0, 1, 2, 6, 7, 8, 9, 10, 11, 12, 13, 14, 15, 35, 80, 84, 102, 164] hX mixed ?_ | refine awp_ret ?_ | refine awp_skip ?_ | refine awp_exit ?_); (simp [go_sem, wq]; try (refine ⟨by kernel_rfl, ?_⟩)))))
          refine sub_of _ [] (by simp [go_sem]) ?_
          simp [go_sem]
        · simp only [decide_eq_false_iff_not] at hd
          rw [if_neg hd]
          (repeat (first | refine awp_seq ?_ | refine awp_block ?_ | ((first | refine awp_runG [0, 1, 2, 6, 7, 8, 9, 10, 11, 12, 13, 14, 15, 35, 80, 84, 102, 164] hX ?_ | refine awp_drawnG [0, 1, 2, 6, 7, 8, 9, 10, 11, 12, 13, 14, 15, 35, 80, 84, 102, 164] hX mixed ?_ | refine awp_ret ?_ | refine awp_skip ?_ | refine awp_exit ?_); (simp [go_sem]; try (refine ⟨by kernel_rfl, ?_⟩)))))
          refine sub_of _ [] (by simp [go_sem]) ?_
          simp [go_sem]
      · obtain ⟨z, hz⟩ : ∃ z, (q + if 0 < r then 1 else 0) = z := ⟨_, rfl⟩
        have hf := fin z (by rw [← hz]; exact r1.2.1)
        rw [hz]
        try (simp [go_sem]; try (refine ⟨by kernel_rfl, ?_⟩))
        (repeat (first | refine awp_seq ?_ | refine awp_block ?_ | ((first | refine awp_runG [0, 1, 2, 6, 7, 8, 9, 10, 11, 12, 13, 14, 15, 35, 80, 84, 102, 164] hX ?_ | refine awp_drawnG [0, 1, 2, 6, 7, 8, 9, 10, 11, 12, 13, 14, 15, 35, 80, 84, 102, 164] hX mixed ?_ | refine awp_ret ?_ | refine awp_skip ?_ | refine awp_exit ?_); (simp [go_sem, hc, hkA, hkB, hw, ha, hbe]; try (refine ⟨by kernel_rfl, ?_⟩)))))
        try (repeat refine And.intro (by first | omega | (unfold maxLen; omega) | kernel_rfl | (refine ⟨by first | omega | (unfold maxLen; omega), by first | omega | (unfold maxLen; omega)⟩) | grind) ?_)
        refine awp_cond (b := false) (by simp [go_sem, hc, hkA, hkB, hw, ha, hbe]; have hf' := hf; simp [Bool.or_assoc] at hf'; exact ⟨⟨⟨⟨hf'.1, hf'.2.1⟩, hf'.2.2.1⟩, hf'.2.2.2.1⟩, hf'.2.2.2.2⟩) (fun h => by cases h) (fun _ => ?_)
        (repeat (first | refine awp_seq ?_ | refine awp_block ?_ | ((first | refine awp_runG [0, 1, 2, 6, 7, 8, 9, 10, 11, 12, 13, 14, 15, 35, 80, 84, 102, 164] hX ?_ | refine awp_drawnG [0, 1, 2, 6, 7, 8, 9, 10, 11, 12, 13, 14, 15, 35, 80, 84, 102, 164] hX mixed ?_ | refine awp_ret ?_ | refine awp_skip ?_ | refine awp_exit ?_); (simp [go_sem, wk]; try (refine ⟨by kernel_rfl, ?_⟩)))))
        refine ⟨k + 1, by omega, by omega, ?_⟩
        refine sub_of _ [] (by simp [go_sem]) ?_
        simp [go_sem]
    · (repeat (first | refine awp_seq ?_ | refine awp_block ?_ | ((first | refine awp_runG [0, 1, 2, 6, 7, 8, 9, 10, 11, 12, 13, 14, 15, 35, 80, 84, 102, 164] hX ?_ | refine awp_drawnG [0, 1, 2, 6, 7, 8, 9, 10, 11, 12, 13, 14, 15, 35, 80, 84, 102, 164] hX mixed ?_ | refine awp_ret ?_ | refine awp_skip ?_ | refine awp_exit ?_); (simp [go_sem]; try (refine ⟨by kernel_rfl, ?_⟩)))))

end Go.Proofs.Ytoiccjhjfhijpaa
