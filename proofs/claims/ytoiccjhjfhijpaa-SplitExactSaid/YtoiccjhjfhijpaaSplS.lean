/-
  Layer 18: the law SplitExact.
-/
import Derived.Test.YtoiccjhjfhijpaaSplF
import Derived.Test.YtoiccjhjfhijpaaSplO
set_option linter.all false
namespace Go.Proofs.Ytoiccjhjfhijpaa
open Go.RowKit Go.Ab
attribute [local irreducible] AWP Go.Ab.Sub Means MeansH CallK CallG CallT CallGT CallU

set_option maxHeartbeats 16000000 in
set_option maxRecDepth 20000 in
theorem splitExact_m (n : Int) (W : List Int) (hl : W.length ≤ 9223372036854775807) : Means true Try.prog 4 [ii n, il W] (bb true) := by
  have cw := weighted_m n W hl
  refine means_fn true 195 [.tmp 4] Try.func4 rfl rfl rfl (by simp) (by decide) rfl fun X hX => ?_
  (repeat (first | refine awp_seq ?_ | refine awp_block ?_ | ((first | refine awp_runG [0, 1, 4, 5, 6, 7, 8, 9, 10, 11, 27, 52, 56, 112, 115, 118, 119, 120, 121, 122, 123, 124, 125, 126, 127, 128, 129, 130, 131, 132, 133, 134, 135, 136, 137, 138, 139, 140, 141, 142, 143, 144, 145, 146, 147, 148, 149, 150, 151, 152, 153, 154, 155, 156, 157, 158, 159, 160, 161, 162, 163, 164, 165, 166, 167, 168, 169, 170, 171, 172, 173, 174, 175, 176, 177, 178, 179, 180, 181, 182, 183, 184, 185, 186, 187, 188, 189, 190, 191, 192, 193] hX ?_ | refine awp_drawnG [0, 1, 4, 5, 6, 7, 8, 9, 10, 11, 27, 52, 56, 112, 115, 118, 119, 120, 121, 122, 123, 124, 125, 126, 127, 128, 129, 130, 131, 132, 133, 134, 135, 136, 137, 138, 139, 140, 141, 142, 143, 144, 145, 146, 147, 148, 149, 150, 151, 152, 153, 154, 155, 156, 157, 158, 159, 160, 161, 162, 163, 164, 165, 166, 167, 168, 169, 170, 171, 172, 173, 174, 175, 176, 177, 178, 179, 180, 181, 182, 183, 184, 185, 186, 187, 188, 189, 190, 191, 192, 193] hX mixed ?_ | refine awp_ret ?_ | refine awp_skip ?_ | refine awp_exit ?_); (simp [go_sem]; try (refine ⟨by kernel_rfl, ?_⟩)))))
  first | refine callK_intro (small_m) rfl (by simp [go_sem]) rfl ?_ | refine callT_intro (small_m) rfl (by simp [go_sem]) rfl ?_
  try (simp [go_sem]; try (refine ⟨by kernel_rfl, ?_⟩))
  (repeat (first | refine awp_seq ?_ | refine awp_block ?_ | ((first | refine awp_runG [0, 1, 4, 5, 6, 7, 8, 9, 10, 11, 27, 52, 56, 112, 115, 118, 119, 120, 121, 122, 123, 124, 125, 126, 127, 128, 129, 130, 131, 132, 133, 134, 135, 136, 137, 138, 139, 140, 141, 142, 143, 144, 145, 146, 147, 148, 149, 150, 151, 152, 153, 154, 155, 156, 157, 158, 159, 160, 161, 162, 163, 164, 165, 166, 167, 168, 169, 170, 171, 172, 173, 174, 175, 176, 177, 178, 179, 180, 181, 182, 183, 184, 185, 186, 187, 188, 189, 190, 191, 192, 193] hX ?_ | refine awp_drawnG [0, 1, 4, 5, 6, 7, 8, 9, 10, 11, 27, 52, 56, 112, 115, 118, 119, 120, 121, 122, 123, 124, 125, 126, 127, 128, 129, 130, 131, 132, 133, 134, 135, 136, 137, 138, 139, 140, 141, 142, 143, 144, 145, 146, 147, 148, 149, 150, 151, 152, 153, 154, 155, 156, 157, 158, 159, 160, 161, 162, 163, 164, 165, 166, 167, 168, 169, 170, 171, 172, 173, 174, 175, 176, 177, 178, 179, 180, 181, 182, 183, 184, 185, 186, 187, 188, 189, 190, 191, 192, 193] hX mixed ?_ | refine awp_ret ?_ | refine awp_skip ?_ | refine awp_exit ?_); (simp [go_sem]; try (refine ⟨by kernel_rfl, ?_⟩)))))
  first | refine callK_intro (rsum_m W hl) rfl (by simp [go_sem]) rfl ?_ | refine callT_intro (rsum_m W hl) rfl (by simp [go_sem]) rfl ?_
  try (simp [go_sem]; try (refine ⟨by kernel_rfl, ?_⟩))
  by_cases hc : isAm n = true ∧ wsum W ≠ 0
  · rw [if_pos hc, if_pos hc] at cw
    obtain ⟨hn, hs0⟩ := hc
    obtain ⟨hok, hse, hs⟩ := wsum_pos hs0
    have hn2 : 0 ≤ n ∧ n ≤ 1099511627776 := by simpa [isAm] using hn
    have hl60 := okW_len hok
    have hsb := (okW_sum hok).2
    have hlen := wtd_len W n
    have hsum := wtd_sum (n := n) hs
    have one := fun i (h : i < W.length) (h' : i < (wtd W n).length) => wtd_one (n := n) hs h h'
    have two := fun i k (h : i < W.length) (h2 : k < W.length) (h' : i < (wtd W n).length) (h3 : k < (wtd W n).length) => wtd_two hs hn2.1 h h2 h' h3
    have fl := fun i (h : i < W.length) => rfloor_m n W[i] (sumL W) hn2 (okW_mem hok (List.getElem_mem h)) ⟨hs, hsb⟩
    have rs := fun i (h : i < W.length) => rrest_m n W[i] (sumL W) hn2 (okW_mem hok (List.getElem_mem h)) ⟨hs, hsb⟩
    have qb := fun i (h : i < W.length) => quo_le (n := n) (w := W[i]) (s := sumL W) hn2.1 ⟨(okW_mem hok (List.getElem_mem h)).1, mem_sum (fun x hx => (okW_mem hok hx).1) (List.getElem_mem h)⟩ hs
    have rb := fun i (h : i < W.length) => Int.emod_nonneg (n * W[i]) (show sumL W ≠ 0 by omega)
    rw [hse]
    generalize wtd W n = A at *
    have ab : ∀ x ∈ A, -1125899906842624 ≤ x ∧ x ≤ 1125899906842624 := fun x hx => by
      obtain ⟨i, hi, rfl⟩ := List.getElem_of_mem hx
      have := one i (by omega) hi
      have := qb i (by omega)
      omega
    have t1 := total_m A (by omega) ab
    rw [hsum] at t1
    generalize sumL W = s at *
    have hs1 : s ≠ 0 := by omega
    (repeat (first | refine awp_seq ?_ | refine awp_block ?_ | ((first | refine awp_runG [0, 1, 4, 5, 6, 7, 8, 9, 10, 11, 27, 52, 56, 112, 115, 118, 119, 120, 121, 122, 123, 124, 125, 126, 127, 128, 129, 130, 131, 132, 133, 134, 135, 136, 137, 138, 139, 140, 141, 142, 143, 144, 145, 146, 147, 148, 149, 150, 151, 152, 153, 154, 155, 156, 157, 158, 159, 160, 161, 162, 163, 164, 165, 166, 167, 168, 169, 170, 171, 172, 173, 174, 175, 176, 177, 178, 179, 180, 181, 182, 183, 184, 185, 186, 187, 188, 189, 190, 191, 192, 193] hX ?_ | refine awp_drawnG [0, 1, 4, 5, 6, 7, 8, 9, 10, 11, 27, 52, 56, 112, 115, 118, 119, 120, 121, 122, 123, 124, 125, 126, 127, 128, 129, 130, 131, 132, 133, 134, 135, 136, 137, 138, 139, 140, 141, 142, 143, 144, 145, 146, 147, 148, 149, 150, 151, 152, 153, 154, 155, 156, 157, 158, 159, 160, 161, 162, 163, 164, 165, 166, 167, 168, 169, 170, 171, 172, 173, 174, 175, 176, 177, 178, 179, 180, 181, 182, 183, 184, 185, 186, 187, 188, 189, 190, 191, 192, 193] hX mixed ?_ | refine awp_ret ?_ | refine awp_skip ?_ | refine awp_exit ?_); (simp [go_sem]; try (refine ⟨by kernel_rfl, ?_⟩)))))
    first | refine callK_intro (cw) rfl (by simp [go_sem]) rfl ?_ | refine callT_intro (cw) rfl (by simp [go_sem]) rfl ?_
    try (simp [go_sem]; try (refine ⟨by kernel_rfl, ?_⟩))
    (repeat (first | refine awp_seq ?_ | refine awp_block ?_ | ((first | refine awp_runG [0, 1, 4, 5, 6, 7, 8, 9, 10, 11, 27, 52, 56, 112, 115, 118, 119, 120, 121, 122, 123, 124, 125, 126, 127, 128, 129, 130, 131, 132, 133, 134, 135, 136, 137, 138, 139, 140, 141, 142, 143, 144, 145, 146, 147, 148, 149, 150, 151, 152, 153, 154, 155, 156, 157, 158, 159, 160, 161, 162, 163, 164, 165, 166, 167, 168, 169, 170, 171, 172, 173, 174, 175, 176, 177, 178, 179, 180, 181, 182, 183, 184, 185, 186, 187, 188, 189, 190, 191, 192, 193] hX ?_ | refine awp_drawnG [0, 1, 4, 5, 6, 7, 8, 9, 10, 11, 27, 52, 56, 112, 115, 118, 119, 120, 121, 122, 123, 124, 125, 126, 127, 128, 129, 130, 131, 132, 133, 134, 135, 136, 137, 138, 139, 140, 141, 142, 143, 144, 145, 146, 147, 148, 149, 150, 151, 152, 153, 154, 155, 156, 157, 158, 159, 160, 161, 162, 163, 164, 165, 166, 167, 168, 169, 170, 171, 172, 173, 174, 175, 176, 177, 178, 179, 180, 181, 182, 183, 184, 185, 186, 187, 188, 189, 190, 191, 192, 193] hX mixed ?_ | refine awp_ret ?_ | refine awp_skip ?_ | refine awp_exit ?_); (simp [go_sem]; try (refine ⟨by kernel_rfl, ?_⟩)))))
    first | refine callG_intro (fun hg => ramount_m n) rfl (by simp [go_sem]) rfl ?_ | refine callGT_intro (fun hg => ramount_m n) rfl (by simp [go_sem]) rfl ?_
    try (simp [go_sem]; try (refine ⟨by kernel_rfl, ?_⟩))
    refine awp_cond (b := false) (by simp [go_sem, hs1, hn]) (fun h => by cases h) (fun _ => ?_)
    (repeat (first | refine awp_seq ?_ | refine awp_block ?_ | ((first | refine awp_runG [0, 1, 4, 5, 6, 7, 8, 9, 10, 11, 27, 52, 56, 112, 115, 118, 119, 120, 121, 122, 123, 124, 125, 126, 127, 128, 129, 130, 131, 132, 133, 134, 135, 136, 137, 138, 139, 140, 141, 142, 143, 144, 145, 146, 147, 148, 149, 150, 151, 152, 153, 154, 155, 156, 157, 158, 159, 160, 161, 162, 163, 164, 165, 166, 167, 168, 169, 170, 171, 172, 173, 174, 175, 176, 177, 178, 179, 180, 181, 182, 183, 184, 185, 186, 187, 188, 189, 190, 191, 192, 193] hX ?_ | refine awp_drawnG [0, 1, 4, 5, 6, 7, 8, 9, 10, 11, 27, 52, 56, 112, 115, 118, 119, 120, 121, 122, 123, 124, 125, 126, 127, 128, 129, 130, 131, 132, 133, 134, 135, 136, 137, 138, 139, 140, 141, 142, 143, 144, 145, 146, 147, 148, 149, 150, 151, 152, 153, 154, 155, 156, 157, 158, 159, 160, 161, 162, 163, 164, 165, 166, 167, 168, 169, 170, 171, 172, 173, 174, 175, 176, 177, 178, 179, 180, 181, 182, 183, 184, 185, 186, 187, 188, 189, 190, 191, 192, 193] hX mixed ?_ | refine awp_ret ?_ | refine awp_skip ?_ | refine awp_exit ?_); (simp [go_sem, hlen]; try (refine ⟨by kernel_rfl, ?_⟩)))))
    first | refine callG_intro (fun hg => t1) rfl (by simp [go_sem]) rfl ?_ | refine callGT_intro (fun hg => t1) rfl (by simp [go_sem]) rfl ?_
    try (simp [go_sem, hlen]; try (refine ⟨by kernel_rfl, ?_⟩))
    refine awp_cond (b := false) (by simp [go_sem, hlen]) (fun h => by cases h) (fun _ => ?_)
    (repeat (first | refine awp_seq ?_ | refine awp_block ?_ | ((first | refine awp_runG [0, 1, 4, 5, 6, 7, 8, 9, 10, 11, 27, 52, 56, 112, 115, 118, 119, 120, 121, 122, 123, 124, 125, 126, 127, 128, 129, 130, 131, 132, 133, 134, 135, 136, 137, 138, 139, 140, 141, 142, 143, 144, 145, 146, 147, 148, 149, 150, 151, 152, 153, 154, 155, 156, 157, 158, 159, 160, 161, 162, 163, 164, 165, 166, 167, 168, 169, 170, 171, 172, 173, 174, 175, 176, 177, 178, 179, 180, 181, 182, 183, 184, 185, 186, 187, 188, 189, 190, 191, 192, 193] hX ?_ | refine awp_drawnG [0, 1, 4, 5, 6, 7, 8, 9, 10, 11, 27, 52, 56, 112, 115, 118, 119, 120, 121, 122, 123, 124, 125, 126, 127, 128, 129, 130, 131, 132, 133, 134, 135, 136, 137, 138, 139, 140, 141, 142, 143, 144, 145, 146, 147, 148, 149, 150, 151, 152, 153, 154, 155, 156, 157, 158, 159, 160, 161, 162, 163, 164, 165, 166, 167, 168, 169, 170, 171, 172, 173, 174, 175, 176, 177, 178, 179, 180, 181, 182, 183, 184, 185, 186, 187, 188, 189, 190, 191, 192, 193] hX mixed ?_ | refine awp_ret ?_ | refine awp_skip ?_ | refine awp_exit ?_); (simp [go_sem]; try (refine ⟨by kernel_rfl, ?_⟩)))))
    refine awp_loop (fun i : Nat => ⟨mkE [(0, ii n), (1, il W), (5, bb true), (6, ii s), (7, il A), (9, ii i)], []⟩) (fun i => i ≤ W.length) (fun i => W.length - i) 0 ?_ ?_ ?_
    · refine sub_of _ [] (by simp [go_sem]) ?_
      simp [go_sem]
    · omega
    · intro i hi
      (repeat (first | refine awp_seq ?_ | refine awp_block ?_ | ((first | refine awp_runG [0, 1, 4, 5, 6, 7, 8, 9, 10, 11, 27, 52, 56, 112, 115, 118, 119, 120, 121, 122, 123, 124, 125, 126, 127, 128, 129, 130, 131, 132, 133, 134, 135, 136, 137, 138, 139, 140, 141, 142, 143, 144, 145, 146, 147, 148, 149, 150, 151, 152, 153, 154, 155, 156, 157, 158, 159, 160, 161, 162, 163, 164, 165, 166, 167, 168, 169, 170, 171, 172, 173, 174, 175, 176, 177, 178, 179, 180, 181, 182, 183, 184, 185, 186, 187, 188, 189, 190, 191, 192, 193] hX ?_ | refine awp_drawnG [0, 1, 4, 5, 6, 7, 8, 9, 10, 11, 27, 52, 56, 112, 115, 118, 119, 120, 121, 122, 123, 124, 125, 126, 127, 128, 129, 130, 131, 132, 133, 134, 135, 136, 137, 138, 139, 140, 141, 142, 143, 144, 145, 146, 147, 148, 149, 150, 151, 152, 153, 154, 155, 156, 157, 158, 159, 160, 161, 162, 163, 164, 165, 166, 167, 168, 169, 170, 171, 172, 173, 174, 175, 176, 177, 178, 179, 180, 181, 182, 183, 184, 185, 186, 187, 188, 189, 190, 191, 192, 193] hX mixed ?_ | refine awp_ret ?_ | refine awp_skip ?_ | refine awp_exit ?_); (simp [go_sem, hlen]; try (refine ⟨by kernel_rfl, ?_⟩)))))
      refine awp_cond (b := decide (i < W.length)) (by simp [go_sem, hlen]) (fun hc => ?_) (fun hc => ?_)
      · simp at hc
        have hiA : i < A.length := by omega
        have cf := fl i hc
        have cr := rs i hc
        have o1 := one i hc hiA
        have r4 := qb i hc
        have r5 := rb i hc
        have tw := fun k h2 h3 => two i k hc h2 hiA h3
        have tw2 := fun k h2 h3 => two k i h2 hc h3 hiA
        obtain ⟨w, hw⟩ : ∃ w, W[i] = w := ⟨_, rfl⟩
        obtain ⟨a, ha⟩ : ∃ a, A[i] = a := ⟨_, rfl⟩
        rw [hw] at cf cr o1 r4 r5
        rw [ha] at o1
        simp only [hw, ha] at tw tw2
        obtain ⟨q, hq⟩ : ∃ q, n * w / s = q := ⟨_, rfl⟩
        obtain ⟨r, hr⟩ : ∃ r, n * w % s = r := ⟨_, rfl⟩
        rw [hq] at cf o1 r4
        rw [hr] at cr o1 r5
        have wq := w64 (x := q + 1) (by omega) (by omega)
        have wk := w64 (x := (i : Int) + 1) (by omega) (by omega)
        have wa := w64 (x := a + 1) (by omega) (by omega)
        have f1 : ¬ a < q := by omega
        have f2 : ¬ q + 1 < a := by omega
        have f3 : q < a → ¬ r = 0 := fun h => by have := o1.2.2.1 h; omega
        have f4 : w = 0 → a = 0 := o1.2.2.2
        (repeat (first | refine awp_seq ?_ | refine awp_block ?_ | ((first | refine awp_runG [0, 1, 4, 5, 6, 7, 8, 9, 10, 11, 27, 52, 56, 112, 115, 118, 119, 120, 121, 122, 123, 124, 125, 126, 127, 128, 129, 130, 131, 132, 133, 134, 135, 136, 137, 138, 139, 140, 141, 142, 143, 144, 145, 146, 147, 148, 149, 150, 151, 152, 153, 154, 155, 156, 157, 158, 159, 160, 161, 162, 163, 164, 165, 166, 167, 168, 169, 170, 171, 172, 173, 174, 175, 176, 177, 178, 179, 180, 181, 182, 183, 184, 185, 186, 187, 188, 189, 190, 191, 192, 193] hX ?_ | refine awp_drawnG [0, 1, 4, 5, 6, 7, 8, 9, 10, 11, 27, 52, 56, 112, 115, 118, 119, 120, 121, 122, 123, 124, 125, 126, 127, 128, 129, 130, 131, 132, 133, 134, 135, 136, 137, 138, 139, 140, 141, 142, 143, 144, 145, 146, 147, 148, 149, 150, 151, 152, 153, 154, 155, 156, 157, 158, 159, 160, 161, 162, 163, 164, 165, 166, 167, 168, 169, 170, 171, 172, 173, 174, 175, 176, 177, 178, 179, 180, 181, 182, 183, 184, 185, 186, 187, 188, 189, 190, 191, 192, 193] hX mixed ?_ | refine awp_ret ?_ | refine awp_skip ?_ | refine awp_exit ?_); (simp [go_sem, hc, hw]; try (refine ⟨by kernel_rfl, ?_⟩)))))
        first | refine callK_intro (cf) rfl (by simp [go_sem]) rfl ?_ | refine callT_intro (cf) rfl (by simp [go_sem]) rfl ?_
        try (simp [go_sem]; try (refine ⟨by kernel_rfl, ?_⟩))
        (repeat (first | refine awp_seq ?_ | refine awp_block ?_ | ((first | refine awp_runG [0, 1, 4, 5, 6, 7, 8, 9, 10, 11, 27, 52, 56, 112, 115, 118, 119, 120, 121, 122, 123, 124, 125, 126, 127, 128, 129, 130, 131, 132, 133, 134, 135, 136, 137, 138, 139, 140, 141, 142, 143, 144, 145, 146, 147, 148, 149, 150, 151, 152, 153, 154, 155, 156, 157, 158, 159, 160, 161, 162, 163, 164, 165, 166, 167, 168, 169, 170, 171, 172, 173, 174, 175, 176, 177, 178, 179, 180, 181, 182, 183, 184, 185, 186, 187, 188, 189, 190, 191, 192, 193] hX ?_ | refine awp_drawnG [0, 1, 4, 5, 6, 7, 8, 9, 10, 11, 27, 52, 56, 112, 115, 118, 119, 120, 121, 122, 123, 124, 125, 126, 127, 128, 129, 130, 131, 132, 133, 134, 135, 136, 137, 138, 139, 140, 141, 142, 143, 144, 145, 146, 147, 148, 149, 150, 151, 152, 153, 154, 155, 156, 157, 158, 159, 160, 161, 162, 163, 164, 165, 166, 167, 168, 169, 170, 171, 172, 173, 174, 175, 176, 177, 178, 179, 180, 181, 182, 183, 184, 185, 186, 187, 188, 189, 190, 191, 192, 193] hX mixed ?_ | refine awp_ret ?_ | refine awp_skip ?_ | refine awp_exit ?_); (simp [go_sem, hc, hw, hiA, ha, wq]; try (refine ⟨by kernel_rfl, ?_⟩)))))
        first | refine callG_intro (fun hg => cr) rfl (by simp [go_sem]) rfl ?_ | refine callGT_intro (fun hg => cr) rfl (by simp [go_sem]) rfl ?_
        try (simp [go_sem, hc, hw, hiA, ha, wq]; try (refine ⟨by kernel_rfl, ?_⟩))
        try (repeat refine And.intro (by first | omega | (unfold maxLen; omega) | kernel_rfl | (refine ⟨by first | omega | (unfold maxLen; omega), by first | omega | (unfold maxLen; omega)⟩) | grind) ?_)
        refine awp_cond (b := false) (by simp [go_sem, hc, hw, hiA, ha, wq]; grind) (fun h => by cases h) (fun _ => ?_)
        (repeat (first | refine awp_seq ?_ | refine awp_block ?_ | ((first | refine awp_runG [0, 1, 4, 5, 6, 7, 8, 9, 10, 11, 27, 52, 56, 112, 115, 118, 119, 120, 121, 122, 123, 124, 125, 126, 127, 128, 129, 130, 131, 132, 133, 134, 135, 136, 137, 138, 139, 140, 141, 142, 143, 144, 145, 146, 147, 148, 149, 150, 151, 152, 153, 154, 155, 156, 157, 158, 159, 160, 161, 162, 163, 164, 165, 166, 167, 168, 169, 170, 171, 172, 173, 174, 175, 176, 177, 178, 179, 180, 181, 182, 183, 184, 185, 186, 187, 188, 189, 190, 191, 192, 193] hX ?_ | refine awp_drawnG [0, 1, 4, 5, 6, 7, 8, 9, 10, 11, 27, 52, 56, 112, 115, 118, 119, 120, 121, 122, 123, 124, 125, 126, 127, 128, 129, 130, 131, 132, 133, 134, 135, 136, 137, 138, 139, 140, 141, 142, 143, 144, 145, 146, 147, 148, 149, 150, 151, 152, 153, 154, 155, 156, 157, 158, 159, 160, 161, 162, 163, 164, 165, 166, 167, 168, 169, 170, 171, 172, 173, 174, 175, 176, 177, 178, 179, 180, 181, 182, 183, 184, 185, 186, 187, 188, 189, 190, 191, 192, 193] hX mixed ?_ | refine awp_ret ?_ | refine awp_skip ?_ | refine awp_exit ?_); (simp [go_sem]; try (refine ⟨by kernel_rfl, ?_⟩)))))
        refine awp_loop (fun j : Nat => ⟨mkE [(0, ii n), (1, il W), (5, bb true), (6, ii s), (7, il A), (9, ii i), (11, ii j)], []⟩) (fun j => j ≤ i) (fun j => i - j) 0 ?_ ?_ ?_
        · refine sub_of _ [] (by simp [go_sem]) ?_
          simp [go_sem]
        · omega
        · intro j hj
          (repeat (first | refine awp_seq ?_ | refine awp_block ?_ | ((first | refine awp_runG [0, 1, 4, 5, 6, 7, 8, 9, 10, 11, 27, 52, 56, 112, 115, 118, 119, 120, 121, 122, 123, 124, 125, 126, 127, 128, 129, 130, 131, 132, 133, 134, 135, 136, 137, 138, 139, 140, 141, 142, 143, 144, 145, 146, 147, 148, 149, 150, 151, 152, 153, 154, 155, 156, 157, 158, 159, 160, 161, 162, 163, 164, 165, 166, 167, 168, 169, 170, 171, 172, 173, 174, 175, 176, 177, 178, 179, 180, 181, 182, 183, 184, 185, 186, 187, 188, 189, 190, 191, 192, 193] hX ?_ | refine awp_drawnG [0, 1, 4, 5, 6, 7, 8, 9, 10, 11, 27, 52, 56, 112, 115, 118, 119, 120, 121, 122, 123, 124, 125, 126, 127, 128, 129, 130, 131, 132, 133, 134, 135, 136, 137, 138, 139, 140, 141, 142, 143, 144, 145, 146, 147, 148, 149, 150, 151, 152, 153, 154, 155, 156, 157, 158, 159, 160, 161, 162, 163, 164, 165, 166, 167, 168, 169, 170, 171, 172, 173, 174, 175, 176, 177, 178, 179, 180, 181, 182, 183, 184, 185, 186, 187, 188, 189, 190, 191, 192, 193] hX mixed ?_ | refine awp_ret ?_ | refine awp_skip ?_ | refine awp_exit ?_); (simp [go_sem]; try (refine ⟨by kernel_rfl, ?_⟩)))))
          refine awp_cond (b := decide (j < i)) (by simp [go_sem]) (fun hd => ?_) (fun hd => ?_)
          · simp at hd
            have hjW : j < W.length := by omega
            have hjA : j < A.length := by omega
            have t2 := tw j hjW hjA
            have t3 := (tw2 j hjW hjA).1
            have wj := w64 (x := (j : Int) + 1) (by omega) (by omega)
            obtain ⟨v, hv⟩ : ∃ v, W[j] = v := ⟨_, rfl⟩
            obtain ⟨b, hb⟩ : ∃ b, A[j] = b := ⟨_, rfl⟩
            rw [hv, hb] at t2 t3
            obtain ⟨t1, t2⟩ := t2
            have t2 := fun h => t2 h hd
            (repeat (first | refine awp_seq ?_ | refine awp_block ?_ | ((first | refine awp_runG [0, 1, 4, 5, 6, 7, 8, 9, 10, 11, 27, 52, 56, 112, 115, 118, 119, 120, 121, 122, 123, 124, 125, 126, 127, 128, 129, 130, 131, 132, 133, 134, 135, 136, 137, 138, 139, 140, 141, 142, 143, 144, 145, 146, 147, 148, 149, 150, 151, 152, 153, 154, 155, 156, 157, 158, 159, 160, 161, 162, 163, 164, 165, 166, 167, 168, 169, 170, 171, 172, 173, 174, 175, 176, 177, 178, 179, 180, 181, 182, 183, 184, 185, 186, 187, 188, 189, 190, 191, 192, 193] hX ?_ | refine awp_drawnG [0, 1, 4, 5, 6, 7, 8, 9, 10, 11, 27, 52, 56, 112, 115, 118, 119, 120, 121, 122, 123, 124, 125, 126, 127, 128, 129, 130, 131, 132, 133, 134, 135, 136, 137, 138, 139, 140, 141, 142, 143, 144, 145, 146, 147, 148, 149, 150, 151, 152, 153, 154, 155, 156, 157, 158, 159, 160, 161, 162, 163, 164, 165, 166, 167, 168, 169, 170, 171, 172, 173, 174, 175, 176, 177, 178, 179, 180, 181, 182, 183, 184, 185, 186, 187, 188, 189, 190, 191, 192, 193] hX mixed ?_ | refine awp_ret ?_ | refine awp_skip ?_ | refine awp_exit ?_); (simp [go_sem, hc, hiA, hjW, hjA, hw, ha, hv, hb, wa]; try (refine ⟨by kernel_rfl, ?_⟩)))))
            try (repeat refine And.intro (by first | omega | (unfold maxLen; omega) | kernel_rfl | (refine ⟨by first | omega | (unfold maxLen; omega), by first | omega | (unfold maxLen; omega)⟩) | grind) ?_)
            refine awp_cond (b := false) (by simp [go_sem, hc, hiA, hjW, hjA, hw, ha, hv, hb, wa]; grind) (fun h => by cases h) (fun _ => ?_)
            (repeat (first | refine awp_seq ?_ | refine awp_block ?_ | ((first | refine awp_runG [0, 1, 4, 5, 6, 7, 8, 9, 10, 11, 27, 52, 56, 112, 115, 118, 119, 120, 121, 122, 123, 124, 125, 126, 127, 128, 129, 130, 131, 132, 133, 134, 135, 136, 137, 138, 139, 140, 141, 142, 143, 144, 145, 146, 147, 148, 149, 150, 151, 152, 153, 154, 155, 156, 157, 158, 159, 160, 161, 162, 163, 164, 165, 166, 167, 168, 169, 170, 171, 172, 173, 174, 175, 176, 177, 178, 179, 180, 181, 182, 183, 184, 185, 186, 187, 188, 189, 190, 191, 192, 193] hX ?_ | refine awp_drawnG [0, 1, 4, 5, 6, 7, 8, 9, 10, 11, 27, 52, 56, 112, 115, 118, 119, 120, 121, 122, 123, 124, 125, 126, 127, 128, 129, 130, 131, 132, 133, 134, 135, 136, 137, 138, 139, 140, 141, 142, 143, 144, 145, 146, 147, 148, 149, 150, 151, 152, 153, 154, 155, 156, 157, 158, 159, 160, 161, 162, 163, 164, 165, 166, 167, 168, 169, 170, 171, 172, 173, 174, 175, 176, 177, 178, 179, 180, 181, 182, 183, 184, 185, 186, 187, 188, 189, 190, 191, 192, 193] hX mixed ?_ | refine awp_ret ?_ | refine awp_skip ?_ | refine awp_exit ?_); (simp [go_sem, wj]; try (refine ⟨by kernel_rfl, ?_⟩)))))
            refine ⟨j + 1, by omega, by omega, ?_⟩
            refine sub_of _ [] (by simp [go_sem]) ?_
            simp [go_sem]
          · (repeat (first | refine awp_seq ?_ | refine awp_block ?_ | ((first | refine awp_runG [0, 1, 4, 5, 6, 7, 8, 9, 10, 11, 27, 52, 56, 112, 115, 118, 119, 120, 121, 122, 123, 124, 125, 126, 127, 128, 129, 130, 131, 132, 133, 134, 135, 136, 137, 138, 139, 140, 141, 142, 143, 144, 145, 146, 147, 148, 149, 150, 151, 152, 153, 154, 155, 156, 157, 158, 159, 160, 161, 162, 163, 164, 165, 166, 167, 168, 169, 170, 171, 172, 173, 174, 175, 176, 177, 178, 179, 180, 181, 182, 183, 184, 185, 186, 187, 188, 189, 190, 191, 192, 193] hX ?_ | refine awp_drawnG [0, 1, 4, 5, 6, 7, 8, 9, 10, 11, 27, 52, 56, 112, 115, 118, 119, 120, 121, 122, 123, 124, 125, 126, 127, 128, 129, 130, 131, 132, 133, 134, 135, 136, 137, 138, 139, 140, 141, 142, 143, 144, 145, 146, 147, 148, 149, 150, 151, 152, 153, 154, 155, 156, 157, 158, 159, 160, 161, 162, 163, 164, 165, 166, 167, 168, 169, 170, 171, 172, 173, 174, 175, 176, 177, 178, 179, 180, 181, 182, 183, 184, 185, 186, 187, 188, 189, 190, 191, 192, 193] hX mixed ?_ | refine awp_ret ?_ | refine awp_skip ?_ | refine awp_exit ?_); (simp [go_sem, wk]; try (refine ⟨by kernel_rfl, ?_⟩)))))
            refine ⟨i + 1, by omega, by omega, ?_⟩
            refine sub_of _ [] (by simp [go_sem]) ?_
            simp [go_sem]
      · (repeat (first | refine awp_seq ?_ | refine awp_block ?_ | ((first | refine awp_runG [0, 1, 4, 5, 6, 7, 8, 9, 10, 11, 27, 52, 56, 112, 115, 118, 119, 120, 121, 122, 123, 124, 125, 126, 127, 128, 129, 130, 131, 132, 133, 134, 135, 136, 137, 138, 139, 140, 141, 142, 143, 144, 145, 146, 147, 148, 149, 150, 151, 152, 153, 154, 155, 156, 157, 158, 159, 160, 161, 162, 163, 164, 165, 166, 167, 168, 169, 170, 171, 172, 173, 174, 175, 176, 177, 178, 179, 180, 181, 182, 183, 184, 185, 186, 187, 188, 189, 190, 191, 192, 193] hX ?_ | refine awp_drawnG [0, 1, 4, 5, 6, 7, 8, 9, 10, 11, 27, 52, 56, 112, 115, 118, 119, 120, 121, 122, 123, 124, 125, 126, 127, 128, 129, 130, 131, 132, 133, 134, 135, 136, 137, 138, 139, 140, 141, 142, 143, 144, 145, 146, 147, 148, 149, 150, 151, 152, 153, 154, 155, 156, 157, 158, 159, 160, 161, 162, 163, 164, 165, 166, 167, 168, 169, 170, 171, 172, 173, 174, 175, 176, 177, 178, 179, 180, 181, 182, 183, 184, 185, 186, 187, 188, 189, 190, 191, 192, 193] hX mixed ?_ | refine awp_ret ?_ | refine awp_skip ?_ | refine awp_exit ?_); (simp [go_sem]; try (refine ⟨by kernel_rfl, ?_⟩)))))
  · rw [if_neg hc, if_neg hc] at cw
    have hc2 : isAm n = false ∨ wsum W = 0 := by
      cases h1 : isAm n with
      | false => exact .inl rfl
      | true => rw [h1] at hc; right; simpa using hc
    (repeat (first | refine awp_seq ?_ | refine awp_block ?_ | ((first | refine awp_runG [0, 1, 4, 5, 6, 7, 8, 9, 10, 11, 27, 52, 56, 112, 115, 118, 119, 120, 121, 122, 123, 124, 125, 126, 127, 128, 129, 130, 131, 132, 133, 134, 135, 136, 137, 138, 139, 140, 141, 142, 143, 144, 145, 146, 147, 148, 149, 150, 151, 152, 153, 154, 155, 156, 157, 158, 159, 160, 161, 162, 163, 164, 165, 166, 167, 168, 169, 170, 171, 172, 173, 174, 175, 176, 177, 178, 179, 180, 181, 182, 183, 184, 185, 186, 187, 188, 189, 190, 191, 192, 193] hX ?_ | refine awp_drawnG [0, 1, 4, 5, 6, 7, 8, 9, 10, 11, 27, 52, 56, 112, 115, 118, 119, 120, 121, 122, 123, 124, 125, 126, 127, 128, 129, 130, 131, 132, 133, 134, 135, 136, 137, 138, 139, 140, 141, 142, 143, 144, 145, 146, 147, 148, 149, 150, 151, 152, 153, 154, 155, 156, 157, 158, 159, 160, 161, 162, 163, 164, 165, 166, 167, 168, 169, 170, 171, 172, 173, 174, 175, 176, 177, 178, 179, 180, 181, 182, 183, 184, 185, 186, 187, 188, 189, 190, 191, 192, 193] hX mixed ?_ | refine awp_ret ?_ | refine awp_skip ?_ | refine awp_exit ?_); (simp [go_sem]; try (refine ⟨by kernel_rfl, ?_⟩)))))
    first | refine callK_intro (cw) rfl (by simp [go_sem]) rfl ?_ | refine callT_intro (cw) rfl (by simp [go_sem]) rfl ?_
    try (simp [go_sem]; try (refine ⟨by kernel_rfl, ?_⟩))
    (repeat (first | refine awp_seq ?_ | refine awp_block ?_ | ((first | refine awp_runG [0, 1, 4, 5, 6, 7, 8, 9, 10, 11, 27, 52, 56, 112, 115, 118, 119, 120, 121, 122, 123, 124, 125, 126, 127, 128, 129, 130, 131, 132, 133, 134, 135, 136, 137, 138, 139, 140, 141, 142, 143, 144, 145, 146, 147, 148, 149, 150, 151, 152, 153, 154, 155, 156, 157, 158, 159, 160, 161, 162, 163, 164, 165, 166, 167, 168, 169, 170, 171, 172, 173, 174, 175, 176, 177, 178, 179, 180, 181, 182, 183, 184, 185, 186, 187, 188, 189, 190, 191, 192, 193] hX ?_ | refine awp_drawnG [0, 1, 4, 5, 6, 7, 8, 9, 10, 11, 27, 52, 56, 112, 115, 118, 119, 120, 121, 122, 123, 124, 125, 126, 127, 128, 129, 130, 131, 132, 133, 134, 135, 136, 137, 138, 139, 140, 141, 142, 143, 144, 145, 146, 147, 148, 149, 150, 151, 152, 153, 154, 155, 156, 157, 158, 159, 160, 161, 162, 163, 164, 165, 166, 167, 168, 169, 170, 171, 172, 173, 174, 175, 176, 177, 178, 179, 180, 181, 182, 183, 184, 185, 186, 187, 188, 189, 190, 191, 192, 193] hX mixed ?_ | refine awp_ret ?_ | refine awp_skip ?_ | refine awp_exit ?_); (simp [go_sem]; try (refine ⟨by kernel_rfl, ?_⟩)))))
    first | refine callG_intro (fun hg => ramount_m n) rfl (by simp [go_sem]) rfl ?_ | refine callGT_intro (fun hg => ramount_m n) rfl (by simp [go_sem]) rfl ?_
    try (simp [go_sem]; try (refine ⟨by kernel_rfl, ?_⟩))
    refine awp_cond (b := true) (by rcases hc2 with h | h <;> simp [go_sem, h]) (fun _ => ?_) (fun h => by cases h)
    (repeat (first | refine awp_seq ?_ | refine awp_block ?_ | ((first | refine awp_runG [0, 1, 4, 5, 6, 7, 8, 9, 10, 11, 27, 52, 56, 112, 115, 118, 119, 120, 121, 122, 123, 124, 125, 126, 127, 128, 129, 130, 131, 132, 133, 134, 135, 136, 137, 138, 139, 140, 141, 142, 143, 144, 145, 146, 147, 148, 149, 150, 151, 152, 153, 154, 155, 156, 157, 158, 159, 160, 161, 162, 163, 164, 165, 166, 167, 168, 169, 170, 171, 172, 173, 174, 175, 176, 177, 178, 179, 180, 181, 182, 183, 184, 185, 186, 187, 188, 189, 190, 191, 192, 193] hX ?_ | refine awp_drawnG [0, 1, 4, 5, 6, 7, 8, 9, 10, 11, 27, 52, 56, 112, 115, 118, 119, 120, 121, 122, 123, 124, 125, 126, 127, 128, 129, 130, 131, 132, 133, 134, 135, 136, 137, 138, 139, 140, 141, 142, 143, 144, 145, 146, 147, 148, 149, 150, 151, 152, 153, 154, 155, 156, 157, 158, 159, 160, 161, 162, 163, 164, 165, 166, 167, 168, 169, 170, 171, 172, 173, 174, 175, 176, 177, 178, 179, 180, 181, 182, 183, 184, 185, 186, 187, 188, 189, 190, 191, 192, 193] hX mixed ?_ | refine awp_ret ?_ | refine awp_skip ?_ | refine awp_exit ?_); (simp [go_sem]; try (refine ⟨by kernel_rfl, ?_⟩)))))

end Go.Proofs.Ytoiccjhjfhijpaa
