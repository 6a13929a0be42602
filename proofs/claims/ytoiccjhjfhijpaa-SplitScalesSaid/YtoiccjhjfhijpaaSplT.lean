/-
  Layer 18: the law SplitScales.
-/
import Derived.Test.YtoiccjhjfhijpaaSplF
import Derived.Test.YtoiccjhjfhijpaaSplO
set_option linter.all false
namespace Go.Proofs.Ytoiccjhjfhijpaa
open Go.RowKit Go.Ab
attribute [local irreducible] AWP Go.Ab.Sub Means MeansH CallK CallG CallT CallGT CallU

theorem ones_w {f : Int} (hf : 1 ≤ f ∧ f ≤ 1048576) {k : Nat} (hk : 1 ≤ k ∧ k ≤ 60) : wsum (List.replicate k f) ≠ 0 := by
  have hok : okW (List.replicate k f) = true := by
    simp only [okW, Bool.and_eq_true, List.all_eq_true, decide_eq_true_eq, List.length_replicate]
    exact ⟨fun x hx => by rw [List.eq_of_mem_replicate hx, inW_iff]; omega, by omega⟩
  have : ∀ q : Nat, q ≤ sumL (List.replicate q f) := fun q => by
    induction q with
    | zero => simp
    | succ q ih => rw [List.replicate_succ, sumL_cons]; push_cast; omega
  have := this k
  unfold wsum
  rw [if_pos hok]; omega
theorem scale_wtd {W : List Int} {f n : Int} (hf : 1 ≤ f) (h : wsum (W.map fun w => w * f) ≠ 0) : wtd (W.map fun w => w * f) n = wtd W n := wtd_scale (by omega) n

set_option maxHeartbeats 16000000 in
set_option maxRecDepth 20000 in
theorem splitScales_m (n : Int) (W : List Int) (hl : W.length ≤ 9223372036854775807) (f : Int) (p : Int) (hp : 0 ≤ p ∧ p ≤ 255) : Means true Try.prog 7 [ii n, il W, ii f, .v (.int .u8 p)] (bb true) := by
  refine means_fn true 146 [.tmp 8] Try.func7 rfl rfl rfl (by simp) (by decide) rfl fun X hX => ?_
  (repeat (first | refine awp_seq ?_ | refine awp_block ?_ | ((first | refine awp_runG [0, 1, 2, 3, 8, 9, 10, 11, 12, 13, 14, 15, 16, 17, 18, 19, 20, 21, 22, 24, 26, 43, 48, 88, 95] hX ?_ | refine awp_drawnG [0, 1, 2, 3, 8, 9, 10, 11, 12, 13, 14, 15, 16, 17, 18, 19, 20, 21, 22, 24, 26, 43, 48, 88, 95] hX mixed ?_ | refine awp_ret ?_ | refine awp_skip ?_ | refine awp_exit ?_); (simp [go_sem]; try (refine ⟨by kernel_rfl, ?_⟩)))))
  first | refine callK_intro (small_m) rfl (by simp [go_sem]) rfl ?_ | refine callT_intro (small_m) rfl (by simp [go_sem]) rfl ?_
  try (simp [go_sem]; try (refine ⟨by kernel_rfl, ?_⟩))
  (repeat (first | refine awp_seq ?_ | refine awp_block ?_ | ((first | refine awp_runG [0, 1, 2, 3, 8, 9, 10, 11, 12, 13, 14, 15, 16, 17, 18, 19, 20, 21, 22, 24, 26, 43, 48, 88, 95] hX ?_ | refine awp_drawnG [0, 1, 2, 3, 8, 9, 10, 11, 12, 13, 14, 15, 16, 17, 18, 19, 20, 21, 22, 24, 26, 43, 48, 88, 95] hX mixed ?_ | refine awp_ret ?_ | refine awp_skip ?_ | refine awp_exit ?_); (simp [go_sem]; try (refine ⟨by kernel_rfl, ?_⟩)))))
  first | refine callK_intro (rsum_m W hl) rfl (by simp [go_sem]) rfl ?_ | refine callT_intro (rsum_m W hl) rfl (by simp [go_sem]) rfl ?_
  try (simp [go_sem]; try (refine ⟨by kernel_rfl, ?_⟩))
  first | refine callG_intro (fun hg => ramount_m n) rfl (by simp [go_sem]) rfl ?_ | refine callGT_intro (fun hg => ramount_m n) rfl (by simp [go_sem]) rfl ?_
  try (simp [go_sem]; try (refine ⟨by kernel_rfl, ?_⟩))
  refine awp_cond (b := decide (wsum W = 0) || !isAm n || decide (f < 1) || decide (1048576 < f)) (by simp [go_sem, Bool.or_assoc]) (fun hb => ?_) (fun hb => ?_)
  · (repeat (first | refine awp_seq ?_ | refine awp_block ?_ | ((first | refine awp_runG [0, 1, 2, 3, 8, 9, 10, 11, 12, 13, 14, 15, 16, 17, 18, 19, 20, 21, 22, 24, 26, 43, 48, 88, 95] hX ?_ | refine awp_drawnG [0, 1, 2, 3, 8, 9, 10, 11, 12, 13, 14, 15, 16, 17, 18, 19, 20, 21, 22, 24, 26, 43, 48, 88, 95] hX mixed ?_ | refine awp_ret ?_ | refine awp_skip ?_ | refine awp_exit ?_); (simp [go_sem]; try (refine ⟨by kernel_rfl, ?_⟩)))))
  simp at hb
  obtain ⟨⟨⟨hs0, hn⟩, hf1⟩, hf2⟩ := hb
  obtain ⟨hok, hse, hs⟩ := wsum_pos hs0
  have hl60 := okW_len hok
  have hWb := fun i (h : i < W.length) => okW_mem hok (List.getElem_mem h)
  have cw := weighted_m n W hl
  rw [if_pos ⟨hn, hs0⟩, if_pos ⟨hn, hs0⟩] at cw
  have hMl : (W.map fun w => w * f).length = W.length := by simp
  have cm := weighted_m n (W.map fun w => w * f) (by rw [hMl]; exact hl)
  have cs := rsum_m (W.map fun w => w * f) (by rw [hMl]; exact hl)
  have hMw := fun h => scale_wtd (W := W) (f := f) (n := n) hf1 h
  have hMb := wsum_bd (W.map fun w => w * f)
  obtain ⟨k, hk⟩ : ∃ k : Nat, (k : Int) = p % 60 + 1 := ⟨(p % 60 + 1).toNat, by omega⟩
  have ce := even_m n k
  have ce0 := even_m n 0
  have ce1 := even_m n 61
  rw [if_pos ⟨hn, by omega, by omega⟩, if_pos ⟨hn, by omega, by omega⟩, Int.toNat_natCast] at ce
  rw [if_neg (by omega), if_neg (by omega)] at ce0 ce1
  have cq := weighted_m n (List.replicate k f) (by simp; omega)
  have hkw := ones_w (f := f) (by omega) (k := k) (by omega)
  rw [if_pos ⟨hn, hkw⟩, if_pos ⟨hn, hkw⟩] at cq
  have heq : wtd (List.replicate k f) n = wtd (List.replicate k 1) n := by
    have := wtd_scale (W := List.replicate k 1) (f := f) (by omega) n
    rw [List.map_replicate, Int.one_mul] at this
    exact this
  rw [heq] at cq
  have lA := wtd_len W n
  have lB := wtd_len (List.replicate k 1) n
  have iA := ints_t (wtd W n) (by omega)
  have iB := ints_t (wtd (List.replicate k 1) n) (by rw [lB]; simp; omega)
  have hms : ∀ j (hj : j < W.length), (W.map fun w => w * f).take (j + 1) = (W.map fun w => w * f).take j ++ [W[j] * f] := fun j hj => by
    rw [List.take_succ_eq_append_getElem (by rw [hMl]; exact hj), List.getElem_map]
  have hif : Means true Try.prog 11 [ii n, il (W.map fun w => w * f)] (.tup [il (if wsum (W.map fun w => w * f) ≠ 0 then wtd W n else []), ii (if wsum (W.map fun w => w * f) ≠ 0 then 0 else 1)]) := by
    by_cases q : wsum (W.map fun w => w * f) ≠ 0
    · rw [if_pos q, if_pos q]
      rw [if_pos ⟨hn, q⟩, if_pos ⟨hn, q⟩, hMw q] at cm
      exact cm
    · rw [if_neg q, if_neg q]
      rw [if_neg (fun r => q r.2), if_neg (fun r => q r.2)] at cm
      exact cm
  clear cm hMw heq hkw
  generalize (W.map fun w => w * f) = M at *
  generalize wtd W n = A at *
  generalize wtd (List.replicate k 1) n = B at *
  (repeat (first | refine awp_seq ?_ | refine awp_block ?_ | ((first | refine awp_runG [0, 1, 2, 3, 8, 9, 10, 11, 12, 13, 14, 15, 16, 17, 18, 19, 20, 21, 22, 24, 26, 43, 48, 88, 95] hX ?_ | refine awp_drawnG [0, 1, 2, 3, 8, 9, 10, 11, 12, 13, 14, 15, 16, 17, 18, 19, 20, 21, 22, 24, 26, 43, 48, 88, 95] hX mixed ?_ | refine awp_ret ?_ | refine awp_skip ?_ | refine awp_exit ?_); (simp [go_sem]; try (refine ⟨by kernel_rfl, ?_⟩)))))
  refine awp_loop (fun j : Nat => ⟨mkE [(0, ii n), (1, il W), (2, ii f), (3, .v (.int .u8 p)), (9, bb true), (10, .ow 0), (11, ii j)], [rowI (M.take j)]⟩) (fun j => j ≤ W.length) (fun j => W.length - j) 0 ?_ ?_ ?_
  · refine sub_of _ [.birth 3 1] (by simp [go_sem]) ?_
    simp [go_sem]
  · omega
  · intro j hj
    have hll : (M.take j).length = j := by rw [List.length_take]; omega
    (repeat (first | refine awp_seq ?_ | refine awp_block ?_ | ((first | refine awp_runG [0, 1, 2, 3, 8, 9, 10, 11, 12, 13, 14, 15, 16, 17, 18, 19, 20, 21, 22, 24, 26, 43, 48, 88, 95] hX ?_ | refine awp_drawnG [0, 1, 2, 3, 8, 9, 10, 11, 12, 13, 14, 15, 16, 17, 18, 19, 20, 21, 22, 24, 26, 43, 48, 88, 95] hX mixed ?_ | refine awp_ret ?_ | refine awp_skip ?_ | refine awp_exit ?_); (simp [go_sem]; try (refine ⟨by kernel_rfl, ?_⟩)))))
    refine awp_cond (b := decide (j < W.length)) (by simp [go_sem]) (fun hc => ?_) (fun hc => ?_)
    · simp at hc
      have hms := hms j hc
      have hwb := hWb j hc
      have hmb : 0 ≤ W[j] * f ∧ W[j] * f ≤ 1048576 * 1048576 := ⟨Int.mul_nonneg hwb.1 (by omega), Int.mul_le_mul hwb.2 hf2 (by omega) (by omega)⟩
      have w1 := w64 (x := W[j] * f) (by omega) (by omega)
      have w2 := w64 (x := (j : Int) + 1) (by omega) (by omega)
      generalize M.take j = D at *
      (repeat (first | refine awp_seq ?_ | refine awp_block ?_ | ((first | refine awp_runG [0, 1, 2, 3, 8, 9, 10, 11, 12, 13, 14, 15, 16, 17, 18, 19, 20, 21, 22, 24, 26, 43, 48, 88, 95] hX ?_ | refine awp_drawnG [0, 1, 2, 3, 8, 9, 10, 11, 12, 13, 14, 15, 16, 17, 18, 19, 20, 21, 22, 24, 26, 43, 48, 88, 95] hX mixed ?_ | refine awp_ret ?_ | refine awp_skip ?_ | refine awp_exit ?_); (simp [go_sem, hc, w1, hll]; try (refine ⟨by kernel_rfl, ?_⟩)))))
      try (repeat refine And.intro (by first | omega | (unfold maxLen; omega) | kernel_rfl | (refine ⟨by first | omega | (unfold maxLen; omega), by first | omega | (unfold maxLen; omega)⟩) | grind) ?_)
      try (repeat (first | refine awp_seq ?_ | refine awp_block ?_ | ((first | refine awp_runG [0, 1, 2, 3, 8, 9, 10, 11, 12, 13, 14, 15, 16, 17, 18, 19, 20, 21, 22, 24, 26, 43, 48, 88, 95] hX ?_ | refine awp_drawnG [0, 1, 2, 3, 8, 9, 10, 11, 12, 13, 14, 15, 16, 17, 18, 19, 20, 21, 22, 24, 26, 43, 48, 88, 95] hX mixed ?_ | refine awp_ret ?_ | refine awp_skip ?_ | refine awp_exit ?_); (simp [go_sem, hc, w1, hll, w2]; try (refine ⟨by kernel_rfl, ?_⟩)))))
      refine ⟨j + 1, by omega, by omega, ?_⟩
      rw [hms]
      refine sub_of _ [.old 2 ⟨3, 1, (D ++ [W[j] * f]).map ii⟩] (by simp [go_sem]) ?_
      simp [go_sem]
      try omega
    · have hjl : j = M.length := by simp at hc; omega
      rw [hjl, List.take_length]
      by_cases hM0 : wsum M = 0
      · rw [if_neg (by simp [hM0]), if_neg (by simp [hM0])] at hif
        (repeat (first | refine awp_seq ?_ | refine awp_block ?_ | ((first | refine awp_runG [0, 1, 2, 3, 8, 9, 10, 11, 12, 13, 14, 15, 16, 17, 18, 19, 20, 21, 22, 24, 26, 43, 48, 88, 95] hX ?_ | refine awp_drawnG [0, 1, 2, 3, 8, 9, 10, 11, 12, 13, 14, 15, 16, 17, 18, 19, 20, 21, 22, 24, 26, 43, 48, 88, 95] hX mixed ?_ | refine awp_ret ?_ | refine awp_skip ?_ | refine awp_exit ?_); (simp [go_sem]; try (refine ⟨by kernel_rfl, ?_⟩)))))
        first | refine callK_intro (cw) rfl (by simp [go_sem]) rfl ?_ | refine callT_intro (cw) rfl (by simp [go_sem]) rfl ?_
        try (simp [go_sem]; try (refine ⟨by kernel_rfl, ?_⟩))
        (repeat (first | refine awp_seq ?_ | refine awp_block ?_ | ((first | refine awp_runG [0, 1, 2, 3, 8, 9, 10, 11, 12, 13, 14, 15, 16, 17, 18, 19, 20, 21, 22, 24, 26, 43, 48, 88, 95] hX ?_ | refine awp_drawnG [0, 1, 2, 3, 8, 9, 10, 11, 12, 13, 14, 15, 16, 17, 18, 19, 20, 21, 22, 24, 26, 43, 48, 88, 95] hX mixed ?_ | refine awp_ret ?_ | refine awp_skip ?_ | refine awp_exit ?_); (simp [go_sem]; try (refine ⟨by kernel_rfl, ?_⟩)))))
        first | refine callK_intro (hif) rfl (by simp [go_sem]) rfl ?_ | refine callT_intro (hif) rfl (by simp [go_sem]) rfl ?_
        try (simp [go_sem]; try (refine ⟨by kernel_rfl, ?_⟩))
        (repeat (first | refine awp_seq ?_ | refine awp_block ?_ | ((first | refine awp_runG [0, 1, 2, 3, 8, 9, 10, 11, 12, 13, 14, 15, 16, 17, 18, 19, 20, 21, 22, 24, 26, 43, 48, 88, 95] hX ?_ | refine awp_drawnG [0, 1, 2, 3, 8, 9, 10, 11, 12, 13, 14, 15, 16, 17, 18, 19, 20, 21, 22, 24, 26, 43, 48, 88, 95] hX mixed ?_ | refine awp_ret ?_ | refine awp_skip ?_ | refine awp_exit ?_); (simp [go_sem]; try (refine ⟨by kernel_rfl, ?_⟩)))))
        first | refine callG_intro (fun hg => cs) rfl (by simp [go_sem]) rfl ?_ | refine callGT_intro (fun hg => cs) rfl (by simp [go_sem]) rfl ?_
        try (simp [go_sem, hM0]; try (refine ⟨by kernel_rfl, ?_⟩))
        first | refine callG_skip rfl ?_ | refine callGT_skip rfl ?_
        try (simp [go_sem, hM0]; try (refine ⟨by kernel_rfl, ?_⟩))
        refine awp_cond (b := false) (by simp [go_sem, hM0]) (fun h => by cases h) (fun _ => ?_)
        have hm1 : p.tmod 60 = p % 60 := Int.tmod_eq_emod_of_nonneg (by omega)
        have hm2 : IntKind.u8.wrap (p % 60) = p % 60 := by unfold IntKind.wrap; simp [IntKind.bits, IntKind.signed]; omega
        have hm3 := w64 (x := p % 60) (by omega) (by omega)
        have hm4 : IntKind.i64.wrap (p % 60 + 1) = (k : Int) := by rw [w64 (by omega) (by omega), hk]
        (repeat (first | refine awp_seq ?_ | refine awp_block ?_ | ((first | refine awp_runG [0, 1, 2, 3, 8, 9, 10, 11, 12, 13, 14, 15, 16, 17, 18, 19, 20, 21, 22, 24, 26, 43, 48, 88, 95] hX ?_ | refine awp_drawnG [0, 1, 2, 3, 8, 9, 10, 11, 12, 13, 14, 15, 16, 17, 18, 19, 20, 21, 22, 24, 26, 43, 48, 88, 95] hX mixed ?_ | refine awp_ret ?_ | refine awp_skip ?_ | refine awp_exit ?_); (simp [go_sem, hm1, hm2, hm3, hm4]; try (refine ⟨by kernel_rfl, ?_⟩)))))
        refine awp_loop (fun j : Nat => ⟨mkE [(0, ii n), (2, ii f), (9, bb true), (16, ii k), (17, .ow 0), (18, ii j)], [rowI (List.replicate j f)]⟩) (fun j => j ≤ k) (fun j => k - j) 0 ?_ ?_ ?_
        · refine sub_of _ [.birth 3 1] (by simp [go_sem]) ?_
          simp [go_sem]
        · omega
        · intro j hj
          have wj := w64 (x := (j : Int) + 1) (by omega) (by omega)
          have hrs : List.replicate (j + 1) f = List.replicate j f ++ [f] := List.replicate_succ'
          have hrl : (List.replicate j f).length = j := by simp
          (repeat (first | refine awp_seq ?_ | refine awp_block ?_ | ((first | refine awp_runG [0, 1, 2, 3, 8, 9, 10, 11, 12, 13, 14, 15, 16, 17, 18, 19, 20, 21, 22, 24, 26, 43, 48, 88, 95] hX ?_ | refine awp_drawnG [0, 1, 2, 3, 8, 9, 10, 11, 12, 13, 14, 15, 16, 17, 18, 19, 20, 21, 22, 24, 26, 43, 48, 88, 95] hX mixed ?_ | refine awp_ret ?_ | refine awp_skip ?_ | refine awp_exit ?_); (simp [go_sem]; try (refine ⟨by kernel_rfl, ?_⟩)))))
          refine awp_cond (b := decide (j < k)) (by simp [go_sem]) (fun he => ?_) (fun he => ?_)
          · simp at he
            generalize List.replicate j f = D at *
            (repeat (first | refine awp_seq ?_ | refine awp_block ?_ | ((first | refine awp_runG [0, 1, 2, 3, 8, 9, 10, 11, 12, 13, 14, 15, 16, 17, 18, 19, 20, 21, 22, 24, 26, 43, 48, 88, 95] hX ?_ | refine awp_drawnG [0, 1, 2, 3, 8, 9, 10, 11, 12, 13, 14, 15, 16, 17, 18, 19, 20, 21, 22, 24, 26, 43, 48, 88, 95] hX mixed ?_ | refine awp_ret ?_ | refine awp_skip ?_ | refine awp_exit ?_); (simp [go_sem, hrl]; try (refine ⟨by kernel_rfl, ?_⟩)))))
            try (repeat refine And.intro (by first | omega | (unfold maxLen; omega) | kernel_rfl | (refine ⟨by first | omega | (unfold maxLen; omega), by first | omega | (unfold maxLen; omega)⟩) | grind) ?_)
            try (repeat (first | refine awp_seq ?_ | refine awp_block ?_ | ((first | refine awp_runG [0, 1, 2, 3, 8, 9, 10, 11, 12, 13, 14, 15, 16, 17, 18, 19, 20, 21, 22, 24, 26, 43, 48, 88, 95] hX ?_ | refine awp_drawnG [0, 1, 2, 3, 8, 9, 10, 11, 12, 13, 14, 15, 16, 17, 18, 19, 20, 21, 22, 24, 26, 43, 48, 88, 95] hX mixed ?_ | refine awp_ret ?_ | refine awp_skip ?_ | refine awp_exit ?_); (simp [go_sem, hrl, wj]; try (refine ⟨by kernel_rfl, ?_⟩)))))
            refine ⟨j + 1, by omega, by omega, ?_⟩
            rw [hrs]
            refine sub_of _ [.old 2 ⟨3, 1, (D ++ [f]).map ii⟩] (by simp [go_sem]) ?_
            simp [go_sem]
            try omega
          · have hjk : j = k := by simp at he; omega
            subst hjk
            generalize List.replicate j f = D at *
            (repeat (first | refine awp_seq ?_ | refine awp_block ?_ | ((first | refine awp_runG [0, 1, 2, 3, 8, 9, 10, 11, 12, 13, 14, 15, 16, 17, 18, 19, 20, 21, 22, 24, 26, 43, 48, 88, 95] hX ?_ | refine awp_drawnG [0, 1, 2, 3, 8, 9, 10, 11, 12, 13, 14, 15, 16, 17, 18, 19, 20, 21, 22, 24, 26, 43, 48, 88, 95] hX mixed ?_ | refine awp_ret ?_ | refine awp_skip ?_ | refine awp_exit ?_); (simp [go_sem]; try (refine ⟨by kernel_rfl, ?_⟩)))))
            first | refine callK_intro (ce) rfl (by simp [go_sem]) rfl ?_ | refine callT_intro (ce) rfl (by simp [go_sem]) rfl ?_
            try (simp [go_sem]; try (refine ⟨by kernel_rfl, ?_⟩))
            (repeat (first | refine awp_seq ?_ | refine awp_block ?_ | ((first | refine awp_runG [0, 1, 2, 3, 8, 9, 10, 11, 12, 13, 14, 15, 16, 17, 18, 19, 20, 21, 22, 24, 26, 43, 48, 88, 95] hX ?_ | refine awp_drawnG [0, 1, 2, 3, 8, 9, 10, 11, 12, 13, 14, 15, 16, 17, 18, 19, 20, 21, 22, 24, 26, 43, 48, 88, 95] hX mixed ?_ | refine awp_ret ?_ | refine awp_skip ?_ | refine awp_exit ?_); (simp [go_sem]; try (refine ⟨by kernel_rfl, ?_⟩)))))
            first | refine callK_intro (cq) rfl (by simp [go_sem]) rfl ?_ | refine callT_intro (cq) rfl (by simp [go_sem]) rfl ?_
            try (simp [go_sem]; try (refine ⟨by kernel_rfl, ?_⟩))
            (repeat (first | refine awp_seq ?_ | refine awp_block ?_ | ((first | refine awp_runG [0, 1, 2, 3, 8, 9, 10, 11, 12, 13, 14, 15, 16, 17, 18, 19, 20, 21, 22, 24, 26, 43, 48, 88, 95] hX ?_ | refine awp_drawnG [0, 1, 2, 3, 8, 9, 10, 11, 12, 13, 14, 15, 16, 17, 18, 19, 20, 21, 22, 24, 26, 43, 48, 88, 95] hX mixed ?_ | refine awp_ret ?_ | refine awp_skip ?_ | refine awp_exit ?_); (simp [go_sem]; try (refine ⟨by kernel_rfl, ?_⟩)))))
            first | refine callK_intro (ce0) rfl (by simp [go_sem]) rfl ?_ | refine callT_intro (ce0) rfl (by simp [go_sem]) rfl ?_
            try (simp [go_sem]; try (refine ⟨by kernel_rfl, ?_⟩))
            (repeat (first | refine awp_seq ?_ | refine awp_block ?_ | ((first | refine awp_runG [0, 1, 2, 3, 8, 9, 10, 11, 12, 13, 14, 15, 16, 17, 18, 19, 20, 21, 22, 24, 26, 43, 48, 88, 95] hX ?_ | refine awp_drawnG [0, 1, 2, 3, 8, 9, 10, 11, 12, 13, 14, 15, 16, 17, 18, 19, 20, 21, 22, 24, 26, 43, 48, 88, 95] hX mixed ?_ | refine awp_ret ?_ | refine awp_skip ?_ | refine awp_exit ?_); (simp [go_sem]; try (refine ⟨by kernel_rfl, ?_⟩)))))
            first | refine callK_intro (ce1) rfl (by simp [go_sem]) rfl ?_ | refine callT_intro (ce1) rfl (by simp [go_sem]) rfl ?_
            try (simp [go_sem]; try (refine ⟨by kernel_rfl, ?_⟩))
            (repeat (first | refine awp_seq ?_ | refine awp_block ?_ | ((first | refine awp_runG [0, 1, 2, 3, 8, 9, 10, 11, 12, 13, 14, 15, 16, 17, 18, 19, 20, 21, 22, 24, 26, 43, 48, 88, 95] hX ?_ | refine awp_drawnG [0, 1, 2, 3, 8, 9, 10, 11, 12, 13, 14, 15, 16, 17, 18, 19, 20, 21, 22, 24, 26, 43, 48, 88, 95] hX mixed ?_ | refine awp_ret ?_ | refine awp_skip ?_ | refine awp_exit ?_); (simp [go_sem]; try (refine ⟨by kernel_rfl, ?_⟩)))))
            first | refine callG_intro (fun hg => iB) rfl (by simp [go_sem]) rfl ?_ | refine callGT_intro (fun hg => iB) rfl (by simp [go_sem]) rfl ?_
            try (simp [go_sem]; try (refine ⟨by kernel_rfl, ?_⟩))
            (repeat (first | refine awp_seq ?_ | refine awp_block ?_ | ((first | refine awp_runG [0, 1, 2, 3, 8, 9, 10, 11, 12, 13, 14, 15, 16, 17, 18, 19, 20, 21, 22, 24, 26, 43, 48, 88, 95] hX ?_ | refine awp_drawnG [0, 1, 2, 3, 8, 9, 10, 11, 12, 13, 14, 15, 16, 17, 18, 19, 20, 21, 22, 24, 26, 43, 48, 88, 95] hX mixed ?_ | refine awp_ret ?_ | refine awp_skip ?_ | refine awp_exit ?_); (simp [go_sem]; try (refine ⟨by kernel_rfl, ?_⟩)))))
      · have hM1 : 0 < wsum M := by omega
        rw [if_pos hM0, if_pos hM0] at hif
        (repeat (first | refine awp_seq ?_ | refine awp_block ?_ | ((first | refine awp_runG [0, 1, 2, 3, 8, 9, 10, 11, 12, 13, 14, 15, 16, 17, 18, 19, 20, 21, 22, 24, 26, 43, 48, 88, 95] hX ?_ | refine awp_drawnG [0, 1, 2, 3, 8, 9, 10, 11, 12, 13, 14, 15, 16, 17, 18, 19, 20, 21, 22, 24, 26, 43, 48, 88, 95] hX mixed ?_ | refine awp_ret ?_ | refine awp_skip ?_ | refine awp_exit ?_); (simp [go_sem]; try (refine ⟨by kernel_rfl, ?_⟩)))))
        first | refine callK_intro (cw) rfl (by simp [go_sem]) rfl ?_ | refine callT_intro (cw) rfl (by simp [go_sem]) rfl ?_
        try (simp [go_sem]; try (refine ⟨by kernel_rfl, ?_⟩))
        (repeat (first | refine awp_seq ?_ | refine awp_block ?_ | ((first | refine awp_runG [0, 1, 2, 3, 8, 9, 10, 11, 12, 13, 14, 15, 16, 17, 18, 19, 20, 21, 22, 24, 26, 43, 48, 88, 95] hX ?_ | refine awp_drawnG [0, 1, 2, 3, 8, 9, 10, 11, 12, 13, 14, 15, 16, 17, 18, 19, 20, 21, 22, 24, 26, 43, 48, 88, 95] hX mixed ?_ | refine awp_ret ?_ | refine awp_skip ?_ | refine awp_exit ?_); (simp [go_sem]; try (refine ⟨by kernel_rfl, ?_⟩)))))
        first | refine callK_intro (hif) rfl (by simp [go_sem]) rfl ?_ | refine callT_intro (hif) rfl (by simp [go_sem]) rfl ?_
        try (simp [go_sem]; try (refine ⟨by kernel_rfl, ?_⟩))
        (repeat (first | refine awp_seq ?_ | refine awp_block ?_ | ((first | refine awp_runG [0, 1, 2, 3, 8, 9, 10, 11, 12, 13, 14, 15, 16, 17, 18, 19, 20, 21, 22, 24, 26, 43, 48, 88, 95] hX ?_ | refine awp_drawnG [0, 1, 2, 3, 8, 9, 10, 11, 12, 13, 14, 15, 16, 17, 18, 19, 20, 21, 22, 24, 26, 43, 48, 88, 95] hX mixed ?_ | refine awp_ret ?_ | refine awp_skip ?_ | refine awp_exit ?_); (simp [go_sem]; try (refine ⟨by kernel_rfl, ?_⟩)))))
        first | refine callG_intro (fun hg => cs) rfl (by simp [go_sem]) rfl ?_ | refine callGT_intro (fun hg => cs) rfl (by simp [go_sem]) rfl ?_
        try (simp [go_sem, hM0, hM1]; try (refine ⟨by kernel_rfl, ?_⟩))
        first | refine callG_intro (fun hg => iA) rfl (by simp [go_sem]) rfl ?_ | refine callGT_intro (fun hg => iA) rfl (by simp [go_sem]) rfl ?_
        try (simp [go_sem, hM0, hM1]; try (refine ⟨by kernel_rfl, ?_⟩))
        refine awp_cond (b := false) (by simp [go_sem, hM0]) (fun h => by cases h) (fun _ => ?_)
        have hm1 : p.tmod 60 = p % 60 := Int.tmod_eq_emod_of_nonneg (by omega)
        have hm2 : IntKind.u8.wrap (p % 60) = p % 60 := by unfold IntKind.wrap; simp [IntKind.bits, IntKind.signed]; omega
        have hm3 := w64 (x := p % 60) (by omega) (by omega)
        have hm4 : IntKind.i64.wrap (p % 60 + 1) = (k : Int) := by rw [w64 (by omega) (by omega), hk]
        (repeat (first | refine awp_seq ?_ | refine awp_block ?_ | ((first | refine awp_runG [0, 1, 2, 3, 8, 9, 10, 11, 12, 13, 14, 15, 16, 17, 18, 19, 20, 21, 22, 24, 26, 43, 48, 88, 95] hX ?_ | refine awp_drawnG [0, 1, 2, 3, 8, 9, 10, 11, 12, 13, 14, 15, 16, 17, 18, 19, 20, 21, 22, 24, 26, 43, 48, 88, 95] hX mixed ?_ | refine awp_ret ?_ | refine awp_skip ?_ | refine awp_exit ?_); (simp [go_sem, hm1, hm2, hm3, hm4]; try (refine ⟨by kernel_rfl, ?_⟩)))))
        refine awp_loop (fun j : Nat => ⟨mkE [(0, ii n), (2, ii f), (9, bb true), (16, ii k), (17, .ow 0), (18, ii j)], [rowI (List.replicate j f)]⟩) (fun j => j ≤ k) (fun j => k - j) 0 ?_ ?_ ?_
        · refine sub_of _ [.birth 3 1] (by simp [go_sem]) ?_
          simp [go_sem]
        · omega
        · intro j hj
          have wj := w64 (x := (j : Int) + 1) (by omega) (by omega)
          have hrs : List.replicate (j + 1) f = List.replicate j f ++ [f] := List.replicate_succ'
          have hrl : (List.replicate j f).length = j := by simp
          (repeat (first | refine awp_seq ?_ | refine awp_block ?_ | ((first | refine awp_runG [0, 1, 2, 3, 8, 9, 10, 11, 12, 13, 14, 15, 16, 17, 18, 19, 20, 21, 22, 24, 26, 43, 48, 88, 95] hX ?_ | refine awp_drawnG [0, 1, 2, 3, 8, 9, 10, 11, 12, 13, 14, 15, 16, 17, 18, 19, 20, 21, 22, 24, 26, 43, 48, 88, 95] hX mixed ?_ | refine awp_ret ?_ | refine awp_skip ?_ | refine awp_exit ?_); (simp [go_sem]; try (refine ⟨by kernel_rfl, ?_⟩)))))
          refine awp_cond (b := decide (j < k)) (by simp [go_sem]) (fun he => ?_) (fun he => ?_)
          · simp at he
            generalize List.replicate j f = D at *
            (repeat (first | refine awp_seq ?_ | refine awp_block ?_ | ((first | refine awp_runG [0, 1, 2, 3, 8, 9, 10, 11, 12, 13, 14, 15, 16, 17, 18, 19, 20, 21, 22, 24, 26, 43, 48, 88, 95] hX ?_ | refine awp_drawnG [0, 1, 2, 3, 8, 9, 10, 11, 12, 13, 14, 15, 16, 17, 18, 19, 20, 21, 22, 24, 26, 43, 48, 88, 95] hX mixed ?_ | refine awp_ret ?_ | refine awp_skip ?_ | refine awp_exit ?_); (simp [go_sem, hrl]; try (refine ⟨by kernel_rfl, ?_⟩)))))
            try (repeat refine And.intro (by first | omega | (unfold maxLen; omega) | kernel_rfl | (refine ⟨by first | omega | (unfold maxLen; omega), by first | omega | (unfold maxLen; omega)⟩) | grind) ?_)
            try (repeat (first | refine awp_seq ?_ | refine awp_block ?_ | ((first | refine awp_runG [0, 1, 2, 3, 8, 9, 10, 11, 12, 13, 14, 15, 16, 17, 18, 19, 20, 21, 22, 24, 26, 43, 48, 88, 95] hX ?_ | refine awp_drawnG [0, 1, 2, 3, 8, 9, 10, 11, 12, 13, 14, 15, 16, 17, 18, 19, 20, 21, 22, 24, 26, 43, 48, 88, 95] hX mixed ?_ | refine awp_ret ?_ | refine awp_skip ?_ | refine awp_exit ?_); (simp [go_sem, hrl, wj]; try (refine ⟨by kernel_rfl, ?_⟩)))))
            refine ⟨j + 1, by omega, by omega, ?_⟩
            rw [hrs]
            refine sub_of _ [.old 2 ⟨3, 1, (D ++ [f]).map ii⟩] (by simp [go_sem]) ?_
            simp [go_sem]
            try omega
          · have hjk : j = k := by simp at he; omega
            subst hjk
            generalize List.replicate j f = D at *
            (repeat (first | refine awp_seq ?_ | refine awp_block ?_ | ((first | refine awp_runG [0, 1, 2, 3, 8, 9, 10, 11, 12, 13, 14, 15, 16, 17, 18, 19, 20, 21, 22, 24, 26, 43, 48, 88, 95] hX ?_ | refine awp_drawnG [0, 1, 2, 3, 8, 9, 10, 11, 12, 13, 14, 15, 16, 17, 18, 19, 20, 21, 22, 24, 26, 43, 48, 88, 95] hX mixed ?_ | refine awp_ret ?_ | refine awp_skip ?_ | refine awp_exit ?_); (simp [go_sem]; try (refine ⟨by kernel_rfl, ?_⟩)))))
            first | refine callK_intro (ce) rfl (by simp [go_sem]) rfl ?_ | refine callT_intro (ce) rfl (by simp [go_sem]) rfl ?_
            try (simp [go_sem]; try (refine ⟨by kernel_rfl, ?_⟩))
            (repeat (first | refine awp_seq ?_ | refine awp_block ?_ | ((first | refine awp_runG [0, 1, 2, 3, 8, 9, 10, 11, 12, 13, 14, 15, 16, 17, 18, 19, 20, 21, 22, 24, 26, 43, 48, 88, 95] hX ?_ | refine awp_drawnG [0, 1, 2, 3, 8, 9, 10, 11, 12, 13, 14, 15, 16, 17, 18, 19, 20, 21, 22, 24, 26, 43, 48, 88, 95] hX mixed ?_ | refine awp_ret ?_ | refine awp_skip ?_ | refine awp_exit ?_); (simp [go_sem]; try (refine ⟨by kernel_rfl, ?_⟩)))))
            first | refine callK_intro (cq) rfl (by simp [go_sem]) rfl ?_ | refine callT_intro (cq) rfl (by simp [go_sem]) rfl ?_
            try (simp [go_sem]; try (refine ⟨by kernel_rfl, ?_⟩))
            (repeat (first | refine awp_seq ?_ | refine awp_block ?_ | ((first | refine awp_runG [0, 1, 2, 3, 8, 9, 10, 11, 12, 13, 14, 15, 16, 17, 18, 19, 20, 21, 22, 24, 26, 43, 48, 88, 95] hX ?_ | refine awp_drawnG [0, 1, 2, 3, 8, 9, 10, 11, 12, 13, 14, 15, 16, 17, 18, 19, 20, 21, 22, 24, 26, 43, 48, 88, 95] hX mixed ?_ | refine awp_ret ?_ | refine awp_skip ?_ | refine awp_exit ?_); (simp [go_sem]; try (refine ⟨by kernel_rfl, ?_⟩)))))
            first | refine callK_intro (ce0) rfl (by simp [go_sem]) rfl ?_ | refine callT_intro (ce0) rfl (by simp [go_sem]) rfl ?_
            try (simp [go_sem]; try (refine ⟨by kernel_rfl, ?_⟩))
            (repeat (first | refine awp_seq ?_ | refine awp_block ?_ | ((first | refine awp_runG [0, 1, 2, 3, 8, 9, 10, 11, 12, 13, 14, 15, 16, 17, 18, 19, 20, 21, 22, 24, 26, 43, 48, 88, 95] hX ?_ | refine awp_drawnG [0, 1, 2, 3, 8, 9, 10, 11, 12, 13, 14, 15, 16, 17, 18, 19, 20, 21, 22, 24, 26, 43, 48, 88, 95] hX mixed ?_ | refine awp_ret ?_ | refine awp_skip ?_ | refine awp_exit ?_); (simp [go_sem]; try (refine ⟨by kernel_rfl, ?_⟩)))))
            first | refine callK_intro (ce1) rfl (by simp [go_sem]) rfl ?_ | refine callT_intro (ce1) rfl (by simp [go_sem]) rfl ?_
            try (simp [go_sem]; try (refine ⟨by kernel_rfl, ?_⟩))
            (repeat (first | refine awp_seq ?_ | refine awp_block ?_ | ((first | refine awp_runG [0, 1, 2, 3, 8, 9, 10, 11, 12, 13, 14, 15, 16, 17, 18, 19, 20, 21, 22, 24, 26, 43, 48, 88, 95] hX ?_ | refine awp_drawnG [0, 1, 2, 3, 8, 9, 10, 11, 12, 13, 14, 15, 16, 17, 18, 19, 20, 21, 22, 24, 26, 43, 48, 88, 95] hX mixed ?_ | refine awp_ret ?_ | refine awp_skip ?_ | refine awp_exit ?_); (simp [go_sem]; try (refine ⟨by kernel_rfl, ?_⟩)))))
            first | refine callG_intro (fun hg => iB) rfl (by simp [go_sem]) rfl ?_ | refine callGT_intro (fun hg => iB) rfl (by simp [go_sem]) rfl ?_
            try (simp [go_sem]; try (refine ⟨by kernel_rfl, ?_⟩))
            (repeat (first | refine awp_seq ?_ | refine awp_block ?_ | ((first | refine awp_runG [0, 1, 2, 3, 8, 9, 10, 11, 12, 13, 14, 15, 16, 17, 18, 19, 20, 21, 22, 24, 26, 43, 48, 88, 95] hX ?_ | refine awp_drawnG [0, 1, 2, 3, 8, 9, 10, 11, 12, 13, 14, 15, 16, 17, 18, 19, 20, 21, 22, 24, 26, 43, 48, 88, 95] hX mixed ?_ | refine awp_ret ?_ | refine awp_skip ?_ | refine awp_exit ?_); (simp [go_sem]; try (refine ⟨by kernel_rfl, ?_⟩)))))

end Go.Proofs.Ytoiccjhjfhijpaa
