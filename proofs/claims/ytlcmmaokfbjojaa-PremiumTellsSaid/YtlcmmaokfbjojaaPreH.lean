/-
  Layer 37: the reference, and the law PremiumTells.
-/
import Derived.Test.YtlcmmaokfbjojaaPreG
import Derived.Test.YtlcmmaokfbjojaaPreE
import Derived.Test.YtlcmmaokfbjojaaSplK
set_option linter.all false
namespace Go.Proofs.Ytlcmmaokfbjojaa
open Go.RowKit Go.Ab
attribute [local irreducible] AWP Go.Ab.Sub Means MeansH CallK CallG CallT CallGT CallU

set_option maxHeartbeats 4000000 in
set_option maxRecDepth 20000 in
theorem rweights_m (C : List Int) (hl : C.length ≤ 60) (hC : C.all inC7 = true) : Means true Try.prog 23 [il C] (.tup [il (wts C), ii (sumL (wts C))]) := by
  have hsb := fun k => (wts_bd (C := C.take k) (List.all_eq_true.2 fun x hx => List.all_eq_true.1 hC x (List.mem_of_mem_take hx)))
  have hmem := fun i (h : i < C.length) => inC7_iff.1 (List.all_eq_true.1 hC _ (List.getElem_mem h))
  refine means_fn true 30 [.tmp 2, .tmp 3] Try.func23 rfl rfl rfl (by simp) (by decide) rfl fun X hX => ?_
  (repeat (first | refine awp_seq ?_ | refine awp_block ?_ | ((first | refine awp_runG [0, 2, 3, 4, 5, 6, 10] hX ?_ | refine awp_drawnG [0, 2, 3, 4, 5, 6, 10] hX mixed ?_ | refine awp_ret ?_ | refine awp_skip ?_ | refine awp_exit ?_); (simp [go_sem]; try (refine ⟨by kernel_rfl, ?_⟩)))))
  refine awp_loop (fun k : Nat => ⟨mkE [(0, il C), (4, .ow 0), (5, ii (sumL (wts (C.take k)))), (6, ii k)], [rowI (wts (C.take k))]⟩) (fun k => k ≤ C.length) (fun k => C.length - k) 0 ?_ ?_ ?_
  · refine sub_of _ [.birth 3 1] (by simp [go_sem, wts]) ?_
    simp [go_sem, wts]
  · omega
  · intro k hk
    have hll : (wts (C.take k)).length = k := by rw [wts_len, List.length_take]; omega
    have hb1 := hsb k
    have hlt : (C.take k).length = k := by rw [List.length_take]; omega
    rw [hlt] at hb1
    (repeat (first | refine awp_seq ?_ | refine awp_block ?_ | ((first | refine awp_runG [0, 2, 3, 4, 5, 6, 10] hX ?_ | refine awp_drawnG [0, 2, 3, 4, 5, 6, 10] hX mixed ?_ | refine awp_ret ?_ | refine awp_skip ?_ | refine awp_exit ?_); (simp [go_sem]; try (refine ⟨by kernel_rfl, ?_⟩)))))
    refine awp_cond (b := decide (k < C.length)) (by simp [go_sem]) (fun hc => ?_) (fun hc => ?_)
    · simp at hc
      have hs := wts_succ hc
      have hcr := hmem k hc
      have hss : sumL (wts (C.take (k + 1))) = sumL (wts (C.take k)) + C[k] + 1 := by rw [hs, sumL_app]; simp; omega
      clear hsb
      obtain ⟨c, hce⟩ : ∃ c, C[k] = c := ⟨_, rfl⟩
      rw [hce] at hcr hs hss
      generalize wts (C.take k) = D at *
      have w2 := w64 (x := c + 1) (by omega) (by omega)
      have w3 := w64 (x := sumL D + c) (by omega) (by omega)
      have w5 := w64 (x := sumL D + c + 1) (by omega) (by omega)
      have w4 := w64 (x := (k : Int) + 1) (by omega) (by omega)
      (repeat (first | refine awp_seq ?_ | refine awp_block ?_ | ((first | refine awp_runG [0, 2, 3, 4, 5, 6, 10] hX ?_ | refine awp_drawnG [0, 2, 3, 4, 5, 6, 10] hX mixed ?_ | refine awp_ret ?_ | refine awp_skip ?_ | refine awp_exit ?_); (simp [go_sem, hc, hce, w2, hll]; try (refine ⟨by kernel_rfl, ?_⟩)))))
      try (repeat refine And.intro (by first | omega | (unfold maxLen; omega) | kernel_rfl | (refine ⟨by first | omega | (unfold maxLen; omega), by first | omega | (unfold maxLen; omega)⟩) | grind) ?_)
      try (repeat (first | refine awp_seq ?_ | refine awp_block ?_ | ((first | refine awp_runG [0, 2, 3, 4, 5, 6, 10] hX ?_ | refine awp_drawnG [0, 2, 3, 4, 5, 6, 10] hX mixed ?_ | refine awp_ret ?_ | refine awp_skip ?_ | refine awp_exit ?_); (simp [go_sem, hc, hce, w2, w3, w4, w5, hll]; try (refine ⟨by kernel_rfl, ?_⟩)))))
      refine ⟨k + 1, by omega, by omega, ?_⟩
      rw [hss, hs]
      refine sub_of _ [.old 2 ⟨3, 1, (D ++ [c + 1]).map ii⟩] (by simp [go_sem]) ?_
      simp [go_sem]
      try omega
    · have : k = C.length := by simp at hc; omega
      subst this
      rw [List.take_length]
      (repeat (first | refine awp_seq ?_ | refine awp_block ?_ | ((first | refine awp_runG [0, 2, 3, 4, 5, 6, 10] hX ?_ | refine awp_drawnG [0, 2, 3, 4, 5, 6, 10] hX mixed ?_ | refine awp_ret ?_ | refine awp_skip ?_ | refine awp_exit ?_); (simp [go_sem]; try (refine ⟨by kernel_rfl, ?_⟩)))))

set_option maxHeartbeats 8000000 in
set_option maxRecDepth 20000 in
theorem rrates_m (C : List Int) (hl : C.length ≤ 9223372036854775807) (b : Int) : Means false Try.prog 9 [il C, ii b] (.tup [.sl ((if rightP C b then rts C b else []).map fz), ii (if rightP C b then 0 else 1)]) := by
  have hw := rright_m C hl b
  cases hr : rightP C b with
  | false =>
    rw [hr] at hw
    rw [if_neg (by simp), if_neg (by simp)]
    refine means_fn false 49 [.tmp 4, .tmp 5] Try.func9 rfl rfl rfl (by simp) (by decide) rfl fun X hX => ?_
    (repeat (first | refine awp_seq ?_ | refine awp_block ?_ | ((first | refine awp_runG [0, 1, 4, 5, 6, 7, 8, 9, 10, 11, 15, 24, 42] hX ?_ | refine awp_drawnG [0, 1, 4, 5, 6, 7, 8, 9, 10, 11, 15, 24, 42] hX mixed ?_ | refine awp_ret ?_ | refine awp_skip ?_ | refine awp_exit ?_); (simp [go_sem]; try (refine ⟨by kernel_rfl, ?_⟩)))))
    first | refine callK_intro (hw) rfl (by simp [go_sem]) rfl ?_ | refine callT_intro (hw) rfl (by simp [go_sem]) rfl ?_
    try (simp [go_sem]; try (refine ⟨by kernel_rfl, ?_⟩))
    refine awp_cond (b := true) (by simp [go_sem]) (fun _ => ?_) (fun h => by cases h)
    (repeat (first | refine awp_seq ?_ | refine awp_block ?_ | ((first | refine awp_runG [0, 1, 4, 5, 6, 7, 8, 9, 10, 11, 15, 24, 42] hX ?_ | refine awp_drawnG [0, 1, 4, 5, 6, 7, 8, 9, 10, 11, 15, 24, 42] hX mixed ?_ | refine awp_ret ?_ | refine awp_skip ?_ | refine awp_exit ?_); (simp [go_sem]; try (refine ⟨by kernel_rfl, ?_⟩)))))
  | true =>
    rw [hr] at hw
    rw [if_pos rfl, if_pos rfl]
    have R := right_RP hr
    have hlen := R.len
    have hsm := R.sum
    have hcb := R.coin
    have cW := rweights_m C (by omega) R.all
    have hW := wts_len C
    have hWb : ∀ k (hk : k < (wts C).length), 1 ≤ (wts C)[k] ∧ (wts C)[k] ≤ 1001 := fun k hk => by
      rw [wts_at (by omega)]; have := R.mem (i := k) (by omega); omega
    have hpr := fun k (hk : k < (wts C).length) => R.prod (w := (wts C)[k]) (by have := hWb k hk; omega)
    have hDl : ((rts C b).map fz).length = C.length := by rw [List.length_map, rts_len]
    have hDs : ∀ k (hk : k < (wts C).length), ((rts C b).map fz).take (k + 1) = ((rts C b).map fz).take k ++ [fz (rt (b * C.length) (sumL (wts C)) (wts C)[k])] := fun k hk => by
      rw [List.take_succ_eq_append_getElem (by omega), List.getElem_map]
      simp [rts]
    have hzD := zone_fz (rts C b)
    have hzt := fun k => zone_take hzD k
    generalize (rts C b).map fz = D at *
    generalize hcc : b * (C.length : Int) = c at *
    generalize sumL (wts C) = S at *
    generalize wts C = W at *
    have wc := w64 (x := c) (by omega) (by omega)
    refine means_fn false 49 [.tmp 4, .tmp 5] Try.func9 rfl rfl rfl (by simp) (by decide) rfl fun X hX => ?_
    (repeat (first | refine awp_seq ?_ | refine awp_block ?_ | ((first | refine awp_runG [0, 1, 4, 5, 6, 7, 8, 9, 10, 11, 15, 24, 42] hX ?_ | refine awp_drawnG [0, 1, 4, 5, 6, 7, 8, 9, 10, 11, 15, 24, 42] hX mixed ?_ | refine awp_ret ?_ | refine awp_skip ?_ | refine awp_exit ?_); (simp [go_sem]; try (refine ⟨by kernel_rfl, ?_⟩)))))
    first | refine callK_intro (hw) rfl (by simp [go_sem]) rfl ?_ | refine callT_intro (hw) rfl (by simp [go_sem]) rfl ?_
    try (simp [go_sem]; try (refine ⟨by kernel_rfl, ?_⟩))
    refine awp_cond (b := false) (by simp [go_sem]) (fun h => by cases h) (fun _ => ?_)
    (repeat (first | refine awp_seq ?_ | refine awp_block ?_ | ((first | refine awp_runG [0, 1, 4, 5, 6, 7, 8, 9, 10, 11, 15, 24, 42] hX ?_ | refine awp_drawnG [0, 1, 4, 5, 6, 7, 8, 9, 10, 11, 15, 24, 42] hX mixed ?_ | refine awp_ret ?_ | refine awp_skip ?_ | refine awp_exit ?_); (simp [go_sem]; try (refine ⟨by kernel_rfl, ?_⟩)))))
    first | refine callK_intro (cW) rfl (by simp [go_sem]) rfl ?_ | refine callT_intro (cW) rfl (by simp [go_sem]) rfl ?_
    try (simp [go_sem]; try (refine ⟨by kernel_rfl, ?_⟩))
    (repeat (first | refine awp_seq ?_ | refine awp_block ?_ | ((first | refine awp_runG [0, 1, 4, 5, 6, 7, 8, 9, 10, 11, 15, 24, 42] hX ?_ | refine awp_drawnG [0, 1, 4, 5, 6, 7, 8, 9, 10, 11, 15, 24, 42] hX mixed ?_ | refine awp_ret ?_ | refine awp_skip ?_ | refine awp_exit ?_); (simp [go_sem]; try (refine ⟨by kernel_rfl, ?_⟩)))))
    refine awp_loop (fun k : Nat => ⟨mkE [(0, il C), (1, ii b), (6, il W), (7, ii S), (8, .ow 0), (9, ii k)], [.row ⟨38, 4, D.take k⟩]⟩) (fun k => k ≤ W.length) (fun k => W.length - k) 0 ?_ ?_ ?_
    · refine sub_of _ [.birth 38 4] (by simp [go_sem]) ?_
      simp [go_sem]
    · omega
    · intro k hk
      have hzk := hzt k
      have hll : (D.take k).length = k := by rw [List.length_take]; omega
      (repeat (first | refine awp_seq ?_ | refine awp_block ?_ | ((first | refine awp_runG [0, 1, 4, 5, 6, 7, 8, 9, 10, 11, 15, 24, 42] hX ?_ | refine awp_drawnG [0, 1, 4, 5, 6, 7, 8, 9, 10, 11, 15, 24, 42] hX mixed ?_ | refine awp_ret ?_ | refine awp_skip ?_ | refine awp_exit ?_); (simp [go_sem]; try (refine ⟨by kernel_rfl, ?_⟩)))))
      refine awp_cond (b := decide (k < W.length)) (by simp [go_sem]) (fun hc => ?_) (fun hc => ?_)
      · simp at hc
        have a1 := hWb k hc
        have a2 := hpr k hc
        have a4 := hDs k hc
        obtain ⟨w, hw⟩ : ∃ w, W[k] = w := ⟨_, rfl⟩
        rw [hw] at a1 a2 a4
        have w1 := w64 (x := c * w) (by omega) (by omega)
        have w2 := w64 (x := (k : Int) + 1) (by omega) (by omega)
        have cO := rOf5_p (c * w) S (by omega) (by omega)
        have hfz : fz (rt c S w) = frZ (np (c * w) S) (nq (c * w) S) := rfl
        rw [hfz] at a4
        generalize np (c * w) S = P at *
        generalize nq (c * w) S = Q at *
        clear hDs
        generalize D.take k = D' at *
        (repeat (first | refine awp_seq ?_ | refine awp_block ?_ | ((first | refine awp_runG [0, 1, 4, 5, 6, 7, 8, 9, 10, 11, 15, 24, 42] hX ?_ | refine awp_drawnG [0, 1, 4, 5, 6, 7, 8, 9, 10, 11, 15, 24, 42] hX mixed ?_ | refine awp_ret ?_ | refine awp_skip ?_ | refine awp_exit ?_); (simp [go_sem, hc, hw, hcc, wc, w1]; try (refine ⟨by kernel_rfl, ?_⟩)))))
        first | refine callK_intro (cO) rfl (by simp [go_sem]) rfl ?_ | refine callT_intro (cO) rfl (by simp [go_sem]) rfl ?_
        try (simp [go_sem]; try (refine ⟨by kernel_rfl, ?_⟩))
        (repeat (first | refine awp_seq ?_ | refine awp_block ?_ | ((first | refine awp_runG [0, 1, 4, 5, 6, 7, 8, 9, 10, 11, 15, 24, 42] hX ?_ | refine awp_drawnG [0, 1, 4, 5, 6, 7, 8, 9, 10, 11, 15, 24, 42] hX mixed ?_ | refine awp_ret ?_ | refine awp_skip ?_ | refine awp_exit ?_); (simp [go_sem]; try (refine ⟨by kernel_rfl, ?_⟩)))))
        refine awp_cond (b := false) (by simp [go_sem]) (fun h => by cases h) (fun _ => ?_)
        (repeat (first | refine awp_seq ?_ | refine awp_block ?_ | ((first | refine awp_runG [0, 1, 4, 5, 6, 7, 8, 9, 10, 11, 15, 24, 42] hX ?_ | refine awp_drawnG [0, 1, 4, 5, 6, 7, 8, 9, 10, 11, 15, 24, 42] hX mixed ?_ | refine awp_ret ?_ | refine awp_skip ?_ | refine awp_exit ?_); (simp [go_sem, hll]; try (refine ⟨by kernel_rfl, ?_⟩)))))
        try (repeat refine And.intro (by first | omega | (unfold maxLen; omega) | kernel_rfl | (refine ⟨by first | omega | (unfold maxLen; omega), by first | omega | (unfold maxLen; omega)⟩) | grind) ?_)
        try (repeat (first | refine awp_seq ?_ | refine awp_block ?_ | ((first | refine awp_runG [0, 1, 4, 5, 6, 7, 8, 9, 10, 11, 15, 24, 42] hX ?_ | refine awp_drawnG [0, 1, 4, 5, 6, 7, 8, 9, 10, 11, 15, 24, 42] hX mixed ?_ | refine awp_ret ?_ | refine awp_skip ?_ | refine awp_exit ?_); (simp [go_sem, hll, w2]; try (refine ⟨by kernel_rfl, ?_⟩)))))
        refine ⟨k + 1, by omega, by omega, ?_⟩
        rw [a4]
        refine sub_of _ [.old 3 ⟨38, 4, D' ++ [frZ P Q]⟩] (by simp [go_sem, hzk]) ?_
        simp [go_sem, hzk]
        try omega
      · have : k = D.length := by simp at hc; omega
        rw [this, List.take_length]
        (repeat (first | refine awp_seq ?_ | refine awp_block ?_ | ((first | refine awp_runG [0, 1, 4, 5, 6, 7, 8, 9, 10, 11, 15, 24, 42] hX ?_ | refine awp_drawnG [0, 1, 4, 5, 6, 7, 8, 9, 10, 11, 15, 24, 42] hX mixed ?_ | refine awp_ret ?_ | refine awp_skip ?_ | refine awp_exit ?_); (simp [go_sem, hzD]; try (refine ⟨by kernel_rfl, ?_⟩)))))

theorem rround_m (C : List Int) (hl : C.length ≤ 9223372036854775807) (b f : Int) : Means false Try.prog 11 [il C, ii b, ii f] (.tup [il (if rightP C b = true ∧ fairE (b * C.length) (wts C) f = 0 then fair (b * C.length) (wts C) f else []), ii (if rightP C b then fairE (b * C.length) (wts C) f else 1)]) := by
  have hw := rright_m C hl b
  cases hr : rightP C b with
  | false =>
    rw [hr] at hw
    rw [if_neg (by simp), if_neg (by simp)]
    refine means_fn false 33 [.tmp 6, .tmp 7] Try.func11 rfl rfl rfl (by simp) (by decide) rfl fun X hX => ?_
    (repeat (first | refine awp_seq ?_ | refine awp_block ?_ | ((first | refine awp_runG [0, 1, 2, 6, 7, 8, 10, 11, 15] hX ?_ | refine awp_drawnG [0, 1, 2, 6, 7, 8, 10, 11, 15] hX mixed ?_ | refine awp_ret ?_ | refine awp_skip ?_ | refine awp_exit ?_); (simp [go_sem]; try (refine ⟨by kernel_rfl, ?_⟩)))))
    first | refine callK_intro (hw) rfl (by simp [go_sem]) rfl ?_ | refine callT_intro (hw) rfl (by simp [go_sem]) rfl ?_
    try (simp [go_sem]; try (refine ⟨by kernel_rfl, ?_⟩))
    refine awp_cond (b := true) (by simp [go_sem]) (fun _ => ?_) (fun h => by cases h)
    (repeat (first | refine awp_seq ?_ | refine awp_block ?_ | ((first | refine awp_runG [0, 1, 2, 6, 7, 8, 10, 11, 15] hX ?_ | refine awp_drawnG [0, 1, 2, 6, 7, 8, 10, 11, 15] hX mixed ?_ | refine awp_ret ?_ | refine awp_skip ?_ | refine awp_exit ?_); (simp [go_sem]; try (refine ⟨by kernel_rfl, ?_⟩)))))
  | true =>
    rw [hr] at hw
    have R := right_RP hr
    have hlen := R.len
    have hcb := R.coin
    have cW := rweights_m C (by omega) R.all
    have cf := rfair_m (b * C.length) (wts C) f (by rw [wts_len]; exact hl)
    have e : (if true = true ∧ fairE (b * C.length) (wts C) f = 0 then fair (b * C.length) (wts C) f else []) = (if fairE (b * C.length) (wts C) f = 0 then fair (b * C.length) (wts C) f else []) := by
      by_cases q : fairE (b * C.length) (wts C) f = 0
      · rw [if_pos ⟨rfl, q⟩, if_pos q]
      · rw [if_neg (fun r => q r.2), if_neg q]
    rw [if_pos rfl, e]
    clear e
    generalize (if fairE (b * C.length) (wts C) f = 0 then fair (b * C.length) (wts C) f else []) = A at *
    generalize fairE (b * C.length) (wts C) f = E at *
    generalize hcc : b * (C.length : Int) = c at *
    have wc := w64 (x := c) (by omega) (by omega)
    generalize sumL (wts C) = S at *
    generalize wts C = W at *
    refine means_fn false 33 [.tmp 6, .tmp 7] Try.func11 rfl rfl rfl (by simp) (by decide) rfl fun X hX => ?_
    (repeat (first | refine awp_seq ?_ | refine awp_block ?_ | ((first | refine awp_runG [0, 1, 2, 6, 7, 8, 10, 11, 15] hX ?_ | refine awp_drawnG [0, 1, 2, 6, 7, 8, 10, 11, 15] hX mixed ?_ | refine awp_ret ?_ | refine awp_skip ?_ | refine awp_exit ?_); (simp [go_sem]; try (refine ⟨by kernel_rfl, ?_⟩)))))
    first | refine callK_intro (hw) rfl (by simp [go_sem]) rfl ?_ | refine callT_intro (hw) rfl (by simp [go_sem]) rfl ?_
    try (simp [go_sem]; try (refine ⟨by kernel_rfl, ?_⟩))
    refine awp_cond (b := false) (by simp [go_sem]) (fun h => by cases h) (fun _ => ?_)
    (repeat (first | refine awp_seq ?_ | refine awp_block ?_ | ((first | refine awp_runG [0, 1, 2, 6, 7, 8, 10, 11, 15] hX ?_ | refine awp_drawnG [0, 1, 2, 6, 7, 8, 10, 11, 15] hX mixed ?_ | refine awp_ret ?_ | refine awp_skip ?_ | refine awp_exit ?_); (simp [go_sem]; try (refine ⟨by kernel_rfl, ?_⟩)))))
    first | refine callK_intro (cW) rfl (by simp [go_sem]) rfl ?_ | refine callT_intro (cW) rfl (by simp [go_sem]) rfl ?_
    try (simp [go_sem]; try (refine ⟨by kernel_rfl, ?_⟩))
    (repeat (first | refine awp_seq ?_ | refine awp_block ?_ | ((first | refine awp_runG [0, 1, 2, 6, 7, 8, 10, 11, 15] hX ?_ | refine awp_drawnG [0, 1, 2, 6, 7, 8, 10, 11, 15] hX mixed ?_ | refine awp_ret ?_ | refine awp_skip ?_ | refine awp_exit ?_); (simp [go_sem, hcc, wc]; try (refine ⟨by kernel_rfl, ?_⟩)))))
    first | refine callK_intro (cf) rfl (by simp [go_sem]) rfl ?_ | refine callT_intro (cf) rfl (by simp [go_sem]) rfl ?_
    try (simp [go_sem]; try (refine ⟨by kernel_rfl, ?_⟩))
    (repeat (first | refine awp_seq ?_ | refine awp_block ?_ | ((first | refine awp_runG [0, 1, 2, 6, 7, 8, 10, 11, 15] hX ?_ | refine awp_drawnG [0, 1, 2, 6, 7, 8, 10, 11, 15] hX mixed ?_ | refine awp_ret ?_ | refine awp_skip ?_ | refine awp_exit ?_); (simp [go_sem]; try (refine ⟨by kernel_rfl, ?_⟩)))))

set_option maxHeartbeats 4000000 in
set_option maxRecDepth 20000 in
theorem premiumTells_m (C : List Int) (hl : C.length ≤ 9223372036854775807) (b f : Int) : Means false Try.prog 3 [il C, ii b, ii f] (bb true) := by
  have c1 := rates_m C hl b
  have c2 := rrates_m C hl b
  have c3 := round_m C hl b f
  have c4 := rround_m C hl b f
  have l1 : (if rightP C b = true then rts C b else []).length ≤ 9223372036854775807 := by
    split
    · rw [rts_len]; exact hl
    · simp
  have l2 : (if rightP C b = true ∧ fairE (b * C.length) (wts C) f = 0 then fair (b * C.length) (wts C) f else []).length ≤ 9223372036854775807 := by
    split
    · rw [fair_len, wts_len]; exact hl
    · simp
  have z1 : ∀ i (h : i < (if rightP C b = true then rts C b else []).length), rz (if rightP C b = true then rts C b else [])[i].1 ∧ rz (if rightP C b = true then rts C b else [])[i].2 := by
    by_cases hr : rightP C b = true
    · rw [if_pos hr]
      intro i h
      have hi : i < C.length := by rw [rts_len] at h; exact h
      rw [rts_at hi]
      have R := right_RP hr
      have := rt_rf (c := b * C.length) (S := sumL (wts C)) (w := C[i] + 1) (R.prod (by have := R.mem hi; omega)) R.sum
      exact ⟨this.1, this.2.1⟩
    · rw [if_neg hr]; intro i h; simp at h
  have i1 := sameF_t _ l1 z1
  have i2 := same_t _ l2
  generalize (if rightP C b = true then rts C b else []) = A at *
  generalize A.map fz = A' at *
  generalize (if rightP C b = true ∧ fairE (b * C.length) (wts C) f = 0 then fair (b * C.length) (wts C) f else []) = B at *
  generalize (if rightP C b = true then (0 : Int) else 1) = e1 at *
  generalize (if rightP C b = true then fairE (b * C.length) (wts C) f else 1) = e2 at *
  refine means_fn false 68 [.tmp 6] Try.func3 rfl rfl rfl (by simp) (by decide) rfl fun X hX => ?_
  (repeat (first | refine awp_seq ?_ | refine awp_block ?_ | ((first | refine awp_runG [0, 1, 2, 6, 7, 8, 9, 10, 11, 12, 13, 14, 15, 19] hX ?_ | refine awp_drawnG [0, 1, 2, 6, 7, 8, 9, 10, 11, 12, 13, 14, 15, 19] hX mixed ?_ | refine awp_ret ?_ | refine awp_skip ?_ | refine awp_exit ?_); (simp [go_sem]; try (refine ⟨by kernel_rfl, ?_⟩)))))
  first | refine callK_intro (small_m) rfl (by simp [go_sem]) rfl ?_ | refine callT_intro (small_m) rfl (by simp [go_sem]) rfl ?_
  try (simp [go_sem]; try (refine ⟨by kernel_rfl, ?_⟩))
  (repeat (first | refine awp_seq ?_ | refine awp_block ?_ | ((first | refine awp_runG [0, 1, 2, 6, 7, 8, 9, 10, 11, 12, 13, 14, 15, 19] hX ?_ | refine awp_drawnG [0, 1, 2, 6, 7, 8, 9, 10, 11, 12, 13, 14, 15, 19] hX mixed ?_ | refine awp_ret ?_ | refine awp_skip ?_ | refine awp_exit ?_); (simp [go_sem]; try (refine ⟨by kernel_rfl, ?_⟩)))))
  refine awp_cond (b := decide (70 < (C.length : Int))) (by simp [go_sem]) (fun hb => ?_) (fun hb => ?_)
  · (repeat (first | refine awp_seq ?_ | refine awp_block ?_ | ((first | refine awp_runG [0, 1, 2, 6, 7, 8, 9, 10, 11, 12, 13, 14, 15, 19] hX ?_ | refine awp_drawnG [0, 1, 2, 6, 7, 8, 9, 10, 11, 12, 13, 14, 15, 19] hX mixed ?_ | refine awp_ret ?_ | refine awp_skip ?_ | refine awp_exit ?_); (simp [go_sem]; try (refine ⟨by kernel_rfl, ?_⟩)))))
  (repeat (first | refine awp_seq ?_ | refine awp_block ?_ | ((first | refine awp_runG [0, 1, 2, 6, 7, 8, 9, 10, 11, 12, 13, 14, 15, 19] hX ?_ | refine awp_drawnG [0, 1, 2, 6, 7, 8, 9, 10, 11, 12, 13, 14, 15, 19] hX mixed ?_ | refine awp_ret ?_ | refine awp_skip ?_ | refine awp_exit ?_); (simp [go_sem]; try (refine ⟨by kernel_rfl, ?_⟩)))))
  first | refine callK_intro (c1) rfl (by simp [go_sem]) rfl ?_ | refine callT_intro (c1) rfl (by simp [go_sem]) rfl ?_
  try (simp [go_sem]; try (refine ⟨by kernel_rfl, ?_⟩))
  (repeat (first | refine awp_seq ?_ | refine awp_block ?_ | ((first | refine awp_runG [0, 1, 2, 6, 7, 8, 9, 10, 11, 12, 13, 14, 15, 19] hX ?_ | refine awp_drawnG [0, 1, 2, 6, 7, 8, 9, 10, 11, 12, 13, 14, 15, 19] hX mixed ?_ | refine awp_ret ?_ | refine awp_skip ?_ | refine awp_exit ?_); (simp [go_sem]; try (refine ⟨by kernel_rfl, ?_⟩)))))
  first | refine callK_intro (c2) rfl (by simp [go_sem]) rfl ?_ | refine callT_intro (c2) rfl (by simp [go_sem]) rfl ?_
  try (simp [go_sem]; try (refine ⟨by kernel_rfl, ?_⟩))
  (repeat (first | refine awp_seq ?_ | refine awp_block ?_ | ((first | refine awp_runG [0, 1, 2, 6, 7, 8, 9, 10, 11, 12, 13, 14, 15, 19] hX ?_ | refine awp_drawnG [0, 1, 2, 6, 7, 8, 9, 10, 11, 12, 13, 14, 15, 19] hX mixed ?_ | refine awp_ret ?_ | refine awp_skip ?_ | refine awp_exit ?_); (simp [go_sem]; try (refine ⟨by kernel_rfl, ?_⟩)))))
  first | refine callK_intro (c3) rfl (by simp [go_sem]) rfl ?_ | refine callT_intro (c3) rfl (by simp [go_sem]) rfl ?_
  try (simp [go_sem]; try (refine ⟨by kernel_rfl, ?_⟩))
  (repeat (first | refine awp_seq ?_ | refine awp_block ?_ | ((first | refine awp_runG [0, 1, 2, 6, 7, 8, 9, 10, 11, 12, 13, 14, 15, 19] hX ?_ | refine awp_drawnG [0, 1, 2, 6, 7, 8, 9, 10, 11, 12, 13, 14, 15, 19] hX mixed ?_ | refine awp_ret ?_ | refine awp_skip ?_ | refine awp_exit ?_); (simp [go_sem]; try (refine ⟨by kernel_rfl, ?_⟩)))))
  first | refine callK_intro (c4) rfl (by simp [go_sem]) rfl ?_ | refine callT_intro (c4) rfl (by simp [go_sem]) rfl ?_
  try (simp [go_sem]; try (refine ⟨by kernel_rfl, ?_⟩))
  (repeat (first | refine awp_seq ?_ | refine awp_block ?_ | ((first | refine awp_runG [0, 1, 2, 6, 7, 8, 9, 10, 11, 12, 13, 14, 15, 19] hX ?_ | refine awp_drawnG [0, 1, 2, 6, 7, 8, 9, 10, 11, 12, 13, 14, 15, 19] hX mixed ?_ | refine awp_ret ?_ | refine awp_skip ?_ | refine awp_exit ?_); (simp [go_sem]; try (refine ⟨by kernel_rfl, ?_⟩)))))
  first | refine callG_intro (fun hg => i1) rfl (by simp [go_sem]) rfl ?_ | refine callGT_intro (fun hg => i1) rfl (by simp [go_sem]) rfl ?_
  try (simp [go_sem]; try (refine ⟨by kernel_rfl, ?_⟩))
  first | refine callG_intro (fun hg => i2) rfl (by simp [go_sem]) rfl ?_ | refine callGT_intro (fun hg => i2) rfl (by simp [go_sem]) rfl ?_
  try (simp [go_sem]; try (refine ⟨by kernel_rfl, ?_⟩))
  (repeat (first | refine awp_seq ?_ | refine awp_block ?_ | ((first | refine awp_runG [0, 1, 2, 6, 7, 8, 9, 10, 11, 12, 13, 14, 15, 19] hX ?_ | refine awp_drawnG [0, 1, 2, 6, 7, 8, 9, 10, 11, 12, 13, 14, 15, 19] hX mixed ?_ | refine awp_ret ?_ | refine awp_skip ?_ | refine awp_exit ?_); (simp [go_sem]; try (refine ⟨by kernel_rfl, ?_⟩)))))

end Go.Proofs.Ytlcmmaokfbjojaa
