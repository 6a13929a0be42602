/-
  Layer 37: rates and premiums; fractions beside numbers.
-/
import Derived.Test.YtlcmmaokfbjojaaPreA
set_option linter.all false
namespace Go.Proofs.Ytlcmmaokfbjojaa
open Go.RowKit Go.Ab
attribute [local irreducible] AWP Go.Ab.Sub Means MeansH CallK CallG CallT CallGT CallU

abbrev fz (x : Int × Int) : AV := frZ x.1 x.2
/-- A rate, as the parts of a fraction. -/
def rt (c S w : Int) : Int × Int := (np (c * w) S, nq (c * w) S)
def rts (C : List Int) (b : Int) : List (Int × Int) := (wts C).map (rt (b * C.length) (sumL (wts C)))
theorem rts_len (C : List Int) (b : Int) : (rts C b).length = C.length := by unfold rts; rw [List.length_map, wts_len]

theorem zone_fz : ∀ L : List (Int × Int), zoneEs (L.map fz) = true
  | [] => rfl
  | x :: L => by rw [List.map_cons, zoneEs_cons, zone_fz L, Bool.and_true]; simp [go_sem]
theorem zone_take {L : List AV} (h : zoneEs L = true) (k : Nat) : zoneEs (L.take k) = true := by
  rw [← List.take_append_drop k L, zoneEs_app, Bool.and_eq_true] at h
  exact h.1

set_option maxHeartbeats 4000000 in
set_option maxRecDepth 20000 in
theorem rates_m (C : List Int) (hl : C.length ≤ 9223372036854775807) (b : Int) : Means false Try.prog 8 [il C, ii b] (.tup [.sl ((if rightP C b then rts C b else []).map fz), ii (if rightP C b then 0 else 1)]) := by
  have hw := weigh_m C hl b
  cases hr : rightP C b with
  | false =>
    rw [hr] at hw
    rw [if_neg (by simp), if_neg (by simp)]
    rw [if_neg (by simp), if_neg (by simp), if_neg (by simp)] at hw
    refine means_fn false 48 [.tmp 4, .tmp 5] Try.func8 rfl rfl rfl (by simp) (by decide) rfl fun X hX => ?_
    (repeat (first | refine awp_seq ?_ | refine awp_block ?_ | ((first | refine awp_runG [0, 1, 4, 5, 6, 7, 8, 9, 10, 12, 13, 14, 24, 25, 26, 27, 28, 40] hX ?_ | refine awp_drawnG [0, 1, 4, 5, 6, 7, 8, 9, 10, 12, 13, 14, 24, 25, 26, 27, 28, 40] hX mixed ?_ | refine awp_ret ?_ | refine awp_skip ?_ | refine awp_exit ?_); (simp [go_sem]; try (refine ⟨by kernel_rfl, ?_⟩)))))
    first | refine callK_intro (hw) rfl (by simp [go_sem]) rfl ?_ | refine callT_intro (hw) rfl (by simp [go_sem]) rfl ?_
    try (simp [go_sem]; try (refine ⟨by kernel_rfl, ?_⟩))
    (repeat (first | refine awp_seq ?_ | refine awp_block ?_ | ((first | refine awp_runG [0, 1, 4, 5, 6, 7, 8, 9, 10, 12, 13, 14, 24, 25, 26, 27, 28, 40] hX ?_ | refine awp_drawnG [0, 1, 4, 5, 6, 7, 8, 9, 10, 12, 13, 14, 24, 25, 26, 27, 28, 40] hX mixed ?_ | refine awp_ret ?_ | refine awp_skip ?_ | refine awp_exit ?_); (simp [go_sem]; try (refine ⟨by kernel_rfl, ?_⟩)))))
    refine awp_cond (b := true) (by simp [go_sem]) (fun _ => ?_) (fun h => by cases h)
    (repeat (first | refine awp_seq ?_ | refine awp_block ?_ | ((first | refine awp_runG [0, 1, 4, 5, 6, 7, 8, 9, 10, 12, 13, 14, 24, 25, 26, 27, 28, 40] hX ?_ | refine awp_drawnG [0, 1, 4, 5, 6, 7, 8, 9, 10, 12, 13, 14, 24, 25, 26, 27, 28, 40] hX mixed ?_ | refine awp_ret ?_ | refine awp_skip ?_ | refine awp_exit ?_); (simp [go_sem]; try (refine ⟨by kernel_rfl, ?_⟩)))))
  | true =>
    rw [hr] at hw
    rw [if_pos rfl, if_pos rfl]
    rw [if_pos rfl, if_pos rfl, if_pos rfl] at hw
    have R := right_RP hr
    have hlen := R.len
    have hsm := R.sum
    have hcb := R.coin
    have hW := wts_len C
    have hWb : ∀ k (hk : k < (wts C).length), 1 ≤ (wts C)[k] ∧ (wts C)[k] ≤ 1001 := fun k hk => by
      rw [wts_at (by omega)]; have := R.mem (i := k) (by omega); omega
    have hpr := fun k (hk : k < (wts C).length) => R.prod (w := (wts C)[k]) (by have := hWb k hk; omega)
    have hDl : ((rts C b).map fz).length = C.length := by rw [List.length_map, rts_len]
    have hDs : ∀ k (hk : k < (wts C).length), ((rts C b).map fz).take (k + 1) = ((rts C b).map fz).take k ++ [fz (rt (b * C.length) (sumL (wts C)) (wts C)[k])] := fun k hk => by
      rw [List.take_succ_eq_append_getElem (by omega), List.getElem_map]
      simp [rts]
    have hzD := zone_fz (rts C b)
    have hzt := fun k => zone_take hzD k
    generalize (rts C b).map fz = D at *
    generalize hcc : b * (C.length : Int) = c at *
    generalize sumL (wts C) = S at *
    generalize wts C = W at *
    refine means_fn false 48 [.tmp 4, .tmp 5] Try.func8 rfl rfl rfl (by simp) (by decide) rfl fun X hX => ?_
    (repeat (first | refine awp_seq ?_ | refine awp_block ?_ | ((first | refine awp_runG [0, 1, 4, 5, 6, 7, 8, 9, 10, 12, 13, 14, 24, 25, 26, 27, 28, 40] hX ?_ | refine awp_drawnG [0, 1, 4, 5, 6, 7, 8, 9, 10, 12, 13, 14, 24, 25, 26, 27, 28, 40] hX mixed ?_ | refine awp_ret ?_ | refine awp_skip ?_ | refine awp_exit ?_); (simp [go_sem]; try (refine ⟨by kernel_rfl, ?_⟩)))))
    first | refine callK_intro (hw) rfl (by simp [go_sem]) rfl ?_ | refine callT_intro (hw) rfl (by simp [go_sem]) rfl ?_
    try (simp [go_sem]; try (refine ⟨by kernel_rfl, ?_⟩))
    (repeat (first | refine awp_seq ?_ | refine awp_block ?_ | ((first | refine awp_runG [0, 1, 4, 5, 6, 7, 8, 9, 10, 12, 13, 14, 24, 25, 26, 27, 28, 40] hX ?_ | refine awp_drawnG [0, 1, 4, 5, 6, 7, 8, 9, 10, 12, 13, 14, 24, 25, 26, 27, 28, 40] hX mixed ?_ | refine awp_ret ?_ | refine awp_skip ?_ | refine awp_exit ?_); (simp [go_sem]; try (refine ⟨by kernel_rfl, ?_⟩)))))
    refine awp_cond (b := false) (by simp [go_sem]) (fun h => by cases h) (fun _ => ?_)
    (repeat (first | refine awp_seq ?_ | refine awp_block ?_ | ((first | refine awp_runG [0, 1, 4, 5, 6, 7, 8, 9, 10, 12, 13, 14, 24, 25, 26, 27, 28, 40] hX ?_ | refine awp_drawnG [0, 1, 4, 5, 6, 7, 8, 9, 10, 12, 13, 14, 24, 25, 26, 27, 28, 40] hX mixed ?_ | refine awp_ret ?_ | refine awp_skip ?_ | refine awp_exit ?_); (simp [go_sem]; try (refine ⟨by kernel_rfl, ?_⟩)))))
    refine awp_loop (fun k : Nat => ⟨mkE [(6, il W), (7, ii S), (8, ii c), (10, .ow 0), (25, il W), (26, ii W.length), (27, ii k)], [.row ⟨38, 4, D.take k⟩]⟩) (fun k => k ≤ W.length) (fun k => W.length - k) 0 ?_ ?_ ?_
    · refine sub_of _ [.birth 38 4] (by simp [go_sem]) ?_
      simp [go_sem]
    · omega
    · intro k hk
      have hzk := hzt k
      have hll : (D.take k).length = k := by rw [List.length_take]; omega
      (repeat (first | refine awp_seq ?_ | refine awp_block ?_ | ((first | refine awp_runG [0, 1, 4, 5, 6, 7, 8, 9, 10, 12, 13, 14, 24, 25, 26, 27, 28, 40] hX ?_ | refine awp_drawnG [0, 1, 4, 5, 6, 7, 8, 9, 10, 12, 13, 14, 24, 25, 26, 27, 28, 40] hX mixed ?_ | refine awp_ret ?_ | refine awp_skip ?_ | refine awp_exit ?_); (simp [go_sem]; try (refine ⟨by kernel_rfl, ?_⟩)))))
      refine awp_cond (b := decide (k < W.length)) (by simp [go_sem]) (fun hc => ?_) (fun hc => ?_)
      · simp at hc
        have a1 := hWb k hc
        have a2 := hpr k hc
        have a4 := hDs k hc
        obtain ⟨w, hw⟩ : ∃ w, W[k] = w := ⟨_, rfl⟩
        rw [hw] at a1 a2 a4
        have w1 := w64 (x := c * w) (by omega) (by omega)
        have w2 := w64 (x := (k : Int) + 1) (by omega) (by omega)
        have cO := Of_f (c * w) S (by omega) (by omega) (by omega)
        have hfz : fz (rt c S w) = frZ (np (c * w) S) (nq (c * w) S) := rfl
        rw [hfz] at a4
        generalize np (c * w) S = P at *
        generalize nq (c * w) S = Q at *
        clear hDs
        generalize D.take k = D' at *
        (repeat (first | refine awp_seq ?_ | refine awp_block ?_ | ((first | refine awp_runG [0, 1, 4, 5, 6, 7, 8, 9, 10, 12, 13, 14, 24, 25, 26, 27, 28, 40] hX ?_ | refine awp_drawnG [0, 1, 4, 5, 6, 7, 8, 9, 10, 12, 13, 14, 24, 25, 26, 27, 28, 40] hX mixed ?_ | refine awp_ret ?_ | refine awp_skip ?_ | refine awp_exit ?_); (simp [go_sem, hc, hw, w1]; try (refine ⟨by kernel_rfl, ?_⟩)))))
        first | refine callK_intro (cO) rfl (by simp [go_sem]) rfl ?_ | refine callT_intro (cO) rfl (by simp [go_sem]) rfl ?_
        try (simp [go_sem]; try (refine ⟨by kernel_rfl, ?_⟩))
        (repeat (first | refine awp_seq ?_ | refine awp_block ?_ | ((first | refine awp_runG [0, 1, 4, 5, 6, 7, 8, 9, 10, 12, 13, 14, 24, 25, 26, 27, 28, 40] hX ?_ | refine awp_drawnG [0, 1, 4, 5, 6, 7, 8, 9, 10, 12, 13, 14, 24, 25, 26, 27, 28, 40] hX mixed ?_ | refine awp_ret ?_ | refine awp_skip ?_ | refine awp_exit ?_); (simp [go_sem]; try (refine ⟨by kernel_rfl, ?_⟩)))))
        refine awp_cond (b := false) (by simp [go_sem]) (fun h => by cases h) (fun _ => ?_)
        (repeat (first | refine awp_seq ?_ | refine awp_block ?_ | ((first | refine awp_runG [0, 1, 4, 5, 6, 7, 8, 9, 10, 12, 13, 14, 24, 25, 26, 27, 28, 40] hX ?_ | refine awp_drawnG [0, 1, 4, 5, 6, 7, 8, 9, 10, 12, 13, 14, 24, 25, 26, 27, 28, 40] hX mixed ?_ | refine awp_ret ?_ | refine awp_skip ?_ | refine awp_exit ?_); (simp [go_sem, hll]; try (refine ⟨by kernel_rfl, ?_⟩)))))
        try (repeat refine And.intro (by first | omega | (unfold maxLen; omega) | kernel_rfl | (refine ⟨by first | omega | (unfold maxLen; omega), by first | omega | (unfold maxLen; omega)⟩) | grind) ?_)
        try (repeat (first | refine awp_seq ?_ | refine awp_block ?_ | ((first | refine awp_runG [0, 1, 4, 5, 6, 7, 8, 9, 10, 12, 13, 14, 24, 25, 26, 27, 28, 40] hX ?_ | refine awp_drawnG [0, 1, 4, 5, 6, 7, 8, 9, 10, 12, 13, 14, 24, 25, 26, 27, 28, 40] hX mixed ?_ | refine awp_ret ?_ | refine awp_skip ?_ | refine awp_exit ?_); (simp [go_sem, hll, w2]; try (refine ⟨by kernel_rfl, ?_⟩)))))
        refine ⟨k + 1, by omega, by omega, ?_⟩
        rw [a4]
        refine sub_of _ [.old 3 ⟨38, 4, D' ++ [frZ P Q]⟩] (by simp [go_sem, hzk]) ?_
        simp [go_sem, hzk]
        try omega
      · have : k = D.length := by simp at hc; omega
        rw [this, List.take_length]
        (repeat (first | refine awp_seq ?_ | refine awp_block ?_ | ((first | refine awp_runG [0, 1, 4, 5, 6, 7, 8, 9, 10, 12, 13, 14, 24, 25, 26, 27, 28, 40] hX ?_ | refine awp_drawnG [0, 1, 4, 5, 6, 7, 8, 9, 10, 12, 13, 14, 24, 25, 26, 27, 28, 40] hX mixed ?_ | refine awp_ret ?_ | refine awp_skip ?_ | refine awp_exit ?_); (simp [go_sem, hzD]; try (refine ⟨by kernel_rfl, ?_⟩)))))

end Go.Proofs.Ytlcmmaokfbjojaa
