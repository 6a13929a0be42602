/-
  Layer 37: premiums in whole coins, what is right, the examples.
-/
import Derived.Test.YtlcmmaokfbjojaaPreC
set_option linter.all false
namespace Go.Proofs.Ytlcmmaokfbjojaa
open Go.RowKit Go.Ab
attribute [local irreducible] AWP Go.Ab.Sub Means MeansH CallK CallG CallT CallGT CallU

theorem round_m (C : List Int) (hl : C.length ≤ 9223372036854775807) (b f : Int) : Means false Try.prog 10 [il C, ii b, ii f] (.tup [il (if rightP C b = true ∧ fairE (b * C.length) (wts C) f = 0 then fair (b * C.length) (wts C) f else []), ii (if rightP C b then fairE (b * C.length) (wts C) f else 1)]) := by
  have hw := weigh_m C hl b
  cases hr : rightP C b with
  | false =>
    rw [hr] at hw
    rw [if_neg (by simp), if_neg (by simp)]
    rw [if_neg (by simp), if_neg (by simp), if_neg (by simp)] at hw
    refine means_fn false 28 [.tmp 6, .tmp 7] Try.func10 rfl rfl rfl (by simp) (by decide) rfl fun X hX => ?_
    (repeat (first | refine awp_seq ?_ | refine awp_block ?_ | ((first | refine awp_runG [0, 1, 2, 6, 7, 8, 10, 11, 21] hX ?_ | refine awp_drawnG [0, 1, 2, 6, 7, 8, 10, 11, 21] hX mixed ?_ | refine awp_ret ?_ | refine awp_skip ?_ | refine awp_exit ?_); (simp [go_sem]; try (refine ⟨by kernel_rfl, ?_⟩)))))
    first | refine callK_intro (hw) rfl (by simp [go_sem]) rfl ?_ | refine callT_intro (hw) rfl (by simp [go_sem]) rfl ?_
    try (simp [go_sem]; try (refine ⟨by kernel_rfl, ?_⟩))
    (repeat (first | refine awp_seq ?_ | refine awp_block ?_ | ((first | refine awp_runG [0, 1, 2, 6, 7, 8, 10, 11, 21] hX ?_ | refine awp_drawnG [0, 1, 2, 6, 7, 8, 10, 11, 21] hX mixed ?_ | refine awp_ret ?_ | refine awp_skip ?_ | refine awp_exit ?_); (simp [go_sem]; try (refine ⟨by kernel_rfl, ?_⟩)))))
    refine awp_cond (b := true) (by simp [go_sem]) (fun _ => ?_) (fun h => by cases h)
    (repeat (first | refine awp_seq ?_ | refine awp_block ?_ | ((first | refine awp_runG [0, 1, 2, 6, 7, 8, 10, 11, 21] hX ?_ | refine awp_drawnG [0, 1, 2, 6, 7, 8, 10, 11, 21] hX mixed ?_ | refine awp_ret ?_ | refine awp_skip ?_ | refine awp_exit ?_); (simp [go_sem]; try (refine ⟨by kernel_rfl, ?_⟩)))))
  | true =>
    rw [hr] at hw
    rw [if_pos rfl, if_pos rfl, if_pos rfl] at hw
    have cf := fair_m (b * C.length) (wts C) f (by rw [wts_len]; exact hl)
    have e : (if true = true ∧ fairE (b * C.length) (wts C) f = 0 then fair (b * C.length) (wts C) f else []) = (if fairE (b * C.length) (wts C) f = 0 then fair (b * C.length) (wts C) f else []) := by
      by_cases q : fairE (b * C.length) (wts C) f = 0
      · rw [if_pos ⟨rfl, q⟩, if_pos q]
      · rw [if_neg (fun r => q r.2), if_neg q]
    rw [if_pos rfl, e]
    clear e
    generalize (if fairE (b * C.length) (wts C) f = 0 then fair (b * C.length) (wts C) f else []) = A at *
    generalize fairE (b * C.length) (wts C) f = E at *
    generalize b * (C.length : Int) = c at *
    generalize sumL (wts C) = S at *
    generalize wts C = W at *
    refine means_fn false 28 [.tmp 6, .tmp 7] Try.func10 rfl rfl rfl (by simp) (by decide) rfl fun X hX => ?_
    (repeat (first | refine awp_seq ?_ | refine awp_block ?_ | ((first | refine awp_runG [0, 1, 2, 6, 7, 8, 10, 11, 21] hX ?_ | refine awp_drawnG [0, 1, 2, 6, 7, 8, 10, 11, 21] hX mixed ?_ | refine awp_ret ?_ | refine awp_skip ?_ | refine awp_exit ?_); (simp [go_sem]; try (refine ⟨by kernel_rfl, ?_⟩)))))
    first | refine callK_intro (hw) rfl (by simp [go_sem]) rfl ?_ | refine callT_intro (hw) rfl (by simp [go_sem]) rfl ?_
    try (simp [go_sem]; try (refine ⟨by kernel_rfl, ?_⟩))
    (repeat (first | refine awp_seq ?_ | refine awp_block ?_ | ((first | refine awp_runG [0, 1, 2, 6, 7, 8, 10, 11, 21] hX ?_ | refine awp_drawnG [0, 1, 2, 6, 7, 8, 10, 11, 21] hX mixed ?_ | refine awp_ret ?_ | refine awp_skip ?_ | refine awp_exit ?_); (simp [go_sem]; try (refine ⟨by kernel_rfl, ?_⟩)))))
    refine awp_cond (b := false) (by simp [go_sem]) (fun h => by cases h) (fun _ => ?_)
    (repeat (first | refine awp_seq ?_ | refine awp_block ?_ | ((first | refine awp_runG [0, 1, 2, 6, 7, 8, 10, 11, 21] hX ?_ | refine awp_drawnG [0, 1, 2, 6, 7, 8, 10, 11, 21] hX mixed ?_ | refine awp_ret ?_ | refine awp_skip ?_ | refine awp_exit ?_); (simp [go_sem]; try (refine ⟨by kernel_rfl, ?_⟩)))))
    first | refine callK_intro (cf) rfl (by simp [go_sem]) rfl ?_ | refine callT_intro (cf) rfl (by simp [go_sem]) rfl ?_
    try (simp [go_sem]; try (refine ⟨by kernel_rfl, ?_⟩))
    (repeat (first | refine awp_seq ?_ | refine awp_block ?_ | ((first | refine awp_runG [0, 1, 2, 6, 7, 8, 10, 11, 21] hX ?_ | refine awp_drawnG [0, 1, 2, 6, 7, 8, 10, 11, 21] hX mixed ?_ | refine awp_ret ?_ | refine awp_skip ?_ | refine awp_exit ?_); (simp [go_sem]; try (refine ⟨by kernel_rfl, ?_⟩)))))

set_option maxHeartbeats 4000000 in
set_option maxRecDepth 20000 in
theorem rright_m (C : List Int) (hl : C.length ≤ 9223372036854775807) (b : Int) : Means true Try.prog 14 [il C, ii b] (bb (rightP C b)) := by
  by_cases h0 : C.length = 0
  · have hC : C = [] := List.length_eq_zero_iff.1 h0
    subst hC
    have e : rightP [] b = false := by simp [rightP, okB]
    rw [e]
    refine means_fn true 43 [.tmp 4] Try.func14 rfl rfl rfl (by simp) (by decide) rfl fun X hX => ?_
    (repeat (first | refine awp_seq ?_ | refine awp_block ?_ | ((first | refine awp_runG [0, 1, 4, 5, 24, 28, 42] hX ?_ | refine awp_drawnG [0, 1, 4, 5, 24, 28, 42] hX mixed ?_ | refine awp_ret ?_ | refine awp_skip ?_ | refine awp_exit ?_); (simp [go_sem]; try (refine ⟨by kernel_rfl, ?_⟩)))))
    refine awp_cond (b := true) (by simp [go_sem]) (fun _ => ?_) (fun h => by cases h)
    (repeat (first | refine awp_seq ?_ | refine awp_block ?_ | ((first | refine awp_runG [0, 1, 4, 5, 24, 28, 42] hX ?_ | refine awp_drawnG [0, 1, 4, 5, 24, 28, 42] hX mixed ?_ | refine awp_ret ?_ | refine awp_skip ?_ | refine awp_exit ?_); (simp [go_sem]; try (refine ⟨by kernel_rfl, ?_⟩)))))
  · have htd : Int.tdiv 1099511627776 (C.length : Int) = 1099511627776 / (C.length : Int) := Int.tdiv_eq_ediv_of_nonneg (by omega)
    have hd0 := Int.ediv_nonneg (a := 1099511627776) (b := (C.length : Int)) (by omega) (by omega)
    have hd1 := Int.ediv_le_self (C.length : Int) (show (0 : Int) ≤ 1099511627776 by omega)
    have w1 := w64 (x := 1099511627776 / (C.length : Int)) (by omega) (by omega)
    have hn0 : ¬ (C.length : Int) = 0 := by omega
    have hn1 : ¬ (C.length : Int) < 1 := by omega
    have eB : okB C b = (!decide ((60 : Int) < C.length) && !decide (b < 0) && !decide (1099511627776 / (C.length : Int) < b)) := by
      unfold okB
      rw [Bool.eq_iff_iff]; simp; omega
    refine means_fn true 43 [.tmp 4] Try.func14 rfl rfl rfl (by simp) (by decide) rfl fun X hX => ?_
    (repeat (first | refine awp_seq ?_ | refine awp_block ?_ | ((first | refine awp_runG [0, 1, 4, 5, 24, 28, 42] hX ?_ | refine awp_drawnG [0, 1, 4, 5, 24, 28, 42] hX mixed ?_ | refine awp_ret ?_ | refine awp_skip ?_ | refine awp_exit ?_); (simp [go_sem, htd, w1, hn0, hn1, h0]; try (refine ⟨by kernel_rfl, ?_⟩)))))
    try (repeat refine And.intro (by first | omega | (unfold maxLen; omega) | kernel_rfl | (refine ⟨by first | omega | (unfold maxLen; omega), by first | omega | (unfold maxLen; omega)⟩) | grind) ?_)
    refine awp_cond (b := !okB C b) (by rw [eB]; simp [go_sem, hn0, hn1, h0]; try (rw [Bool.eq_iff_iff]; simp; try omega)) (fun hb => ?_) (fun hb => ?_)
    · have e : rightP C b = false := by unfold rightP; simp at hb; rw [hb]; rfl
      rw [e]
      (repeat (first | refine awp_seq ?_ | refine awp_block ?_ | ((first | refine awp_runG [0, 1, 4, 5, 24, 28, 42] hX ?_ | refine awp_drawnG [0, 1, 4, 5, 24, 28, 42] hX mixed ?_ | refine awp_ret ?_ | refine awp_skip ?_ | refine awp_exit ?_); (simp [go_sem]; try (refine ⟨by kernel_rfl, ?_⟩)))))
    · have e : rightP C b = C.all inC7 := by unfold rightP; simp at hb; rw [hb]; rfl
      rw [e]
      clear e eB
      (repeat (first | refine awp_seq ?_ | refine awp_block ?_ | ((first | refine awp_runG [0, 1, 4, 5, 24, 28, 42] hX ?_ | refine awp_drawnG [0, 1, 4, 5, 24, 28, 42] hX mixed ?_ | refine awp_ret ?_ | refine awp_skip ?_ | refine awp_exit ?_); (simp [go_sem]; try (refine ⟨by kernel_rfl, ?_⟩)))))
      refine awp_loop (fun k : Nat => ⟨mkE [(0, il C), (5, ii k)], []⟩) (fun k => k ≤ C.length ∧ (C.take k).all inC7 = true) (fun k => C.length - k) 0 ?_ ?_ ?_
      · refine sub_of _ [] (by simp [go_sem]) ?_
        simp [go_sem]
      · simp
      · rintro k ⟨h1, h2⟩
        (repeat (first | refine awp_seq ?_ | refine awp_block ?_ | ((first | refine awp_runG [0, 1, 4, 5, 24, 28, 42] hX ?_ | refine awp_drawnG [0, 1, 4, 5, 24, 28, 42] hX mixed ?_ | refine awp_ret ?_ | refine awp_skip ?_ | refine awp_exit ?_); (simp [go_sem]; try (refine ⟨by kernel_rfl, ?_⟩)))))
        refine awp_cond (b := decide (k < C.length)) (by simp [go_sem]) (fun hc => ?_) (fun hc => ?_)
        · simp at hc
          have hsu : (C.take (k + 1)).all inC7 = ((C.take k).all inC7 && inC7 C[k]) := by rw [List.take_succ_eq_append_getElem hc, List.all_append]; simp
          rw [h2, Bool.true_and] at hsu
          have hbad : inC7 C[k] = false → C.all inC7 = false := fun h => List.all_eq_false.2 ⟨C[k], List.getElem_mem hc, by simp [h]⟩
          have wk := w64 (x := (k : Int) + 1) (by omega) (by omega)
          (repeat (first | refine awp_seq ?_ | refine awp_block ?_ | ((first | refine awp_runG [0, 1, 4, 5, 24, 28, 42] hX ?_ | refine awp_drawnG [0, 1, 4, 5, 24, 28, 42] hX mixed ?_ | refine awp_ret ?_ | refine awp_skip ?_ | refine awp_exit ?_); (simp [go_sem, hc]; try (refine ⟨by kernel_rfl, ?_⟩)))))
          refine awp_cond (b := !inC7 C[k]) (by simp [go_sem, hc, inC7]; try (rw [Bool.eq_iff_iff]; simp; try omega)) (fun hd => ?_) (fun hd => ?_)
          · rw [hbad (by simpa using hd)]
            (repeat (first | refine awp_seq ?_ | refine awp_block ?_ | ((first | refine awp_runG [0, 1, 4, 5, 24, 28, 42] hX ?_ | refine awp_drawnG [0, 1, 4, 5, 24, 28, 42] hX mixed ?_ | refine awp_ret ?_ | refine awp_skip ?_ | refine awp_exit ?_); (simp [go_sem]; try (refine ⟨by kernel_rfl, ?_⟩)))))
          · have hd' : inC7 C[k] = true := by simpa using hd
            (repeat (first | refine awp_seq ?_ | refine awp_block ?_ | ((first | refine awp_runG [0, 1, 4, 5, 24, 28, 42] hX ?_ | refine awp_drawnG [0, 1, 4, 5, 24, 28, 42] hX mixed ?_ | refine awp_ret ?_ | refine awp_skip ?_ | refine awp_exit ?_); (simp [go_sem, wk]; try (refine ⟨by kernel_rfl, ?_⟩)))))
            refine ⟨k + 1, ⟨by omega, ?_⟩, by omega, ?_⟩
            · exact List.all_eq_true.1 (by rw [hsu]; exact hd')
            · refine sub_of _ [] (by simp [go_sem]) ?_
              simp [go_sem]
        · have : k = C.length := by simp at hc; omega
          subst this
          rw [List.take_length] at h2
          rw [h2]
          (repeat (first | refine awp_seq ?_ | refine awp_block ?_ | ((first | refine awp_runG [0, 1, 4, 5, 24, 28, 42] hX ?_ | refine awp_drawnG [0, 1, 4, 5, 24, 28, 42] hX mixed ?_ | refine awp_ret ?_ | refine awp_skip ?_ | refine awp_exit ?_); (simp [go_sem]; try (refine ⟨by kernel_rfl, ?_⟩)))))

theorem rates_t (C : List Int) (b : Int) (T : List (Int × Int)) (hl : C.length ≤ 9223372036854775807) (h : rightP C b = true) (e : rts C b = T) : Means false Try.prog 8 [il C, ii b] (.tup [.sl (T.map fz), ii 0]) := by
  have := rates_m C hl b
  rwa [if_pos h, if_pos h, e] at this
theorem round_t (C : List Int) (b f : Int) (A : List Int) (hl : C.length ≤ 9223372036854775807) (h : rightP C b = true) (he : fairE (b * C.length) (wts C) f = 0) (e : fair (b * C.length) (wts C) f = A) : Means false Try.prog 10 [il C, ii b, ii f] (.tup [il A, ii 0]) := by
  have := round_m C hl b f
  rwa [if_pos ⟨h, he⟩, if_pos h, he, e] at this
theorem of_t (p q x y : Int) (hp : -9223372036854775808 ≤ p ∧ p ≤ 9223372036854775807) (hq : -9223372036854775808 ≤ q ∧ q ≤ 9223372036854775807) (h0 : q ≠ 0) (hx : np p q = x) (hy : nq p q = y) : Means false Try.prog 16 [ii p, ii q] (frZ x y) := by
  have := of_m p q hp hq h0
  rwa [hx, hy] at this
theorem e1 : rts [0, 1] 3 = [(2, 1), (4, 1)] := by decide +kernel
theorem e2 : rts [0, 2] 1 = [(1, 2), (3, 2)] := by decide +kernel

set_option maxHeartbeats 8000000 in
set_option maxRecDepth 20000 in
theorem small_m : Means false Try.prog 7 [] (bb true) := by
  have z12 : ∀ i (h : i < [((2 : Int), (1 : Int)), (4, 1)].length), rz [((2 : Int), (1 : Int)), (4, 1)][i].1 ∧ rz [((2 : Int), (1 : Int)), (4, 1)][i].2 := fun i h => by
    have : i = 0 ∨ i = 1 := by simp at h; omega
    rcases this with rfl | rfl
    · exact show rz 2 ∧ rz 1 from ⟨rz_c (by decide), rz_c (by decide)⟩
    · exact show rz 4 ∧ rz 1 from ⟨rz_c (by decide), rz_c (by decide)⟩
  have z34 : ∀ i (h : i < [((1 : Int), (2 : Int)), (3, 2)].length), rz [((1 : Int), (2 : Int)), (3, 2)][i].1 ∧ rz [((1 : Int), (2 : Int)), (3, 2)][i].2 := fun i h => by
    have : i = 0 ∨ i = 1 := by simp at h; omega
    rcases this with rfl | rfl
    · exact show rz 1 ∧ rz 2 from ⟨rz_c (by decide), rz_c (by decide)⟩
    · exact show rz 3 ∧ rz 2 from ⟨rz_c (by decide), rz_c (by decide)⟩
  have cn := rates_m [] (by decide) 1
  have en : rightP [] 1 = false := by decide
  rw [en, if_neg (by simp), if_neg (by simp)] at cn
  refine means_fn false 83 [.tmp 0] Try.func7 rfl rfl rfl (by simp) (by decide) rfl fun X hX => ?_
  (repeat (first | refine awp_seq ?_ | refine awp_block ?_ | ((first | refine awp_runG [0, 1, 2, 3, 4, 5, 6, 7, 8, 10, 11] hX ?_ | refine awp_drawnG [0, 1, 2, 3, 4, 5, 6, 7, 8, 10, 11] hX mixed ?_ | refine awp_ret ?_ | refine awp_skip ?_ | refine awp_exit ?_); (simp [go_sem]; try (refine ⟨by kernel_rfl, ?_⟩)))))
  refine callKk_intro (rates_t [0, 1] 3 _ (by decide) (by decide) e1) rfl rfl ?_
  try (simp [go_sem]; try (refine ⟨by kernel_rfl, ?_⟩))
  (repeat (first | refine awp_seq ?_ | refine awp_block ?_ | ((first | refine awp_runG [0, 1, 2, 3, 4, 5, 6, 7, 8, 10, 11] hX ?_ | refine awp_drawnG [0, 1, 2, 3, 4, 5, 6, 7, 8, 10, 11] hX mixed ?_ | refine awp_ret ?_ | refine awp_skip ?_ | refine awp_exit ?_); (simp [go_sem]; try (refine ⟨by kernel_rfl, ?_⟩)))))
  refine callKk_intro (round_t [0, 1] 3 0 [2, 4] (by decide) (by decide) (by decide) (by decide)) rfl rfl ?_
  try (simp [go_sem]; try (refine ⟨by kernel_rfl, ?_⟩))
  (repeat (first | refine awp_seq ?_ | refine awp_block ?_ | ((first | refine awp_runG [0, 1, 2, 3, 4, 5, 6, 7, 8, 10, 11] hX ?_ | refine awp_drawnG [0, 1, 2, 3, 4, 5, 6, 7, 8, 10, 11] hX mixed ?_ | refine awp_ret ?_ | refine awp_skip ?_ | refine awp_exit ?_); (simp [go_sem]; try (refine ⟨by kernel_rfl, ?_⟩)))))
  refine callKk_intro (rates_t [0, 2] 1 _ (by decide) (by decide) e2) rfl rfl ?_
  try (simp [go_sem]; try (refine ⟨by kernel_rfl, ?_⟩))
  (repeat (first | refine awp_seq ?_ | refine awp_block ?_ | ((first | refine awp_runG [0, 1, 2, 3, 4, 5, 6, 7, 8, 10, 11] hX ?_ | refine awp_drawnG [0, 1, 2, 3, 4, 5, 6, 7, 8, 10, 11] hX mixed ?_ | refine awp_ret ?_ | refine awp_skip ?_ | refine awp_exit ?_); (simp [go_sem]; try (refine ⟨by kernel_rfl, ?_⟩)))))
  refine callKk_intro (round_t [0, 2] 1 0 [0, 2] (by decide) (by decide) (by decide) (by decide)) rfl rfl ?_
  try (simp [go_sem]; try (refine ⟨by kernel_rfl, ?_⟩))
  (repeat (first | refine awp_seq ?_ | refine awp_block ?_ | ((first | refine awp_runG [0, 1, 2, 3, 4, 5, 6, 7, 8, 10, 11] hX ?_ | refine awp_drawnG [0, 1, 2, 3, 4, 5, 6, 7, 8, 10, 11] hX mixed ?_ | refine awp_ret ?_ | refine awp_skip ?_ | refine awp_exit ?_); (simp [go_sem]; try (refine ⟨by kernel_rfl, ?_⟩)))))
  first | refine callK_intro (cn) rfl (by simp [go_sem]) rfl ?_ | refine callT_intro (cn) rfl (by simp [go_sem]) rfl ?_
  try (simp [go_sem]; try (refine ⟨by kernel_rfl, ?_⟩))
  (repeat (first | refine awp_seq ?_ | refine awp_block ?_ | ((first | refine awp_runG [0, 1, 2, 3, 4, 5, 6, 7, 8, 10, 11] hX ?_ | refine awp_drawnG [0, 1, 2, 3, 4, 5, 6, 7, 8, 10, 11] hX mixed ?_ | refine awp_ret ?_ | refine awp_skip ?_ | refine awp_exit ?_); (simp [go_sem]; try (refine ⟨by kernel_rfl, ?_⟩)))))
  first | refine callK_intro (of_1 2 (by omega)) rfl (by simp [go_sem]) rfl ?_ | refine callT_intro (of_1 2 (by omega)) rfl (by simp [go_sem]) rfl ?_
  try (simp [go_sem]; try (refine ⟨by kernel_rfl, ?_⟩))
  first | refine callK_intro (of_1 4 (by omega)) rfl (by simp [go_sem]) rfl ?_ | refine callT_intro (of_1 4 (by omega)) rfl (by simp [go_sem]) rfl ?_
  try (simp [go_sem]; try (refine ⟨by kernel_rfl, ?_⟩))
  first | refine callK_intro (sameF_t [(2, 1), (4, 1)] (by decide) z12) rfl (by simp [go_sem]) rfl ?_ | refine callT_intro (sameF_t [(2, 1), (4, 1)] (by decide) z12) rfl (by simp [go_sem]) rfl ?_
  try (simp [go_sem]; try (refine ⟨by kernel_rfl, ?_⟩))
  first | refine callG_intro (fun hg => same_t [2, 4] (by decide)) rfl (by simp [go_sem]) rfl ?_ | refine callGT_intro (fun hg => same_t [2, 4] (by decide)) rfl (by simp [go_sem]) rfl ?_
  try (simp [go_sem]; try (refine ⟨by kernel_rfl, ?_⟩))
  (repeat (first | refine awp_seq ?_ | refine awp_block ?_ | ((first | refine awp_runG [0, 1, 2, 3, 4, 5, 6, 7, 8, 10, 11] hX ?_ | refine awp_drawnG [0, 1, 2, 3, 4, 5, 6, 7, 8, 10, 11] hX mixed ?_ | refine awp_ret ?_ | refine awp_skip ?_ | refine awp_exit ?_); (simp [go_sem]; try (refine ⟨by kernel_rfl, ?_⟩)))))
  first | refine callG_intro (fun hg => of_t 1 2 1 2 (by omega) (by omega) (by omega) (by decide +kernel) (by decide +kernel)) rfl (by simp [go_sem]) rfl ?_ | refine callGT_intro (fun hg => of_t 1 2 1 2 (by omega) (by omega) (by omega) (by decide +kernel) (by decide +kernel)) rfl (by simp [go_sem]) rfl ?_
  try (simp [go_sem]; try (refine ⟨by kernel_rfl, ?_⟩))
  first | refine callG_intro (fun hg => of_t 3 2 3 2 (by omega) (by omega) (by omega) (by decide +kernel) (by decide +kernel)) rfl (by simp [go_sem]) rfl ?_ | refine callGT_intro (fun hg => of_t 3 2 3 2 (by omega) (by omega) (by omega) (by decide +kernel) (by decide +kernel)) rfl (by simp [go_sem]) rfl ?_
  try (simp [go_sem]; try (refine ⟨by kernel_rfl, ?_⟩))
  first | refine callG_intro (fun hg => sameF_t [(1, 2), (3, 2)] (by decide) z34) rfl (by simp [go_sem]) rfl ?_ | refine callGT_intro (fun hg => sameF_t [(1, 2), (3, 2)] (by decide) z34) rfl (by simp [go_sem]) rfl ?_
  try (simp [go_sem]; try (refine ⟨by kernel_rfl, ?_⟩))
  first | refine callG_intro (fun hg => same_t [0, 2] (by decide)) rfl (by simp [go_sem]) rfl ?_ | refine callGT_intro (fun hg => same_t [0, 2] (by decide)) rfl (by simp [go_sem]) rfl ?_
  try (simp [go_sem]; try (refine ⟨by kernel_rfl, ?_⟩))
  first | refine callG_intro (fun hg => of_t 1 2 1 2 (by omega) (by omega) (by omega) (by decide +kernel) (by decide +kernel)) rfl (by simp [go_sem]) rfl ?_ | refine callGT_intro (fun hg => of_t 1 2 1 2 (by omega) (by omega) (by omega) (by decide +kernel) (by decide +kernel)) rfl (by simp [go_sem]) rfl ?_
  try (simp [go_sem]; try (refine ⟨by kernel_rfl, ?_⟩))
  first | refine callG_intro (fun hg => Right_t 1 2 ⟨rz_c (by decide), rz_c (by decide), by decide, by decide +kernel⟩) rfl (by simp [go_sem]) rfl ?_ | refine callGT_intro (fun hg => Right_t 1 2 ⟨rz_c (by decide), rz_c (by decide), by decide, by decide +kernel⟩) rfl (by simp [go_sem]) rfl ?_
  try (simp [go_sem]; try (refine ⟨by kernel_rfl, ?_⟩))
  (repeat (first | refine awp_seq ?_ | refine awp_block ?_ | ((first | refine awp_runG [0, 1, 2, 3, 4, 5, 6, 7, 8, 10, 11] hX ?_ | refine awp_drawnG [0, 1, 2, 3, 4, 5, 6, 7, 8, 10, 11] hX mixed ?_ | refine awp_ret ?_ | refine awp_skip ?_ | refine awp_exit ?_); (simp [go_sem]; try (refine ⟨by kernel_rfl, ?_⟩)))))

end Go.Proofs.Ytlcmmaokfbjojaa
