/-
  The walks of the laws of layer 14: words, places.
-/
import Derived.Test.YtgkafceckdoabaaDoorLexJ
set_option linter.all false
namespace Go.Proofs.YtgkafceckdoabaaDoor
open Go.RowKit Go.Ab
attribute [local irreducible] AWP Go.Ab.Sub Means MeansH CallK CallG CallT CallGT

@[go_sem] theorem tnAdd (a b : Nat) : ((a : Int) + (b : Int)).toNat = a + b := by omega

set_option maxHeartbeats 4000000 in
set_option maxRecDepth 20000 in
theorem lexWords_m (s : By) (hs : s.length ≤ maxLen) : Means false Tryd.prog 8 [ss s] (bb true) := by
  have hs0 : s.length ≤ 9223372036854775807 := by unfold maxLen at hs; omega
  have h9 : (s.take 900).length ≤ 900 := by rw [List.length_take]; exact Nat.min_le_left _ _
  generalize hc : s.take 900 = l at h9
  have hcut := cut_m s hs0
  rw [hc] at hcut
  have hl := lex_m l
  obtain ⟨w1, w2⟩ := lex_words l
  have hnm := number_m l (by omega)
  have hwm := word_m l (by omega)
  refine means_fn false 106 [.tmp 2] Tryd.func8 rfl rfl rfl (by simp) (by decide) rfl fun X hX => ?_
  (repeat (first | refine awp_seq ?_ | refine awp_block ?_ | (refine awp_runG [0, 2, 3, 4, 5, 7, 8, 9, 10, 11, 34, 75] hX ?_; (simp [go_sem]; try (refine ⟨by kernel_rfl, ?_⟩))) | (refine awp_drawnG [0, 2, 3, 4, 5, 7, 8, 9, 10, 11, 34, 75] hX mixed ?_; (simp [go_sem]; try (refine ⟨by kernel_rfl, ?_⟩))) | (refine awp_ret ?_; (simp [go_sem]; try (refine ⟨by kernel_rfl, ?_⟩))) | (refine awp_skip ?_; (simp [go_sem]; try (refine ⟨by kernel_rfl, ?_⟩))) | (refine awp_exit ?_; (simp [go_sem]; try (refine ⟨by kernel_rfl, ?_⟩)))))
  first | refine callK_intro (small_m) rfl (by simp [go_sem]) rfl ?_ | refine callT_intro (small_m) rfl (by simp [go_sem]) rfl ?_
  try (simp [go_sem]; try (refine ⟨by kernel_rfl, ?_⟩))
  (repeat (first | refine awp_seq ?_ | refine awp_block ?_ | (refine awp_runG [0, 2, 3, 4, 5, 7, 8, 9, 10, 11, 34, 75] hX ?_; (simp [go_sem]; try (refine ⟨by kernel_rfl, ?_⟩))) | (refine awp_drawnG [0, 2, 3, 4, 5, 7, 8, 9, 10, 11, 34, 75] hX mixed ?_; (simp [go_sem]; try (refine ⟨by kernel_rfl, ?_⟩))) | (refine awp_ret ?_; (simp [go_sem]; try (refine ⟨by kernel_rfl, ?_⟩))) | (refine awp_skip ?_; (simp [go_sem]; try (refine ⟨by kernel_rfl, ?_⟩))) | (refine awp_exit ?_; (simp [go_sem]; try (refine ⟨by kernel_rfl, ?_⟩)))))
  first | refine callK_intro (hcut) rfl (by simp [go_sem]) rfl ?_ | refine callT_intro (hcut) rfl (by simp [go_sem]) rfl ?_
  try (simp [go_sem]; try (refine ⟨by kernel_rfl, ?_⟩))
  (repeat (first | refine awp_seq ?_ | refine awp_block ?_ | (refine awp_runG [0, 2, 3, 4, 5, 7, 8, 9, 10, 11, 34, 75] hX ?_; (simp [go_sem]; try (refine ⟨by kernel_rfl, ?_⟩))) | (refine awp_drawnG [0, 2, 3, 4, 5, 7, 8, 9, 10, 11, 34, 75] hX mixed ?_; (simp [go_sem]; try (refine ⟨by kernel_rfl, ?_⟩))) | (refine awp_ret ?_; (simp [go_sem]; try (refine ⟨by kernel_rfl, ?_⟩))) | (refine awp_skip ?_; (simp [go_sem]; try (refine ⟨by kernel_rfl, ?_⟩))) | (refine awp_exit ?_; (simp [go_sem]; try (refine ⟨by kernel_rfl, ?_⟩)))))
  cases hx : lexA l 0 with
  | err i e =>
    obtain ⟨_, hi, he, _⟩ := lexA_errs l hx
    have he0 : e ≠ 0 := by omega
    obtain ⟨v1, v2⟩ := w2 (fun x y h => by rw [hx] at h; cases h)
    rw [lexAV_err (by omega) hx] at hl
    rw [v1] at hwm
    rw [show numAV l = .tup [ii 0, bb false] by unfold numAV; rw [v2]; rfl] at hnm
    first | refine callK_intro (hl) rfl (by simp [go_sem]) rfl ?_ | refine callT_intro (hl) rfl (by simp [go_sem]) rfl ?_
    try (simp [go_sem]; try (refine ⟨by kernel_rfl, ?_⟩))
    (repeat (first | refine awp_seq ?_ | refine awp_block ?_ | (refine awp_runG [0, 2, 3, 4, 5, 7, 8, 9, 10, 11, 34, 75] hX ?_; (simp [go_sem]; try (refine ⟨by kernel_rfl, ?_⟩))) | (refine awp_drawnG [0, 2, 3, 4, 5, 7, 8, 9, 10, 11, 34, 75] hX mixed ?_; (simp [go_sem]; try (refine ⟨by kernel_rfl, ?_⟩))) | (refine awp_ret ?_; (simp [go_sem]; try (refine ⟨by kernel_rfl, ?_⟩))) | (refine awp_skip ?_; (simp [go_sem]; try (refine ⟨by kernel_rfl, ?_⟩))) | (refine awp_exit ?_; (simp [go_sem]; try (refine ⟨by kernel_rfl, ?_⟩)))))
    first | refine callK_intro (hnm) rfl (by simp [go_sem]) rfl ?_ | refine callT_intro (hnm) rfl (by simp [go_sem]) rfl ?_
    try (simp [go_sem]; try (refine ⟨by kernel_rfl, ?_⟩))
    (repeat (first | refine awp_seq ?_ | refine awp_block ?_ | (refine awp_runG [0, 2, 3, 4, 5, 7, 8, 9, 10, 11, 34, 75] hX ?_; (simp [go_sem]; try (refine ⟨by kernel_rfl, ?_⟩))) | (refine awp_drawnG [0, 2, 3, 4, 5, 7, 8, 9, 10, 11, 34, 75] hX mixed ?_; (simp [go_sem]; try (refine ⟨by kernel_rfl, ?_⟩))) | (refine awp_ret ?_; (simp [go_sem]; try (refine ⟨by kernel_rfl, ?_⟩))) | (refine awp_skip ?_; (simp [go_sem]; try (refine ⟨by kernel_rfl, ?_⟩))) | (refine awp_exit ?_; (simp [go_sem]; try (refine ⟨by kernel_rfl, ?_⟩)))))
    first | refine callK_intro (hwm) rfl (by simp [go_sem]) rfl ?_ | refine callT_intro (hwm) rfl (by simp [go_sem]) rfl ?_
    try (simp [go_sem]; try (refine ⟨by kernel_rfl, ?_⟩))
    (repeat (first | refine awp_seq ?_ | refine awp_block ?_ | (refine awp_runG [0, 2, 3, 4, 5, 7, 8, 9, 10, 11, 34, 75] hX ?_; (simp [go_sem]; try (refine ⟨by kernel_rfl, ?_⟩))) | (refine awp_drawnG [0, 2, 3, 4, 5, 7, 8, 9, 10, 11, 34, 75] hX mixed ?_; (simp [go_sem]; try (refine ⟨by kernel_rfl, ?_⟩))) | (refine awp_ret ?_; (simp [go_sem]; try (refine ⟨by kernel_rfl, ?_⟩))) | (refine awp_skip ?_; (simp [go_sem]; try (refine ⟨by kernel_rfl, ?_⟩))) | (refine awp_exit ?_; (simp [go_sem]; try (refine ⟨by kernel_rfl, ?_⟩)))))
    refine awp_cond (b := true) (by simp [go_sem, he0]) (fun _ => ?_) (fun h => by cases h)
    (repeat (first | refine awp_seq ?_ | refine awp_block ?_ | (refine awp_runG [0, 2, 3, 4, 5, 7, 8, 9, 10, 11, 34, 75] hX ?_; (simp [go_sem]; try (refine ⟨by kernel_rfl, ?_⟩))) | (refine awp_drawnG [0, 2, 3, 4, 5, 7, 8, 9, 10, 11, 34, 75] hX mixed ?_; (simp [go_sem]; try (refine ⟨by kernel_rfl, ?_⟩))) | (refine awp_ret ?_; (simp [go_sem]; try (refine ⟨by kernel_rfl, ?_⟩))) | (refine awp_skip ?_; (simp [go_sem]; try (refine ⟨by kernel_rfl, ?_⟩))) | (refine awp_exit ?_; (simp [go_sem]; try (refine ⟨by kernel_rfl, ?_⟩)))))
  | ok ts =>
    rw [lexAV_ok (by omega) hx] at hl
    obtain ⟨z1, z2⟩ := lexA_sizes l hx
    by_cases h2 : ∃ x y, ts = [x, y]
    · obtain ⟨x, y, rfl⟩ := h2
      obtain ⟨u1, u2, u3⟩ := w1 x y hx
      cases hw : isWord l with
      | true =>
        rw [hw] at hwm u1
        have ⟨e1, e2⟩ : x.text = l ∧ x.kind = 1 := by simpa using u1.symm
        have hn : isNum l = false := by rw [u2]; simp [e2]
        rw [show numAV l = .tup [ii 0, bb false] by unfold numAV; rw [hn]; rfl] at hnm
        have h20 : l.length ≤ 20 := by
          cases l with
          | nil => simp
          | cons c r => simp only [isWord, Bool.and_eq_true, decide_eq_true_eq] at hw; exact hw.1.2
        have h20i : (l.length : Int) ≤ 20 := by omega
        first | refine callK_intro (hl) rfl (by simp [go_sem]) rfl ?_ | refine callT_intro (hl) rfl (by simp [go_sem]) rfl ?_
        try (simp [go_sem]; try (refine ⟨by kernel_rfl, ?_⟩))
        (repeat (first | refine awp_seq ?_ | refine awp_block ?_ | (refine awp_runG [0, 2, 3, 4, 5, 7, 8, 9, 10, 11, 34, 75] hX ?_; (simp [go_sem]; try (refine ⟨by kernel_rfl, ?_⟩))) | (refine awp_drawnG [0, 2, 3, 4, 5, 7, 8, 9, 10, 11, 34, 75] hX mixed ?_; (simp [go_sem]; try (refine ⟨by kernel_rfl, ?_⟩))) | (refine awp_ret ?_; (simp [go_sem]; try (refine ⟨by kernel_rfl, ?_⟩))) | (refine awp_skip ?_; (simp [go_sem]; try (refine ⟨by kernel_rfl, ?_⟩))) | (refine awp_exit ?_; (simp [go_sem]; try (refine ⟨by kernel_rfl, ?_⟩)))))
        first | refine callK_intro (hnm) rfl (by simp [go_sem]) rfl ?_ | refine callT_intro (hnm) rfl (by simp [go_sem]) rfl ?_
        try (simp [go_sem]; try (refine ⟨by kernel_rfl, ?_⟩))
        (repeat (first | refine awp_seq ?_ | refine awp_block ?_ | (refine awp_runG [0, 2, 3, 4, 5, 7, 8, 9, 10, 11, 34, 75] hX ?_; (simp [go_sem]; try (refine ⟨by kernel_rfl, ?_⟩))) | (refine awp_drawnG [0, 2, 3, 4, 5, 7, 8, 9, 10, 11, 34, 75] hX mixed ?_; (simp [go_sem]; try (refine ⟨by kernel_rfl, ?_⟩))) | (refine awp_ret ?_; (simp [go_sem]; try (refine ⟨by kernel_rfl, ?_⟩))) | (refine awp_skip ?_; (simp [go_sem]; try (refine ⟨by kernel_rfl, ?_⟩))) | (refine awp_exit ?_; (simp [go_sem]; try (refine ⟨by kernel_rfl, ?_⟩)))))
        first | refine callK_intro (hwm) rfl (by simp [go_sem]) rfl ?_ | refine callT_intro (hwm) rfl (by simp [go_sem]) rfl ?_
        try (simp [go_sem]; try (refine ⟨by kernel_rfl, ?_⟩))
        (repeat (first | refine awp_seq ?_ | refine awp_block ?_ | (refine awp_runG [0, 2, 3, 4, 5, 7, 8, 9, 10, 11, 34, 75] hX ?_; (simp [go_sem]; try (refine ⟨by kernel_rfl, ?_⟩))) | (refine awp_drawnG [0, 2, 3, 4, 5, 7, 8, 9, 10, 11, 34, 75] hX mixed ?_; (simp [go_sem]; try (refine ⟨by kernel_rfl, ?_⟩))) | (refine awp_ret ?_; (simp [go_sem]; try (refine ⟨by kernel_rfl, ?_⟩))) | (refine awp_skip ?_; (simp [go_sem]; try (refine ⟨by kernel_rfl, ?_⟩))) | (refine awp_exit ?_; (simp [go_sem]; try (refine ⟨by kernel_rfl, ?_⟩)))))
        refine awp_cond (b := false) (by simp [go_sem]) (fun h => by cases h) (fun _ => ?_)
        (repeat (first | refine awp_seq ?_ | refine awp_block ?_ | (refine awp_runG [0, 2, 3, 4, 5, 7, 8, 9, 10, 11, 34, 75] hX ?_; (simp [go_sem, nth_zero, e1, e2]; try (refine ⟨by kernel_rfl, ?_⟩))) | (refine awp_drawnG [0, 2, 3, 4, 5, 7, 8, 9, 10, 11, 34, 75] hX mixed ?_; (simp [go_sem, nth_zero, e1, e2]; try (refine ⟨by kernel_rfl, ?_⟩))) | (refine awp_ret ?_; (simp [go_sem, nth_zero, e1, e2]; try (refine ⟨by kernel_rfl, ?_⟩))) | (refine awp_skip ?_; (simp [go_sem, nth_zero, e1, e2]; try (refine ⟨by kernel_rfl, ?_⟩))) | (refine awp_exit ?_; (simp [go_sem, nth_zero, e1, e2]; try (refine ⟨by kernel_rfl, ?_⟩)))))
        refine awp_cond (b := false) (by simp [go_sem, e1, e2]) (fun h => by cases h) (fun _ => ?_)
        (repeat (first | refine awp_seq ?_ | refine awp_block ?_ | (refine awp_runG [0, 2, 3, 4, 5, 7, 8, 9, 10, 11, 34, 75] hX ?_; (simp [go_sem, nth_zero, e1, e2, h20i]; try (refine ⟨by kernel_rfl, ?_⟩))) | (refine awp_drawnG [0, 2, 3, 4, 5, 7, 8, 9, 10, 11, 34, 75] hX mixed ?_; (simp [go_sem, nth_zero, e1, e2, h20i]; try (refine ⟨by kernel_rfl, ?_⟩))) | (refine awp_ret ?_; (simp [go_sem, nth_zero, e1, e2, h20i]; try (refine ⟨by kernel_rfl, ?_⟩))) | (refine awp_skip ?_; (simp [go_sem, nth_zero, e1, e2, h20i]; try (refine ⟨by kernel_rfl, ?_⟩))) | (refine awp_exit ?_; (simp [go_sem, nth_zero, e1, e2, h20i]; try (refine ⟨by kernel_rfl, ?_⟩)))))
      | false =>
        rw [hw] at hwm u1
        have e0 : ¬ (x.text = l ∧ x.kind = 1) := by simpa using u1.symm
        cases hn : isNum l with
        | true =>
          rw [hn] at u2
          have ⟨e1, e2⟩ : x.text = l ∧ x.kind = 2 := by simpa using u2.symm
          have e3 := u3 hn
          rw [show numAV l = .tup [ii (numVal l), bb true] by unfold numAV; rw [hn]; rfl] at hnm
          have h40 : numVal l ≤ 1099511627776 := by simp only [isNum, Bool.and_eq_true, decide_eq_true_eq] at hn; exact hn.2
          have h40i : (numVal l : Int) ≤ 1099511627776 := by omega
          first | refine callK_intro (hl) rfl (by simp [go_sem]) rfl ?_ | refine callT_intro (hl) rfl (by simp [go_sem]) rfl ?_
          try (simp [go_sem]; try (refine ⟨by kernel_rfl, ?_⟩))
          (repeat (first | refine awp_seq ?_ | refine awp_block ?_ | (refine awp_runG [0, 2, 3, 4, 5, 7, 8, 9, 10, 11, 34, 75] hX ?_; (simp [go_sem]; try (refine ⟨by kernel_rfl, ?_⟩))) | (refine awp_drawnG [0, 2, 3, 4, 5, 7, 8, 9, 10, 11, 34, 75] hX mixed ?_; (simp [go_sem]; try (refine ⟨by kernel_rfl, ?_⟩))) | (refine awp_ret ?_; (simp [go_sem]; try (refine ⟨by kernel_rfl, ?_⟩))) | (refine awp_skip ?_; (simp [go_sem]; try (refine ⟨by kernel_rfl, ?_⟩))) | (refine awp_exit ?_; (simp [go_sem]; try (refine ⟨by kernel_rfl, ?_⟩)))))
          first | refine callK_intro (hnm) rfl (by simp [go_sem]) rfl ?_ | refine callT_intro (hnm) rfl (by simp [go_sem]) rfl ?_
          try (simp [go_sem]; try (refine ⟨by kernel_rfl, ?_⟩))
          (repeat (first | refine awp_seq ?_ | refine awp_block ?_ | (refine awp_runG [0, 2, 3, 4, 5, 7, 8, 9, 10, 11, 34, 75] hX ?_; (simp [go_sem]; try (refine ⟨by kernel_rfl, ?_⟩))) | (refine awp_drawnG [0, 2, 3, 4, 5, 7, 8, 9, 10, 11, 34, 75] hX mixed ?_; (simp [go_sem]; try (refine ⟨by kernel_rfl, ?_⟩))) | (refine awp_ret ?_; (simp [go_sem]; try (refine ⟨by kernel_rfl, ?_⟩))) | (refine awp_skip ?_; (simp [go_sem]; try (refine ⟨by kernel_rfl, ?_⟩))) | (refine awp_exit ?_; (simp [go_sem]; try (refine ⟨by kernel_rfl, ?_⟩)))))
          first | refine callK_intro (hwm) rfl (by simp [go_sem]) rfl ?_ | refine callT_intro (hwm) rfl (by simp [go_sem]) rfl ?_
          try (simp [go_sem]; try (refine ⟨by kernel_rfl, ?_⟩))
          (repeat (first | refine awp_seq ?_ | refine awp_block ?_ | (refine awp_runG [0, 2, 3, 4, 5, 7, 8, 9, 10, 11, 34, 75] hX ?_; (simp [go_sem]; try (refine ⟨by kernel_rfl, ?_⟩))) | (refine awp_drawnG [0, 2, 3, 4, 5, 7, 8, 9, 10, 11, 34, 75] hX mixed ?_; (simp [go_sem]; try (refine ⟨by kernel_rfl, ?_⟩))) | (refine awp_ret ?_; (simp [go_sem]; try (refine ⟨by kernel_rfl, ?_⟩))) | (refine awp_skip ?_; (simp [go_sem]; try (refine ⟨by kernel_rfl, ?_⟩))) | (refine awp_exit ?_; (simp [go_sem]; try (refine ⟨by kernel_rfl, ?_⟩)))))
          refine awp_cond (b := false) (by simp [go_sem]) (fun h => by cases h) (fun _ => ?_)
          (repeat (first | refine awp_seq ?_ | refine awp_block ?_ | (refine awp_runG [0, 2, 3, 4, 5, 7, 8, 9, 10, 11, 34, 75] hX ?_; (simp [go_sem, nth_zero, e1, e2]; try (refine ⟨by kernel_rfl, ?_⟩))) | (refine awp_drawnG [0, 2, 3, 4, 5, 7, 8, 9, 10, 11, 34, 75] hX mixed ?_; (simp [go_sem, nth_zero, e1, e2]; try (refine ⟨by kernel_rfl, ?_⟩))) | (refine awp_ret ?_; (simp [go_sem, nth_zero, e1, e2]; try (refine ⟨by kernel_rfl, ?_⟩))) | (refine awp_skip ?_; (simp [go_sem, nth_zero, e1, e2]; try (refine ⟨by kernel_rfl, ?_⟩))) | (refine awp_exit ?_; (simp [go_sem, nth_zero, e1, e2]; try (refine ⟨by kernel_rfl, ?_⟩)))))
          refine awp_cond (b := false) (by simp [go_sem, e1, e2]) (fun h => by cases h) (fun _ => ?_)
          (repeat (first | refine awp_seq ?_ | refine awp_block ?_ | (refine awp_runG [0, 2, 3, 4, 5, 7, 8, 9, 10, 11, 34, 75] hX ?_; (simp [go_sem, nth_zero, e1, e2, ← e3, h40i]; try (refine ⟨by kernel_rfl, ?_⟩))) | (refine awp_drawnG [0, 2, 3, 4, 5, 7, 8, 9, 10, 11, 34, 75] hX mixed ?_; (simp [go_sem, nth_zero, e1, e2, ← e3, h40i]; try (refine ⟨by kernel_rfl, ?_⟩))) | (refine awp_ret ?_; (simp [go_sem, nth_zero, e1, e2, ← e3, h40i]; try (refine ⟨by kernel_rfl, ?_⟩))) | (refine awp_skip ?_; (simp [go_sem, nth_zero, e1, e2, ← e3, h40i]; try (refine ⟨by kernel_rfl, ?_⟩))) | (refine awp_exit ?_; (simp [go_sem, nth_zero, e1, e2, ← e3, h40i]; try (refine ⟨by kernel_rfl, ?_⟩)))))
        | false =>
          rw [hn] at u2
          have e4 : ¬ (x.text = l ∧ x.kind = 2) := by simpa using u2.symm
          rw [show numAV l = .tup [ii 0, bb false] by unfold numAV; rw [hn]; rfl] at hnm
          first | refine callK_intro (hl) rfl (by simp [go_sem]) rfl ?_ | refine callT_intro (hl) rfl (by simp [go_sem]) rfl ?_
          try (simp [go_sem]; try (refine ⟨by kernel_rfl, ?_⟩))
          (repeat (first | refine awp_seq ?_ | refine awp_block ?_ | (refine awp_runG [0, 2, 3, 4, 5, 7, 8, 9, 10, 11, 34, 75] hX ?_; (simp [go_sem]; try (refine ⟨by kernel_rfl, ?_⟩))) | (refine awp_drawnG [0, 2, 3, 4, 5, 7, 8, 9, 10, 11, 34, 75] hX mixed ?_; (simp [go_sem]; try (refine ⟨by kernel_rfl, ?_⟩))) | (refine awp_ret ?_; (simp [go_sem]; try (refine ⟨by kernel_rfl, ?_⟩))) | (refine awp_skip ?_; (simp [go_sem]; try (refine ⟨by kernel_rfl, ?_⟩))) | (refine awp_exit ?_; (simp [go_sem]; try (refine ⟨by kernel_rfl, ?_⟩)))))
          first | refine callK_intro (hnm) rfl (by simp [go_sem]) rfl ?_ | refine callT_intro (hnm) rfl (by simp [go_sem]) rfl ?_
          try (simp [go_sem]; try (refine ⟨by kernel_rfl, ?_⟩))
          (repeat (first | refine awp_seq ?_ | refine awp_block ?_ | (refine awp_runG [0, 2, 3, 4, 5, 7, 8, 9, 10, 11, 34, 75] hX ?_; (simp [go_sem]; try (refine ⟨by kernel_rfl, ?_⟩))) | (refine awp_drawnG [0, 2, 3, 4, 5, 7, 8, 9, 10, 11, 34, 75] hX mixed ?_; (simp [go_sem]; try (refine ⟨by kernel_rfl, ?_⟩))) | (refine awp_ret ?_; (simp [go_sem]; try (refine ⟨by kernel_rfl, ?_⟩))) | (refine awp_skip ?_; (simp [go_sem]; try (refine ⟨by kernel_rfl, ?_⟩))) | (refine awp_exit ?_; (simp [go_sem]; try (refine ⟨by kernel_rfl, ?_⟩)))))
          first | refine callK_intro (hwm) rfl (by simp [go_sem]) rfl ?_ | refine callT_intro (hwm) rfl (by simp [go_sem]) rfl ?_
          try (simp [go_sem]; try (refine ⟨by kernel_rfl, ?_⟩))
          (repeat (first | refine awp_seq ?_ | refine awp_block ?_ | (refine awp_runG [0, 2, 3, 4, 5, 7, 8, 9, 10, 11, 34, 75] hX ?_; (simp [go_sem]; try (refine ⟨by kernel_rfl, ?_⟩))) | (refine awp_drawnG [0, 2, 3, 4, 5, 7, 8, 9, 10, 11, 34, 75] hX mixed ?_; (simp [go_sem]; try (refine ⟨by kernel_rfl, ?_⟩))) | (refine awp_ret ?_; (simp [go_sem]; try (refine ⟨by kernel_rfl, ?_⟩))) | (refine awp_skip ?_; (simp [go_sem]; try (refine ⟨by kernel_rfl, ?_⟩))) | (refine awp_exit ?_; (simp [go_sem]; try (refine ⟨by kernel_rfl, ?_⟩)))))
          refine awp_cond (b := false) (by simp [go_sem]) (fun h => by cases h) (fun _ => ?_)
          by_cases e1 : x.text = l
          · have e5 : ¬ x.kind = 1 := fun h => e0 ⟨e1, h⟩
            have e6 : ¬ x.kind = 2 := fun h => e4 ⟨e1, h⟩
            (repeat (first | refine awp_seq ?_ | refine awp_block ?_ | (refine awp_runG [0, 2, 3, 4, 5, 7, 8, 9, 10, 11, 34, 75] hX ?_; (simp [go_sem, nth_zero, e1]; try (refine ⟨by kernel_rfl, ?_⟩))) | (refine awp_drawnG [0, 2, 3, 4, 5, 7, 8, 9, 10, 11, 34, 75] hX mixed ?_; (simp [go_sem, nth_zero, e1]; try (refine ⟨by kernel_rfl, ?_⟩))) | (refine awp_ret ?_; (simp [go_sem, nth_zero, e1]; try (refine ⟨by kernel_rfl, ?_⟩))) | (refine awp_skip ?_; (simp [go_sem, nth_zero, e1]; try (refine ⟨by kernel_rfl, ?_⟩))) | (refine awp_exit ?_; (simp [go_sem, nth_zero, e1]; try (refine ⟨by kernel_rfl, ?_⟩)))))
            refine awp_cond (b := false) (by simp [go_sem, e5, e6]) (fun h => by cases h) (fun _ => ?_)
            (repeat (first | refine awp_seq ?_ | refine awp_block ?_ | (refine awp_runG [0, 2, 3, 4, 5, 7, 8, 9, 10, 11, 34, 75] hX ?_; (simp [go_sem, nth_zero]; try (refine ⟨by kernel_rfl, ?_⟩))) | (refine awp_drawnG [0, 2, 3, 4, 5, 7, 8, 9, 10, 11, 34, 75] hX mixed ?_; (simp [go_sem, nth_zero]; try (refine ⟨by kernel_rfl, ?_⟩))) | (refine awp_ret ?_; (simp [go_sem, nth_zero]; try (refine ⟨by kernel_rfl, ?_⟩))) | (refine awp_skip ?_; (simp [go_sem, nth_zero]; try (refine ⟨by kernel_rfl, ?_⟩))) | (refine awp_exit ?_; (simp [go_sem, nth_zero]; try (refine ⟨by kernel_rfl, ?_⟩)))))
          · (repeat (first | refine awp_seq ?_ | refine awp_block ?_ | (refine awp_runG [0, 2, 3, 4, 5, 7, 8, 9, 10, 11, 34, 75] hX ?_; (simp [go_sem, nth_zero, e1]; try (refine ⟨by kernel_rfl, ?_⟩))) | (refine awp_drawnG [0, 2, 3, 4, 5, 7, 8, 9, 10, 11, 34, 75] hX mixed ?_; (simp [go_sem, nth_zero, e1]; try (refine ⟨by kernel_rfl, ?_⟩))) | (refine awp_ret ?_; (simp [go_sem, nth_zero, e1]; try (refine ⟨by kernel_rfl, ?_⟩))) | (refine awp_skip ?_; (simp [go_sem, nth_zero, e1]; try (refine ⟨by kernel_rfl, ?_⟩))) | (refine awp_exit ?_; (simp [go_sem, nth_zero, e1]; try (refine ⟨by kernel_rfl, ?_⟩)))))
            refine awp_cond (b := false) (by simp [go_sem]) (fun h => by cases h) (fun _ => ?_)
            (repeat (first | refine awp_seq ?_ | refine awp_block ?_ | (refine awp_runG [0, 2, 3, 4, 5, 7, 8, 9, 10, 11, 34, 75] hX ?_; (simp [go_sem, nth_zero]; try (refine ⟨by kernel_rfl, ?_⟩))) | (refine awp_drawnG [0, 2, 3, 4, 5, 7, 8, 9, 10, 11, 34, 75] hX mixed ?_; (simp [go_sem, nth_zero]; try (refine ⟨by kernel_rfl, ?_⟩))) | (refine awp_ret ?_; (simp [go_sem, nth_zero]; try (refine ⟨by kernel_rfl, ?_⟩))) | (refine awp_skip ?_; (simp [go_sem, nth_zero]; try (refine ⟨by kernel_rfl, ?_⟩))) | (refine awp_exit ?_; (simp [go_sem, nth_zero]; try (refine ⟨by kernel_rfl, ?_⟩)))))
    · have hne : ¬ (ts.length : Int) = 2 := fun h => h2 (by
        match ts, h with
        | [x, y], _ => exact ⟨x, y, rfl⟩
        | [], h => simp at h
        | [_], h => simp at h
        | _ :: _ :: _ :: _, h => simp at h; omega)
      obtain ⟨v1, v2⟩ := w2 (fun x y h => by rw [hx] at h; exact h2 ⟨x, y, by simpa using h⟩)
      rw [v1] at hwm
      rw [show numAV l = .tup [ii 0, bb false] by unfold numAV; rw [v2]; rfl] at hnm
      first | refine callK_intro (hl) rfl (by simp [go_sem]) rfl ?_ | refine callT_intro (hl) rfl (by simp [go_sem]) rfl ?_
      try (simp [go_sem]; try (refine ⟨by kernel_rfl, ?_⟩))
      (repeat (first | refine awp_seq ?_ | refine awp_block ?_ | (refine awp_runG [0, 2, 3, 4, 5, 7, 8, 9, 10, 11, 34, 75] hX ?_; (simp [go_sem]; try (refine ⟨by kernel_rfl, ?_⟩))) | (refine awp_drawnG [0, 2, 3, 4, 5, 7, 8, 9, 10, 11, 34, 75] hX mixed ?_; (simp [go_sem]; try (refine ⟨by kernel_rfl, ?_⟩))) | (refine awp_ret ?_; (simp [go_sem]; try (refine ⟨by kernel_rfl, ?_⟩))) | (refine awp_skip ?_; (simp [go_sem]; try (refine ⟨by kernel_rfl, ?_⟩))) | (refine awp_exit ?_; (simp [go_sem]; try (refine ⟨by kernel_rfl, ?_⟩)))))
      first | refine callK_intro (hnm) rfl (by simp [go_sem]) rfl ?_ | refine callT_intro (hnm) rfl (by simp [go_sem]) rfl ?_
      try (simp [go_sem]; try (refine ⟨by kernel_rfl, ?_⟩))
      (repeat (first | refine awp_seq ?_ | refine awp_block ?_ | (refine awp_runG [0, 2, 3, 4, 5, 7, 8, 9, 10, 11, 34, 75] hX ?_; (simp [go_sem]; try (refine ⟨by kernel_rfl, ?_⟩))) | (refine awp_drawnG [0, 2, 3, 4, 5, 7, 8, 9, 10, 11, 34, 75] hX mixed ?_; (simp [go_sem]; try (refine ⟨by kernel_rfl, ?_⟩))) | (refine awp_ret ?_; (simp [go_sem]; try (refine ⟨by kernel_rfl, ?_⟩))) | (refine awp_skip ?_; (simp [go_sem]; try (refine ⟨by kernel_rfl, ?_⟩))) | (refine awp_exit ?_; (simp [go_sem]; try (refine ⟨by kernel_rfl, ?_⟩)))))
      first | refine callK_intro (hwm) rfl (by simp [go_sem]) rfl ?_ | refine callT_intro (hwm) rfl (by simp [go_sem]) rfl ?_
      try (simp [go_sem]; try (refine ⟨by kernel_rfl, ?_⟩))
      (repeat (first | refine awp_seq ?_ | refine awp_block ?_ | (refine awp_runG [0, 2, 3, 4, 5, 7, 8, 9, 10, 11, 34, 75] hX ?_; (simp [go_sem]; try (refine ⟨by kernel_rfl, ?_⟩))) | (refine awp_drawnG [0, 2, 3, 4, 5, 7, 8, 9, 10, 11, 34, 75] hX mixed ?_; (simp [go_sem]; try (refine ⟨by kernel_rfl, ?_⟩))) | (refine awp_ret ?_; (simp [go_sem]; try (refine ⟨by kernel_rfl, ?_⟩))) | (refine awp_skip ?_; (simp [go_sem]; try (refine ⟨by kernel_rfl, ?_⟩))) | (refine awp_exit ?_; (simp [go_sem]; try (refine ⟨by kernel_rfl, ?_⟩)))))
      refine awp_cond (b := true) (by simp [go_sem, hne]) (fun _ => ?_) (fun h => by cases h)
      (repeat (first | refine awp_seq ?_ | refine awp_block ?_ | (refine awp_runG [0, 2, 3, 4, 5, 7, 8, 9, 10, 11, 34, 75] hX ?_; (simp [go_sem]; try (refine ⟨by kernel_rfl, ?_⟩))) | (refine awp_drawnG [0, 2, 3, 4, 5, 7, 8, 9, 10, 11, 34, 75] hX mixed ?_; (simp [go_sem]; try (refine ⟨by kernel_rfl, ?_⟩))) | (refine awp_ret ?_; (simp [go_sem]; try (refine ⟨by kernel_rfl, ?_⟩))) | (refine awp_skip ?_; (simp [go_sem]; try (refine ⟨by kernel_rfl, ?_⟩))) | (refine awp_exit ?_; (simp [go_sem]; try (refine ⟨by kernel_rfl, ?_⟩)))))

set_option maxHeartbeats 4000000 in
set_option maxRecDepth 20000 in
theorem lexPlaces_m (s : By) (hs : s.length ≤ maxLen) : Means false Tryd.prog 5 [ss s] (bb true) := by
  have hs0 : s.length ≤ 9223372036854775807 := by unfold maxLen at hs; omega
  have h9 : (s.take 900).length ≤ 900 := by rw [List.length_take]; exact Nat.min_le_left _ _
  generalize hc : s.take 900 = l at h9
  have hcut := cut_m s hs0
  rw [hc] at hcut
  have hl := lex_m l
  refine means_fn false 138 [.tmp 2] Tryd.func5 rfl rfl rfl (by simp) (by decide) rfl fun X hX => ?_
  (repeat (first | refine awp_seq ?_ | refine awp_block ?_ | (refine awp_runG [0, 2, 3, 4, 5, 6, 7, 8, 9, 10, 11, 22, 37, 90, 103, 108, 115] hX ?_; (simp [go_sem]; try (refine ⟨by kernel_rfl, ?_⟩))) | (refine awp_drawnG [0, 2, 3, 4, 5, 6, 7, 8, 9, 10, 11, 22, 37, 90, 103, 108, 115] hX mixed ?_; (simp [go_sem]; try (refine ⟨by kernel_rfl, ?_⟩))) | (refine awp_ret ?_; (simp [go_sem]; try (refine ⟨by kernel_rfl, ?_⟩))) | (refine awp_skip ?_; (simp [go_sem]; try (refine ⟨by kernel_rfl, ?_⟩))) | (refine awp_exit ?_; (simp [go_sem]; try (refine ⟨by kernel_rfl, ?_⟩)))))
  first | refine callK_intro (small_m) rfl (by simp [go_sem]) rfl ?_ | refine callT_intro (small_m) rfl (by simp [go_sem]) rfl ?_
  try (simp [go_sem]; try (refine ⟨by kernel_rfl, ?_⟩))
  (repeat (first | refine awp_seq ?_ | refine awp_block ?_ | (refine awp_runG [0, 2, 3, 4, 5, 6, 7, 8, 9, 10, 11, 22, 37, 90, 103, 108, 115] hX ?_; (simp [go_sem]; try (refine ⟨by kernel_rfl, ?_⟩))) | (refine awp_drawnG [0, 2, 3, 4, 5, 6, 7, 8, 9, 10, 11, 22, 37, 90, 103, 108, 115] hX mixed ?_; (simp [go_sem]; try (refine ⟨by kernel_rfl, ?_⟩))) | (refine awp_ret ?_; (simp [go_sem]; try (refine ⟨by kernel_rfl, ?_⟩))) | (refine awp_skip ?_; (simp [go_sem]; try (refine ⟨by kernel_rfl, ?_⟩))) | (refine awp_exit ?_; (simp [go_sem]; try (refine ⟨by kernel_rfl, ?_⟩)))))
  first | refine callK_intro (hcut) rfl (by simp [go_sem]) rfl ?_ | refine callT_intro (hcut) rfl (by simp [go_sem]) rfl ?_
  try (simp [go_sem]; try (refine ⟨by kernel_rfl, ?_⟩))
  (repeat (first | refine awp_seq ?_ | refine awp_block ?_ | (refine awp_runG [0, 2, 3, 4, 5, 6, 7, 8, 9, 10, 11, 22, 37, 90, 103, 108, 115] hX ?_; (simp [go_sem]; try (refine ⟨by kernel_rfl, ?_⟩))) | (refine awp_drawnG [0, 2, 3, 4, 5, 6, 7, 8, 9, 10, 11, 22, 37, 90, 103, 108, 115] hX mixed ?_; (simp [go_sem]; try (refine ⟨by kernel_rfl, ?_⟩))) | (refine awp_ret ?_; (simp [go_sem]; try (refine ⟨by kernel_rfl, ?_⟩))) | (refine awp_skip ?_; (simp [go_sem]; try (refine ⟨by kernel_rfl, ?_⟩))) | (refine awp_exit ?_; (simp [go_sem]; try (refine ⟨by kernel_rfl, ?_⟩)))))
  cases hx : lexA l 0 with
  | err i e =>
    obtain ⟨_, hi, he, _⟩ := lexA_errs l hx
    have he0 : e ≠ 0 := by omega
    rw [lexAV_err (by omega) hx] at hl
    have hil : (i : Int) < l.length := by omega
    first | refine callK_intro (hl) rfl (by simp [go_sem]) rfl ?_ | refine callT_intro (hl) rfl (by simp [go_sem]) rfl ?_
    try (simp [go_sem]; try (refine ⟨by kernel_rfl, ?_⟩))
    (repeat (first | refine awp_seq ?_ | refine awp_block ?_ | (refine awp_runG [0, 2, 3, 4, 5, 6, 7, 8, 9, 10, 11, 22, 37, 90, 103, 108, 115] hX ?_; (simp [go_sem]; try (refine ⟨by kernel_rfl, ?_⟩))) | (refine awp_drawnG [0, 2, 3, 4, 5, 6, 7, 8, 9, 10, 11, 22, 37, 90, 103, 108, 115] hX mixed ?_; (simp [go_sem]; try (refine ⟨by kernel_rfl, ?_⟩))) | (refine awp_ret ?_; (simp [go_sem]; try (refine ⟨by kernel_rfl, ?_⟩))) | (refine awp_skip ?_; (simp [go_sem]; try (refine ⟨by kernel_rfl, ?_⟩))) | (refine awp_exit ?_; (simp [go_sem]; try (refine ⟨by kernel_rfl, ?_⟩)))))
    refine awp_cond (b := true) (by simp [go_sem, he0]) (fun _ => ?_) (fun h => by cases h)
    (repeat (first | refine awp_seq ?_ | refine awp_block ?_ | (refine awp_runG [0, 2, 3, 4, 5, 6, 7, 8, 9, 10, 11, 22, 37, 90, 103, 108, 115] hX ?_; (simp [go_sem, hil]; try (refine ⟨by kernel_rfl, ?_⟩))) | (refine awp_drawnG [0, 2, 3, 4, 5, 6, 7, 8, 9, 10, 11, 22, 37, 90, 103, 108, 115] hX mixed ?_; (simp [go_sem, hil]; try (refine ⟨by kernel_rfl, ?_⟩))) | (refine awp_ret ?_; (simp [go_sem, hil]; try (refine ⟨by kernel_rfl, ?_⟩))) | (refine awp_skip ?_; (simp [go_sem, hil]; try (refine ⟨by kernel_rfl, ?_⟩))) | (refine awp_exit ?_; (simp [go_sem, hil]; try (refine ⟨by kernel_rfl, ?_⟩)))))
  | ok ts =>
    rw [lexAV_ok (by omega) hx] at hl
    obtain ⟨z1, z2⟩ := lexA_sizes l hx
    have hne := lexA_ne hx
    have hpl := lexA_placed l l (p := 0) (e := 0) rfl (Nat.le_refl _) (Nat.zero_le _) (fun j _ h => by omega) hx
    have hE : ∀ k, k ≤ ts.length → ∃ b : Nat, endAt ts k = b ∧ b ≤ l.length := fun k hk => by
      match k with
      | 0 => exact ⟨0, rfl, Nat.zero_le _⟩
      | k + 1 =>
        have hk' : ts[k]? = some (ts[k]'(by omega)) := List.getElem?_eq_getElem _
        obtain ⟨a, h1, h2, _⟩ := hpl.pos k _ hk'
        exact ⟨a + (ts[k]'(by omega)).text.length, by simp only [endAt, hk', h1]; omega, h2⟩
    first | refine callK_intro (hl) rfl (by simp [go_sem]) rfl ?_ | refine callT_intro (hl) rfl (by simp [go_sem]) rfl ?_
    try (simp [go_sem]; try (refine ⟨by kernel_rfl, ?_⟩))
    (repeat (first | refine awp_seq ?_ | refine awp_block ?_ | (refine awp_runG [0, 2, 3, 4, 5, 6, 7, 8, 9, 10, 11, 22, 37, 90, 103, 108, 115] hX ?_; (simp [go_sem]; try (refine ⟨by kernel_rfl, ?_⟩))) | (refine awp_drawnG [0, 2, 3, 4, 5, 6, 7, 8, 9, 10, 11, 22, 37, 90, 103, 108, 115] hX mixed ?_; (simp [go_sem]; try (refine ⟨by kernel_rfl, ?_⟩))) | (refine awp_ret ?_; (simp [go_sem]; try (refine ⟨by kernel_rfl, ?_⟩))) | (refine awp_skip ?_; (simp [go_sem]; try (refine ⟨by kernel_rfl, ?_⟩))) | (refine awp_exit ?_; (simp [go_sem]; try (refine ⟨by kernel_rfl, ?_⟩)))))
    refine awp_cond (b := false) (by simp [go_sem]) (fun h => by cases h) (fun _ => ?_)
    (repeat (first | refine awp_seq ?_ | refine awp_block ?_ | (refine awp_runG [0, 2, 3, 4, 5, 6, 7, 8, 9, 10, 11, 22, 37, 90, 103, 108, 115] hX ?_; (simp [go_sem]; try (refine ⟨by kernel_rfl, ?_⟩))) | (refine awp_drawnG [0, 2, 3, 4, 5, 6, 7, 8, 9, 10, 11, 22, 37, 90, 103, 108, 115] hX mixed ?_; (simp [go_sem]; try (refine ⟨by kernel_rfl, ?_⟩))) | (refine awp_ret ?_; (simp [go_sem]; try (refine ⟨by kernel_rfl, ?_⟩))) | (refine awp_skip ?_; (simp [go_sem]; try (refine ⟨by kernel_rfl, ?_⟩))) | (refine awp_exit ?_; (simp [go_sem]; try (refine ⟨by kernel_rfl, ?_⟩)))))
    refine awp_loop (fun k : Nat => ⟨mkE [(3, bb true), (4, ss l), (5, .sl (ts.map tk)), (6, ii 0), (8, ii (endAt ts k)), (9, ii k)], []⟩) (fun k => k ≤ ts.length) (fun k => ts.length - k) 0 ?_ ?_ ?_
    · refine sub_of _ [] (by simp [go_sem]) ?_
      simp [go_sem, endAt]
    · simp
    · intro k hk
      (repeat (first | refine awp_seq ?_ | refine awp_block ?_ | (refine awp_runG [0, 2, 3, 4, 5, 6, 7, 8, 9, 10, 11, 22, 37, 90, 103, 108, 115] hX ?_; (simp [go_sem]; try (refine ⟨by kernel_rfl, ?_⟩))) | (refine awp_drawnG [0, 2, 3, 4, 5, 6, 7, 8, 9, 10, 11, 22, 37, 90, 103, 108, 115] hX mixed ?_; (simp [go_sem]; try (refine ⟨by kernel_rfl, ?_⟩))) | (refine awp_ret ?_; (simp [go_sem]; try (refine ⟨by kernel_rfl, ?_⟩))) | (refine awp_skip ?_; (simp [go_sem]; try (refine ⟨by kernel_rfl, ?_⟩))) | (refine awp_exit ?_; (simp [go_sem]; try (refine ⟨by kernel_rfl, ?_⟩)))))
      refine awp_cond (b := decide (k < ts.length)) (by simp [go_sem]) (fun hd => ?_) (fun hd => ?_)
      · simp at hd
        have hk' : ts[k]? = some ts[k] := List.getElem?_eq_getElem _
        obtain ⟨a, p1, p2, p3, p4, p5, p6, b, p7, p8, p9⟩ := hpl.pos k _ hk'
        have hb : endAt ts k = b := by
          cases k with
          | zero => simp only [] at p7; subst p7; rfl
          | succ k => obtain ⟨y, y1, y2⟩ := p7; simp only [endAt, y1]; exact y2.symm
        have hb1 : endAt ts (k + 1) = ((a + ts[k].text.length : Nat) : Int) := by simp only [endAt, hk', p1]; omega
        have c1 : ¬ (a : Int) < b := by omega
        have c2 : ¬ (l.length : Int) - ts[k].text.length < a := by omega
        have c3 : (ts[k].text = []) = ((k : Int) = ts.length - 1) := by rw [p4]; apply propext; omega
        have c4 : (ts[k].kind = 0) = ((k : Int) = ts.length - 1) := by rw [p5]; apply propext; omega
        have c5 : ts[k].kind = 2 ∨ ts[k].n = 0 := by
          by_cases h : ts[k].kind = 2
          · exact .inl h
          · exact .inr (p6 h)
        have hsl : (l.take (a + ts[k].text.length)).drop a = ts[k].text := by rw [List.drop_take, Nat.add_sub_cancel_left]; exact p3
        rw [hb]
        (repeat (first | refine awp_seq ?_ | refine awp_block ?_ | (refine awp_runG [0, 2, 3, 4, 5, 6, 7, 8, 9, 10, 11, 22, 37, 90, 103, 108, 115] hX ?_; (simp [go_sem, hd, p1, c1, c2, c3, c4]; (try simp (disch := omega) only [w64, td, tm]); try (refine ⟨by kernel_rfl, ?_⟩))) | (refine awp_drawnG [0, 2, 3, 4, 5, 6, 7, 8, 9, 10, 11, 22, 37, 90, 103, 108, 115] hX mixed ?_; (simp [go_sem, hd, p1, c1, c2, c3, c4]; (try simp (disch := omega) only [w64, td, tm]); try (refine ⟨by kernel_rfl, ?_⟩))) | (refine awp_ret ?_; (simp [go_sem, hd, p1, c1, c2, c3, c4]; (try simp (disch := omega) only [w64, td, tm]); try (refine ⟨by kernel_rfl, ?_⟩))) | (refine awp_skip ?_; (simp [go_sem, hd, p1, c1, c2, c3, c4]; (try simp (disch := omega) only [w64, td, tm]); try (refine ⟨by kernel_rfl, ?_⟩))) | (refine awp_exit ?_; (simp [go_sem, hd, p1, c1, c2, c3, c4]; (try simp (disch := omega) only [w64, td, tm]); try (refine ⟨by kernel_rfl, ?_⟩)))))
        (repeat refine And.intro (by first | omega | (unfold maxLen; omega) | kernel_rfl | (refine ⟨by first | omega | (unfold maxLen; omega), by first | omega | (unfold maxLen; omega)⟩) | grind) ?_)
        refine awp_cond (b := false) ?_ (fun h => by cases h) (fun _ => ?_)
        · simp [go_sem, c1, c2, c3, c4]
          try (rcases c5 with h | h <;> simp [h])
        · (repeat (first | refine awp_seq ?_ | refine awp_block ?_ | (refine awp_runG [0, 2, 3, 4, 5, 6, 7, 8, 9, 10, 11, 22, 37, 90, 103, 108, 115] hX ?_; (simp [go_sem, hd, p1, hsl]; (try simp (disch := omega) only [w64, td, tm]); try (refine ⟨by kernel_rfl, ?_⟩))) | (refine awp_drawnG [0, 2, 3, 4, 5, 6, 7, 8, 9, 10, 11, 22, 37, 90, 103, 108, 115] hX mixed ?_; (simp [go_sem, hd, p1, hsl]; (try simp (disch := omega) only [w64, td, tm]); try (refine ⟨by kernel_rfl, ?_⟩))) | (refine awp_ret ?_; (simp [go_sem, hd, p1, hsl]; (try simp (disch := omega) only [w64, td, tm]); try (refine ⟨by kernel_rfl, ?_⟩))) | (refine awp_skip ?_; (simp [go_sem, hd, p1, hsl]; (try simp (disch := omega) only [w64, td, tm]); try (refine ⟨by kernel_rfl, ?_⟩))) | (refine awp_exit ?_; (simp [go_sem, hd, p1, hsl]; (try simp (disch := omega) only [w64, td, tm]); try (refine ⟨by kernel_rfl, ?_⟩)))))
          (repeat refine And.intro (by first | omega | (unfold maxLen; omega) | kernel_rfl | (refine ⟨by first | omega | (unfold maxLen; omega), by first | omega | (unfold maxLen; omega)⟩) | grind) ?_)
          (repeat (first | refine awp_seq ?_ | refine awp_block ?_ | (refine awp_runG [0, 2, 3, 4, 5, 6, 7, 8, 9, 10, 11, 22, 37, 90, 103, 108, 115] hX ?_; (simp [go_sem, hd, p1, hsl]; (try simp (disch := omega) only [w64, td, tm]); try (refine ⟨by kernel_rfl, ?_⟩))) | (refine awp_drawnG [0, 2, 3, 4, 5, 6, 7, 8, 9, 10, 11, 22, 37, 90, 103, 108, 115] hX mixed ?_; (simp [go_sem, hd, p1, hsl]; (try simp (disch := omega) only [w64, td, tm]); try (refine ⟨by kernel_rfl, ?_⟩))) | (refine awp_ret ?_; (simp [go_sem, hd, p1, hsl]; (try simp (disch := omega) only [w64, td, tm]); try (refine ⟨by kernel_rfl, ?_⟩))) | (refine awp_skip ?_; (simp [go_sem, hd, p1, hsl]; (try simp (disch := omega) only [w64, td, tm]); try (refine ⟨by kernel_rfl, ?_⟩))) | (refine awp_exit ?_; (simp [go_sem, hd, p1, hsl]; (try simp (disch := omega) only [w64, td, tm]); try (refine ⟨by kernel_rfl, ?_⟩)))))
          refine awp_cond (b := false) (by simp [go_sem, hsl]) (fun h => by cases h) (fun _ => ?_)
          (repeat (first | refine awp_seq ?_ | refine awp_block ?_ | (refine awp_runG [0, 2, 3, 4, 5, 6, 7, 8, 9, 10, 11, 22, 37, 90, 103, 108, 115] hX ?_; (simp [go_sem]; (try simp (disch := omega) only [w64, td, tm]); try (refine ⟨by kernel_rfl, ?_⟩))) | (refine awp_drawnG [0, 2, 3, 4, 5, 6, 7, 8, 9, 10, 11, 22, 37, 90, 103, 108, 115] hX mixed ?_; (simp [go_sem]; (try simp (disch := omega) only [w64, td, tm]); try (refine ⟨by kernel_rfl, ?_⟩))) | (refine awp_ret ?_; (simp [go_sem]; (try simp (disch := omega) only [w64, td, tm]); try (refine ⟨by kernel_rfl, ?_⟩))) | (refine awp_skip ?_; (simp [go_sem]; (try simp (disch := omega) only [w64, td, tm]); try (refine ⟨by kernel_rfl, ?_⟩))) | (refine awp_exit ?_; (simp [go_sem]; (try simp (disch := omega) only [w64, td, tm]); try (refine ⟨by kernel_rfl, ?_⟩)))))
          refine awp_loop (fun j : Nat => ⟨mkE [(3, bb true), (4, ss l), (5, .sl (ts.map tk)), (6, ii 0), (8, ii b), (9, ii k), (10, .el 0 4 0 0), (11, ii j)], [.row ⟨25, 4, [tk ts[k]]⟩]⟩) (fun j => b ≤ j ∧ j ≤ a) (fun j => a - j) b ?_ ?_ ?_
          · refine sub_of _ [.old 0 ⟨25, 4, [tk ts[k]]⟩] (by simp [go_sem, p1]) ?_
            simp [go_sem]
          · exact ⟨Nat.le_refl _, p8⟩
          · rintro j ⟨j1, j2⟩
            (repeat (first | refine awp_seq ?_ | refine awp_block ?_ | (refine awp_runG [0, 2, 3, 4, 5, 6, 7, 8, 9, 10, 11, 22, 37, 90, 103, 108, 115] hX ?_; (simp [go_sem, p1]; try (refine ⟨by kernel_rfl, ?_⟩))) | (refine awp_drawnG [0, 2, 3, 4, 5, 6, 7, 8, 9, 10, 11, 22, 37, 90, 103, 108, 115] hX mixed ?_; (simp [go_sem, p1]; try (refine ⟨by kernel_rfl, ?_⟩))) | (refine awp_ret ?_; (simp [go_sem, p1]; try (refine ⟨by kernel_rfl, ?_⟩))) | (refine awp_skip ?_; (simp [go_sem, p1]; try (refine ⟨by kernel_rfl, ?_⟩))) | (refine awp_exit ?_; (simp [go_sem, p1]; try (refine ⟨by kernel_rfl, ?_⟩)))))
            refine awp_cond (b := decide (j < a)) (by simp [go_sem, p1]) (fun he => ?_) (fun he => ?_)
            · simp at he
              obtain ⟨c, hc1, hc2⟩ := p9 j j1 he
              have hjl : j < l.length := by omega
              have hcj : l[j] = c := by rw [List.getElem?_eq_getElem hjl] at hc1; simpa using hc1
              have hbm := rblank_m c
              rw [hc2] at hbm
              (repeat (first | refine awp_seq ?_ | refine awp_block ?_ | (refine awp_runG [0, 2, 3, 4, 5, 6, 7, 8, 9, 10, 11, 22, 37, 90, 103, 108, 115] hX ?_; (simp [go_sem, hjl, hcj]; try (refine ⟨by kernel_rfl, ?_⟩))) | (refine awp_drawnG [0, 2, 3, 4, 5, 6, 7, 8, 9, 10, 11, 22, 37, 90, 103, 108, 115] hX mixed ?_; (simp [go_sem, hjl, hcj]; try (refine ⟨by kernel_rfl, ?_⟩))) | (refine awp_ret ?_; (simp [go_sem, hjl, hcj]; try (refine ⟨by kernel_rfl, ?_⟩))) | (refine awp_skip ?_; (simp [go_sem, hjl, hcj]; try (refine ⟨by kernel_rfl, ?_⟩))) | (refine awp_exit ?_; (simp [go_sem, hjl, hcj]; try (refine ⟨by kernel_rfl, ?_⟩)))))
              first | refine callK_intro (hbm) rfl (by simp [go_sem]) rfl ?_ | refine callT_intro (hbm) rfl (by simp [go_sem]) rfl ?_
              try (simp [go_sem]; try (refine ⟨by kernel_rfl, ?_⟩))
              (repeat (first | refine awp_seq ?_ | refine awp_block ?_ | (refine awp_runG [0, 2, 3, 4, 5, 6, 7, 8, 9, 10, 11, 22, 37, 90, 103, 108, 115] hX ?_; (simp [go_sem]; try (refine ⟨by kernel_rfl, ?_⟩))) | (refine awp_drawnG [0, 2, 3, 4, 5, 6, 7, 8, 9, 10, 11, 22, 37, 90, 103, 108, 115] hX mixed ?_; (simp [go_sem]; try (refine ⟨by kernel_rfl, ?_⟩))) | (refine awp_ret ?_; (simp [go_sem]; try (refine ⟨by kernel_rfl, ?_⟩))) | (refine awp_skip ?_; (simp [go_sem]; try (refine ⟨by kernel_rfl, ?_⟩))) | (refine awp_exit ?_; (simp [go_sem]; try (refine ⟨by kernel_rfl, ?_⟩)))))
              refine awp_cond (b := false) (by simp [go_sem]) (fun h => by cases h) (fun _ => ?_)
              (repeat (first | refine awp_seq ?_ | refine awp_block ?_ | (refine awp_runG [0, 2, 3, 4, 5, 6, 7, 8, 9, 10, 11, 22, 37, 90, 103, 108, 115] hX ?_; (simp [go_sem]; (try simp (disch := omega) only [w64, td, tm]); try (refine ⟨by kernel_rfl, ?_⟩))) | (refine awp_drawnG [0, 2, 3, 4, 5, 6, 7, 8, 9, 10, 11, 22, 37, 90, 103, 108, 115] hX mixed ?_; (simp [go_sem]; (try simp (disch := omega) only [w64, td, tm]); try (refine ⟨by kernel_rfl, ?_⟩))) | (refine awp_ret ?_; (simp [go_sem]; (try simp (disch := omega) only [w64, td, tm]); try (refine ⟨by kernel_rfl, ?_⟩))) | (refine awp_skip ?_; (simp [go_sem]; (try simp (disch := omega) only [w64, td, tm]); try (refine ⟨by kernel_rfl, ?_⟩))) | (refine awp_exit ?_; (simp [go_sem]; (try simp (disch := omega) only [w64, td, tm]); try (refine ⟨by kernel_rfl, ?_⟩)))))
              refine ⟨j + 1, ⟨by omega, by omega⟩, by omega, ?_⟩
              refine sub_of _ [.old 0 ⟨25, 4, [tk ts[k]]⟩] (by simp [go_sem]) ?_
              simp [go_sem]
            · (repeat (first | refine awp_seq ?_ | refine awp_block ?_ | (refine awp_runG [0, 2, 3, 4, 5, 6, 7, 8, 9, 10, 11, 22, 37, 90, 103, 108, 115] hX ?_; (simp [go_sem, p1]; (try simp (disch := omega) only [w64, td, tm]); try (refine ⟨by kernel_rfl, ?_⟩))) | (refine awp_drawnG [0, 2, 3, 4, 5, 6, 7, 8, 9, 10, 11, 22, 37, 90, 103, 108, 115] hX mixed ?_; (simp [go_sem, p1]; (try simp (disch := omega) only [w64, td, tm]); try (refine ⟨by kernel_rfl, ?_⟩))) | (refine awp_ret ?_; (simp [go_sem, p1]; (try simp (disch := omega) only [w64, td, tm]); try (refine ⟨by kernel_rfl, ?_⟩))) | (refine awp_skip ?_; (simp [go_sem, p1]; (try simp (disch := omega) only [w64, td, tm]); try (refine ⟨by kernel_rfl, ?_⟩))) | (refine awp_exit ?_; (simp [go_sem, p1]; (try simp (disch := omega) only [w64, td, tm]); try (refine ⟨by kernel_rfl, ?_⟩)))))
              refine ⟨k + 1, by omega, by omega, ?_⟩
              refine sub_of _ [] (by simp [go_sem]) ?_
              simp [go_sem, hb1, p1]
      · have hkl : k = ts.length := by simp at hd; omega
        subst hkl
        have hlp : 0 < ts.length := List.length_pos_iff.2 hne
        have hfin : endAt ts ts.length = l.length := by
          obtain ⟨q, hq⟩ : ∃ q, ts.length = q + 1 := ⟨ts.length - 1, by omega⟩
          have hk' : ts[q]? = some (ts[q]'(by omega)) := List.getElem?_eq_getElem _
          have h1 := hpl.last (ts[q]'(by omega)) (by rw [show ts.length - 1 = q by omega]; exact hk')
          obtain ⟨a, p1, p2, p3, p4, _⟩ := hpl.pos q _ hk'
          have h2 := p4.2 hq.symm
          rw [hq]
          simp only [endAt, hk', h1, h2]
          simp
        (repeat (first | refine awp_seq ?_ | refine awp_block ?_ | (refine awp_runG [0, 2, 3, 4, 5, 6, 7, 8, 9, 10, 11, 22, 37, 90, 103, 108, 115] hX ?_; (simp [go_sem, hfin, hlp]; try (refine ⟨by kernel_rfl, ?_⟩))) | (refine awp_drawnG [0, 2, 3, 4, 5, 6, 7, 8, 9, 10, 11, 22, 37, 90, 103, 108, 115] hX mixed ?_; (simp [go_sem, hfin, hlp]; try (refine ⟨by kernel_rfl, ?_⟩))) | (refine awp_ret ?_; (simp [go_sem, hfin, hlp]; try (refine ⟨by kernel_rfl, ?_⟩))) | (refine awp_skip ?_; (simp [go_sem, hfin, hlp]; try (refine ⟨by kernel_rfl, ?_⟩))) | (refine awp_exit ?_; (simp [go_sem, hfin, hlp]; try (refine ⟨by kernel_rfl, ?_⟩)))))

end Go.Proofs.YtgkafceckdoabaaDoor
