/-
  Layer 18: the reference's Even, and the law SplitTells.
-/
import Derived.Test.YtoiccjhjfhijpaaSplV
import Derived.Test.YtoiccjhjfhijpaaSplK
import Derived.Test.YtoiccjhjfhijpaaSplF
set_option linter.all false
namespace Go.Proofs.Ytoiccjhjfhijpaa
open Go.RowKit Go.Ab
attribute [local irreducible] AWP Go.Ab.Sub Means MeansH CallK CallG CallT CallGT CallU

theorem wsum_ones (k : Nat) : wsum (List.replicate k 1) = if k ≤ 60 then (k : Int) else 0 := by
  have : ∀ q : Nat, sumL (List.replicate q 1) = q := fun q => by
    induction q with
    | zero => rfl
    | succ q ih => rw [List.replicate_succ, sumL_cons, ih]; push_cast; omega
  unfold wsum
  by_cases h : k ≤ 60
  · have hk : okW (List.replicate k 1) = true := by
      simp only [okW, Bool.and_eq_true, List.all_eq_true, decide_eq_true_eq, List.length_replicate]
      exact ⟨fun x hx => by rw [List.eq_of_mem_replicate hx]; rfl, by omega⟩
    rw [if_pos hk, if_pos h, this]
  · have hk : ¬ okW (List.replicate k 1) = true := fun q => by have := okW_len q; simp at this; omega
    rw [if_neg hk, if_neg h]

set_option maxHeartbeats 4000000 in
set_option maxRecDepth 20000 in
theorem reven_m (n p : Int) : Means false Try.prog 10 [ii n, ii p] (.tup [il (if isAm n = true ∧ 1 ≤ p ∧ p ≤ 60 then wtd (List.replicate p.toNat 1) n else []), ii (if isAm n = true ∧ 1 ≤ p ∧ p ≤ 60 then 0 else 1)]) := by
  refine means_fn false 30 [.tmp 4, .tmp 5] Try.func10 rfl rfl rfl (by simp) (by decide) rfl fun X hX => ?_
  (repeat (first | refine awp_seq ?_ | refine awp_block ?_ | ((first | refine awp_runG [0, 1, 4, 5, 6, 7, 8, 9, 16] hX ?_ | refine awp_drawnG [0, 1, 4, 5, 6, 7, 8, 9, 16] hX mixed ?_ | refine awp_ret ?_ | refine awp_skip ?_ | refine awp_exit ?_); (simp [go_sem]; try (refine ⟨by kernel_rfl, ?_⟩)))))
  refine awp_loop (fun k : Nat => ⟨mkE [(0, ii n), (1, ii p), (6, .ow 0), (7, ii k)], [rowI (List.replicate k 1)]⟩) (fun k => k ≤ 61 ∧ (k : Int) ≤ max p 0) (fun k => 61 - k) 0 ?_ ?_ ?_
  · refine sub_of _ [.birth 3 1] (by simp [go_sem]) ?_
    simp [go_sem]
  · omega
  · rintro k ⟨h1, h2⟩
    have wk := w64 (x := (k : Int) + 1) (by omega) (by omega)
    (repeat (first | refine awp_seq ?_ | refine awp_block ?_ | ((first | refine awp_runG [0, 1, 4, 5, 6, 7, 8, 9, 16] hX ?_ | refine awp_drawnG [0, 1, 4, 5, 6, 7, 8, 9, 16] hX mixed ?_ | refine awp_ret ?_ | refine awp_skip ?_ | refine awp_exit ?_); (simp [go_sem]; try (refine ⟨by kernel_rfl, ?_⟩)))))
    refine awp_cond (b := decide ((k : Int) < p) && decide ((k : Int) ≤ 60)) (by simp [go_sem]; try omega) (fun hd => ?_) (fun hd => ?_)
    · simp at hd
      have hrs : List.replicate (k + 1) (1 : Int) = List.replicate k 1 ++ [1] := List.replicate_succ'
      have hrl : (List.replicate k (1 : Int)).length = k := by simp
      generalize List.replicate k (1 : Int) = D at *
      (repeat (first | refine awp_seq ?_ | refine awp_block ?_ | ((first | refine awp_runG [0, 1, 4, 5, 6, 7, 8, 9, 16] hX ?_ | refine awp_drawnG [0, 1, 4, 5, 6, 7, 8, 9, 16] hX mixed ?_ | refine awp_ret ?_ | refine awp_skip ?_ | refine awp_exit ?_); (simp [go_sem, hrl]; try (refine ⟨by kernel_rfl, ?_⟩)))))
      try (repeat refine And.intro (by first | omega | (unfold maxLen; omega) | kernel_rfl | (refine ⟨by first | omega | (unfold maxLen; omega), by first | omega | (unfold maxLen; omega)⟩) | grind) ?_)
      try (repeat (first | refine awp_seq ?_ | refine awp_block ?_ | ((first | refine awp_runG [0, 1, 4, 5, 6, 7, 8, 9, 16] hX ?_ | refine awp_drawnG [0, 1, 4, 5, 6, 7, 8, 9, 16] hX mixed ?_ | refine awp_ret ?_ | refine awp_skip ?_ | refine awp_exit ?_); (simp [go_sem, hrl, wk]; try (refine ⟨by kernel_rfl, ?_⟩)))))
      refine ⟨k + 1, ⟨by omega, by omega⟩, by omega, ?_⟩
      rw [hrs]
      refine sub_of _ [.old 2 ⟨3, 1, (D ++ [(1 : Int)]).map ii⟩] (by simp [go_sem]) ?_
      simp [go_sem]
      try omega
    · have hd' : ¬ ((k : Int) < p ∧ (k : Int) ≤ 60) := by simpa using hd
      have cw := rweighted_m n (List.replicate k 1) (by simp; omega)
      have ws := wsum_ones k
      have e : (isAm n = true ∧ wsum (List.replicate k 1) ≠ 0) = (isAm n = true ∧ 1 ≤ p ∧ p ≤ 60) := by
        rw [ws]
        by_cases q : 1 ≤ p ∧ p ≤ 60
        · rw [if_pos (by omega)]
          have : (k : Int) ≠ 0 := by omega
          rw [eq_true this, eq_true q]
        · rw [eq_false q]
          have : ¬ ((if k ≤ 60 then (k : Int) else 0) ≠ 0) := by split <;> omega
          rw [eq_false this]
      have e2 : (if isAm n = true ∧ 1 ≤ p ∧ p ≤ 60 then wtd (List.replicate p.toNat 1) n else []) = (if isAm n = true ∧ 1 ≤ p ∧ p ≤ 60 then wtd (List.replicate k 1) n else []) := by
        split
        · have : p.toNat = k := by omega
          rw [this]
        · rfl
      simp only [e] at cw
      rw [e2]
      clear e e2 ws
      generalize (if isAm n = true ∧ 1 ≤ p ∧ p ≤ 60 then wtd (List.replicate k 1) n else []) = A at *
      generalize (if isAm n = true ∧ 1 ≤ p ∧ p ≤ 60 then (0 : Int) else 1) = E at *
      generalize List.replicate k (1 : Int) = D at *
      (repeat (first | refine awp_seq ?_ | refine awp_block ?_ | ((first | refine awp_runG [0, 1, 4, 5, 6, 7, 8, 9, 16] hX ?_ | refine awp_drawnG [0, 1, 4, 5, 6, 7, 8, 9, 16] hX mixed ?_ | refine awp_ret ?_ | refine awp_skip ?_ | refine awp_exit ?_); (simp [go_sem]; try (refine ⟨by kernel_rfl, ?_⟩)))))
      first | refine callK_intro (cw) rfl (by simp [go_sem]) rfl ?_ | refine callT_intro (cw) rfl (by simp [go_sem]) rfl ?_
      try (simp [go_sem]; try (refine ⟨by kernel_rfl, ?_⟩))
      (repeat (first | refine awp_seq ?_ | refine awp_block ?_ | ((first | refine awp_runG [0, 1, 4, 5, 6, 7, 8, 9, 16] hX ?_ | refine awp_drawnG [0, 1, 4, 5, 6, 7, 8, 9, 16] hX mixed ?_ | refine awp_ret ?_ | refine awp_skip ?_ | refine awp_exit ?_); (simp [go_sem]; try (refine ⟨by kernel_rfl, ?_⟩)))))

set_option maxHeartbeats 16000000 in
set_option maxRecDepth 20000 in
theorem splitTells_m (n p : Int) (W : List Int) (hl : W.length ≤ 9223372036854775807) (b : Int) : Means true Try.prog 3 [ii n, ii p, il W, ii b] (bb true) := by
  have c1 := even_m n p
  have c2 := reven_m n p
  have c3 := weighted_m n W hl
  have c4 := rweighted_m n W hl
  have c5 := given_m W n hl
  have c6 := rgiven_m W n hl
  have c7 := fair_m n W b hl
  have c8 := rfair_m n W b hl
  have l1 : (if isAm n = true ∧ 1 ≤ p ∧ p ≤ 60 then wtd (List.replicate p.toNat 1) n else []).length ≤ 9223372036854775807 := by
    split
    · rw [wtd_len]; simp; omega
    · simp
  have l2 : (if isAm n = true ∧ wsum W ≠ 0 then wtd W n else []).length ≤ 9223372036854775807 := by
    split
    · rw [wtd_len]; exact hl
    · simp
  have l3 : (if givenE W n = 0 then given W n else []).length ≤ 9223372036854775807 := by
    split
    · rw [given_len]; exact hl
    · simp
  have l4 : (if fairE n W b = 0 then fair n W b else []).length ≤ 9223372036854775807 := by
    split
    · rw [fair_len]; exact hl
    · simp
  generalize (if isAm n = true ∧ 1 ≤ p ∧ p ≤ 60 then wtd (List.replicate p.toNat 1) n else []) = A at *
  generalize (if isAm n = true ∧ 1 ≤ p ∧ p ≤ 60 then (0 : Int) else 1) = e1 at *
  generalize (if isAm n = true ∧ wsum W ≠ 0 then wtd W n else []) = B at *
  generalize (if isAm n = true ∧ wsum W ≠ 0 then (0 : Int) else 1) = e2 at *
  generalize (if givenE W n = 0 then given W n else []) = C at *
  generalize givenE W n = e3 at *
  generalize (if fairE n W b = 0 then fair n W b else []) = D at *
  generalize fairE n W b = e4 at *
  have i1 := ints_t A l1
  have i2 := ints_t B l2
  have i3 := ints_t C l3
  have i4 := ints_t D l4
  refine means_fn true 126 [.tmp 8] Try.func3 rfl rfl rfl (by simp) (by decide) rfl fun X hX => ?_
  (repeat (first | refine awp_seq ?_ | refine awp_block ?_ | ((first | refine awp_runG [0, 1, 2, 3, 8, 9, 10, 11, 12, 13, 14, 15, 16, 17, 18, 19, 20, 21, 22, 23, 24, 25, 29, 74, 77] hX ?_ | refine awp_drawnG [0, 1, 2, 3, 8, 9, 10, 11, 12, 13, 14, 15, 16, 17, 18, 19, 20, 21, 22, 23, 24, 25, 29, 74, 77] hX mixed ?_ | refine awp_ret ?_ | refine awp_skip ?_ | refine awp_exit ?_); (simp [go_sem]; try (refine ⟨by kernel_rfl, ?_⟩)))))
  first | refine callK_intro (small_m) rfl (by simp [go_sem]) rfl ?_ | refine callT_intro (small_m) rfl (by simp [go_sem]) rfl ?_
  try (simp [go_sem]; try (refine ⟨by kernel_rfl, ?_⟩))
  (repeat (first | refine awp_seq ?_ | refine awp_block ?_ | ((first | refine awp_runG [0, 1, 2, 3, 8, 9, 10, 11, 12, 13, 14, 15, 16, 17, 18, 19, 20, 21, 22, 23, 24, 25, 29, 74, 77] hX ?_ | refine awp_drawnG [0, 1, 2, 3, 8, 9, 10, 11, 12, 13, 14, 15, 16, 17, 18, 19, 20, 21, 22, 23, 24, 25, 29, 74, 77] hX mixed ?_ | refine awp_ret ?_ | refine awp_skip ?_ | refine awp_exit ?_); (simp [go_sem]; try (refine ⟨by kernel_rfl, ?_⟩)))))
  refine awp_cond (b := decide (70 < (W.length : Int))) (by simp [go_sem]) (fun hb => ?_) (fun hb => ?_)
  · (repeat (first | refine awp_seq ?_ | refine awp_block ?_ | ((first | refine awp_runG [0, 1, 2, 3, 8, 9, 10, 11, 12, 13, 14, 15, 16, 17, 18, 19, 20, 21, 22, 23, 24, 25, 29, 74, 77] hX ?_ | refine awp_drawnG [0, 1, 2, 3, 8, 9, 10, 11, 12, 13, 14, 15, 16, 17, 18, 19, 20, 21, 22, 23, 24, 25, 29, 74, 77] hX mixed ?_ | refine awp_ret ?_ | refine awp_skip ?_ | refine awp_exit ?_); (simp [go_sem]; try (refine ⟨by kernel_rfl, ?_⟩)))))
  (repeat (first | refine awp_seq ?_ | refine awp_block ?_ | ((first | refine awp_runG [0, 1, 2, 3, 8, 9, 10, 11, 12, 13, 14, 15, 16, 17, 18, 19, 20, 21, 22, 23, 24, 25, 29, 74, 77] hX ?_ | refine awp_drawnG [0, 1, 2, 3, 8, 9, 10, 11, 12, 13, 14, 15, 16, 17, 18, 19, 20, 21, 22, 23, 24, 25, 29, 74, 77] hX mixed ?_ | refine awp_ret ?_ | refine awp_skip ?_ | refine awp_exit ?_); (simp [go_sem]; try (refine ⟨by kernel_rfl, ?_⟩)))))
  first | refine callK_intro (c1) rfl (by simp [go_sem]) rfl ?_ | refine callT_intro (c1) rfl (by simp [go_sem]) rfl ?_
  try (simp [go_sem]; try (refine ⟨by kernel_rfl, ?_⟩))
  (repeat (first | refine awp_seq ?_ | refine awp_block ?_ | ((first | refine awp_runG [0, 1, 2, 3, 8, 9, 10, 11, 12, 13, 14, 15, 16, 17, 18, 19, 20, 21, 22, 23, 24, 25, 29, 74, 77] hX ?_ | refine awp_drawnG [0, 1, 2, 3, 8, 9, 10, 11, 12, 13, 14, 15, 16, 17, 18, 19, 20, 21, 22, 23, 24, 25, 29, 74, 77] hX mixed ?_ | refine awp_ret ?_ | refine awp_skip ?_ | refine awp_exit ?_); (simp [go_sem]; try (refine ⟨by kernel_rfl, ?_⟩)))))
  first | refine callK_intro (c2) rfl (by simp [go_sem]) rfl ?_ | refine callT_intro (c2) rfl (by simp [go_sem]) rfl ?_
  try (simp [go_sem]; try (refine ⟨by kernel_rfl, ?_⟩))
  (repeat (first | refine awp_seq ?_ | refine awp_block ?_ | ((first | refine awp_runG [0, 1, 2, 3, 8, 9, 10, 11, 12, 13, 14, 15, 16, 17, 18, 19, 20, 21, 22, 23, 24, 25, 29, 74, 77] hX ?_ | refine awp_drawnG [0, 1, 2, 3, 8, 9, 10, 11, 12, 13, 14, 15, 16, 17, 18, 19, 20, 21, 22, 23, 24, 25, 29, 74, 77] hX mixed ?_ | refine awp_ret ?_ | refine awp_skip ?_ | refine awp_exit ?_); (simp [go_sem]; try (refine ⟨by kernel_rfl, ?_⟩)))))
  first | refine callK_intro (c3) rfl (by simp [go_sem]) rfl ?_ | refine callT_intro (c3) rfl (by simp [go_sem]) rfl ?_
  try (simp [go_sem]; try (refine ⟨by kernel_rfl, ?_⟩))
  (repeat (first | refine awp_seq ?_ | refine awp_block ?_ | ((first | refine awp_runG [0, 1, 2, 3, 8, 9, 10, 11, 12, 13, 14, 15, 16, 17, 18, 19, 20, 21, 22, 23, 24, 25, 29, 74, 77] hX ?_ | refine awp_drawnG [0, 1, 2, 3, 8, 9, 10, 11, 12, 13, 14, 15, 16, 17, 18, 19, 20, 21, 22, 23, 24, 25, 29, 74, 77] hX mixed ?_ | refine awp_ret ?_ | refine awp_skip ?_ | refine awp_exit ?_); (simp [go_sem]; try (refine ⟨by kernel_rfl, ?_⟩)))))
  first | refine callK_intro (c4) rfl (by simp [go_sem]) rfl ?_ | refine callT_intro (c4) rfl (by simp [go_sem]) rfl ?_
  try (simp [go_sem]; try (refine ⟨by kernel_rfl, ?_⟩))
  (repeat (first | refine awp_seq ?_ | refine awp_block ?_ | ((first | refine awp_runG [0, 1, 2, 3, 8, 9, 10, 11, 12, 13, 14, 15, 16, 17, 18, 19, 20, 21, 22, 23, 24, 25, 29, 74, 77] hX ?_ | refine awp_drawnG [0, 1, 2, 3, 8, 9, 10, 11, 12, 13, 14, 15, 16, 17, 18, 19, 20, 21, 22, 23, 24, 25, 29, 74, 77] hX mixed ?_ | refine awp_ret ?_ | refine awp_skip ?_ | refine awp_exit ?_); (simp [go_sem]; try (refine ⟨by kernel_rfl, ?_⟩)))))
  first | refine callG_intro (fun hg => i1) rfl (by simp [go_sem]) rfl ?_ | refine callGT_intro (fun hg => i1) rfl (by simp [go_sem]) rfl ?_
  try (simp [go_sem]; try (refine ⟨by kernel_rfl, ?_⟩))
  first | refine callG_intro (fun hg => i2) rfl (by simp [go_sem]) rfl ?_ | refine callGT_intro (fun hg => i2) rfl (by simp [go_sem]) rfl ?_
  try (simp [go_sem]; try (refine ⟨by kernel_rfl, ?_⟩))
  refine awp_cond (b := false) (by simp [go_sem]) (fun h => by cases h) (fun _ => ?_)
  (repeat (first | refine awp_seq ?_ | refine awp_block ?_ | ((first | refine awp_runG [0, 1, 2, 3, 8, 9, 10, 11, 12, 13, 14, 15, 16, 17, 18, 19, 20, 21, 22, 23, 24, 25, 29, 74, 77] hX ?_ | refine awp_drawnG [0, 1, 2, 3, 8, 9, 10, 11, 12, 13, 14, 15, 16, 17, 18, 19, 20, 21, 22, 23, 24, 25, 29, 74, 77] hX mixed ?_ | refine awp_ret ?_ | refine awp_skip ?_ | refine awp_exit ?_); (simp [go_sem]; try (refine ⟨by kernel_rfl, ?_⟩)))))
  first | refine callK_intro (slight_m W hl) rfl (by simp [go_sem]) rfl ?_ | refine callT_intro (slight_m W hl) rfl (by simp [go_sem]) rfl ?_
  try (simp [go_sem]; try (refine ⟨by kernel_rfl, ?_⟩))
  refine awp_cond (b := !(decide ((W.length : Int) ≤ 12) && decide (wsum W ≤ 3000))) (by simp [go_sem]) (fun hb => ?_) (fun hb => ?_)
  · (repeat (first | refine awp_seq ?_ | refine awp_block ?_ | ((first | refine awp_runG [0, 1, 2, 3, 8, 9, 10, 11, 12, 13, 14, 15, 16, 17, 18, 19, 20, 21, 22, 23, 24, 25, 29, 74, 77] hX ?_ | refine awp_drawnG [0, 1, 2, 3, 8, 9, 10, 11, 12, 13, 14, 15, 16, 17, 18, 19, 20, 21, 22, 23, 24, 25, 29, 74, 77] hX mixed ?_ | refine awp_ret ?_ | refine awp_skip ?_ | refine awp_exit ?_); (simp [go_sem]; try (refine ⟨by kernel_rfl, ?_⟩)))))
  (repeat (first | refine awp_seq ?_ | refine awp_block ?_ | ((first | refine awp_runG [0, 1, 2, 3, 8, 9, 10, 11, 12, 13, 14, 15, 16, 17, 18, 19, 20, 21, 22, 23, 24, 25, 29, 74, 77] hX ?_ | refine awp_drawnG [0, 1, 2, 3, 8, 9, 10, 11, 12, 13, 14, 15, 16, 17, 18, 19, 20, 21, 22, 23, 24, 25, 29, 74, 77] hX mixed ?_ | refine awp_ret ?_ | refine awp_skip ?_ | refine awp_exit ?_); (simp [go_sem]; try (refine ⟨by kernel_rfl, ?_⟩)))))
  first | refine callK_intro (c5) rfl (by simp [go_sem]) rfl ?_ | refine callT_intro (c5) rfl (by simp [go_sem]) rfl ?_
  try (simp [go_sem]; try (refine ⟨by kernel_rfl, ?_⟩))
  (repeat (first | refine awp_seq ?_ | refine awp_block ?_ | ((first | refine awp_runG [0, 1, 2, 3, 8, 9, 10, 11, 12, 13, 14, 15, 16, 17, 18, 19, 20, 21, 22, 23, 24, 25, 29, 74, 77] hX ?_ | refine awp_drawnG [0, 1, 2, 3, 8, 9, 10, 11, 12, 13, 14, 15, 16, 17, 18, 19, 20, 21, 22, 23, 24, 25, 29, 74, 77] hX mixed ?_ | refine awp_ret ?_ | refine awp_skip ?_ | refine awp_exit ?_); (simp [go_sem]; try (refine ⟨by kernel_rfl, ?_⟩)))))
  first | refine callK_intro (c6) rfl (by simp [go_sem]) rfl ?_ | refine callT_intro (c6) rfl (by simp [go_sem]) rfl ?_
  try (simp [go_sem]; try (refine ⟨by kernel_rfl, ?_⟩))
  (repeat (first | refine awp_seq ?_ | refine awp_block ?_ | ((first | refine awp_runG [0, 1, 2, 3, 8, 9, 10, 11, 12, 13, 14, 15, 16, 17, 18, 19, 20, 21, 22, 23, 24, 25, 29, 74, 77] hX ?_ | refine awp_drawnG [0, 1, 2, 3, 8, 9, 10, 11, 12, 13, 14, 15, 16, 17, 18, 19, 20, 21, 22, 23, 24, 25, 29, 74, 77] hX mixed ?_ | refine awp_ret ?_ | refine awp_skip ?_ | refine awp_exit ?_); (simp [go_sem]; try (refine ⟨by kernel_rfl, ?_⟩)))))
  first | refine callK_intro (c7) rfl (by simp [go_sem]) rfl ?_ | refine callT_intro (c7) rfl (by simp [go_sem]) rfl ?_
  try (simp [go_sem]; try (refine ⟨by kernel_rfl, ?_⟩))
  (repeat (first | refine awp_seq ?_ | refine awp_block ?_ | ((first | refine awp_runG [0, 1, 2, 3, 8, 9, 10, 11, 12, 13, 14, 15, 16, 17, 18, 19, 20, 21, 22, 23, 24, 25, 29, 74, 77] hX ?_ | refine awp_drawnG [0, 1, 2, 3, 8, 9, 10, 11, 12, 13, 14, 15, 16, 17, 18, 19, 20, 21, 22, 23, 24, 25, 29, 74, 77] hX mixed ?_ | refine awp_ret ?_ | refine awp_skip ?_ | refine awp_exit ?_); (simp [go_sem]; try (refine ⟨by kernel_rfl, ?_⟩)))))
  first | refine callK_intro (c8) rfl (by simp [go_sem]) rfl ?_ | refine callT_intro (c8) rfl (by simp [go_sem]) rfl ?_
  try (simp [go_sem]; try (refine ⟨by kernel_rfl, ?_⟩))
  (repeat (first | refine awp_seq ?_ | refine awp_block ?_ | ((first | refine awp_runG [0, 1, 2, 3, 8, 9, 10, 11, 12, 13, 14, 15, 16, 17, 18, 19, 20, 21, 22, 23, 24, 25, 29, 74, 77] hX ?_ | refine awp_drawnG [0, 1, 2, 3, 8, 9, 10, 11, 12, 13, 14, 15, 16, 17, 18, 19, 20, 21, 22, 23, 24, 25, 29, 74, 77] hX mixed ?_ | refine awp_ret ?_ | refine awp_skip ?_ | refine awp_exit ?_); (simp [go_sem]; try (refine ⟨by kernel_rfl, ?_⟩)))))
  first | refine callG_intro (fun hg => i3) rfl (by simp [go_sem]) rfl ?_ | refine callGT_intro (fun hg => i3) rfl (by simp [go_sem]) rfl ?_
  try (simp [go_sem]; try (refine ⟨by kernel_rfl, ?_⟩))
  first | refine callG_intro (fun hg => i4) rfl (by simp [go_sem]) rfl ?_ | refine callGT_intro (fun hg => i4) rfl (by simp [go_sem]) rfl ?_
  try (simp [go_sem]; try (refine ⟨by kernel_rfl, ?_⟩))
  (repeat (first | refine awp_seq ?_ | refine awp_block ?_ | ((first | refine awp_runG [0, 1, 2, 3, 8, 9, 10, 11, 12, 13, 14, 15, 16, 17, 18, 19, 20, 21, 22, 23, 24, 25, 29, 74, 77] hX ?_ | refine awp_drawnG [0, 1, 2, 3, 8, 9, 10, 11, 12, 13, 14, 15, 16, 17, 18, 19, 20, 21, 22, 23, 24, 25, 29, 74, 77] hX mixed ?_ | refine awp_ret ?_ | refine awp_skip ?_ | refine awp_exit ?_); (simp [go_sem]; try (refine ⟨by kernel_rfl, ?_⟩)))))

end Go.Proofs.Ytoiccjhjfhijpaa
