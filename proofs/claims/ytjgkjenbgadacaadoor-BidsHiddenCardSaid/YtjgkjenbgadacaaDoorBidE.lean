/-
  Layer 24: a copy; a bid put in, a bid opened.
-/
import Derived.Test.YtjgkjenbgadacaaDoorBidD
set_option linter.all false
namespace Go.Proofs.YtjgkjenbgadacaaDoor
open Go.RowKit Go.Ab
attribute [local irreducible] AWP Go.Ab.Sub Means MeansH CallK CallG CallT CallGT CallU

theorem zone_ob (L : List Bd) : zoneEs (L.map ob) = true := by
  unfold zoneEs
  rw [List.all_eq_true]
  intro a ha
  obtain ⟨b, _, rfl⟩ := List.mem_map.1 ha
  rfl
abbrev rowB (L : List Bd) : Cell := .row ⟨24, 4, L.map ob⟩

theorem clone_h (L : List Bd) (hl : L.length ≤ 100000) : MeansH Tryd.prog 33 [] [bl L] (.ow 0) [rowB L] := by
  have hz := zone_ob L
  refine meansH_fn 0 8 [.tmp 2] Tryd.func33 rfl rfl rfl (by simp) (by decide) rfl fun X hX => ?_
  (repeat (first | refine awp_seq ?_ | refine awp_block ?_ | ((first | refine awp_runG [0, 2, 4] hX ?_ | refine awp_drawnG [0, 2, 4] hX mixed ?_ | refine awp_skip ?_ | refine awp_exit ?_); (simp [go_sem]; try (refine ⟨by kernel_rfl, ?_⟩)))))
  refine ⟨?_, fun hL => ?_⟩
  · refine awp_cond (b := false) (by simp [go_sem]) (fun hb => by cases hb) (fun _ => ?_)
    (repeat (first | refine awp_seq ?_ | refine awp_block ?_ | ((first | refine awp_runG [0, 2, 4] hX ?_ | refine awp_drawnG [0, 2, 4] hX mixed ?_ | refine awp_skip ?_ | refine awp_exit ?_); (simp [go_sem]; try (refine ⟨by kernel_rfl, ?_⟩)))))
    (repeat refine And.intro (by first | omega | (unfold maxLen; omega) | kernel_rfl | (refine ⟨by first | omega | (unfold maxLen; omega), by first | omega | (unfold maxLen; omega)⟩) | grind) ?_)
    (repeat (first | refine awp_seq ?_ | refine awp_block ?_ | ((first | refine awp_runG [0, 2, 4] hX ?_ | refine awp_drawnG [0, 2, 4] hX mixed ?_ | refine awp_skip ?_ | refine awp_exit ?_); (simp [go_sem]; try (refine ⟨by kernel_rfl, ?_⟩)))))
    refine awp_ret ?_; (try simp only [thenQ, blkQ, loopQ]); refine retH_ret [(2, .ow 0)] [.old 1 ⟨24, 4, L.map ob⟩] ?_
    simp [go_sem]
  · subst hL
    refine awp_cond (b := true) (by simp [go_sem]) (fun _ => ?_) (fun hb => by cases hb)
    (repeat (first | refine awp_seq ?_ | refine awp_block ?_ | ((first | refine awp_runG [0, 2, 4] hX ?_ | refine awp_drawnG [0, 2, 4] hX mixed ?_ | refine awp_skip ?_ | refine awp_exit ?_); (simp [go_sem]; try (refine ⟨by kernel_rfl, ?_⟩)))))
    refine awp_ret ?_; (try simp only [thenQ, blkQ, loopQ]); refine retH_ret [(2, .ow 0)] [.birth 24 4] ?_
    simp [go_sem]

set_option maxHeartbeats 4000000 in
set_option maxRecDepth 20000 in
theorem put_m (L : List Bd) (b : Bd) (hl : L.length ≤ 100000) : Means true Tryd.prog 9 [bl L, ob b] (.tup [bl (put L b).1, ii (put L b).2]) := by
  have c1 := rightL_m L (by omega)
  have c2 := right_m b
  have c3 := clash_m b L (by omega)
  have c4 := clone_h L hl
  refine means_fn true 22 [.tmp 4, .tmp 5] Tryd.func9 rfl rfl rfl (by simp) (by decide) rfl fun X hX => ?_
  (repeat (first | refine awp_seq ?_ | refine awp_block ?_ | ((first | refine awp_runG [0, 1, 3, 4, 5, 13, 16] hX ?_ | refine awp_drawnG [0, 1, 3, 4, 5, 13, 16] hX mixed ?_ | refine awp_ret ?_ | refine awp_skip ?_ | refine awp_exit ?_); (simp [go_sem]; try (refine ⟨by kernel_rfl, ?_⟩)))))
  first | refine callK_intro (c1) rfl (by simp [go_sem]) rfl ?_ | refine callT_intro (c1) rfl (by simp [go_sem]) rfl ?_
  try (simp [go_sem]; try (refine ⟨by kernel_rfl, ?_⟩))
  (repeat (first | refine awp_seq ?_ | refine awp_block ?_ | ((first | refine awp_runG [0, 1, 3, 4, 5, 13, 16] hX ?_ | refine awp_drawnG [0, 1, 3, 4, 5, 13, 16] hX mixed ?_ | refine awp_ret ?_ | refine awp_skip ?_ | refine awp_exit ?_); (simp [go_sem]; try (refine ⟨by kernel_rfl, ?_⟩)))))
  first | refine callG_intro (fun hg => c2) rfl (by simp [go_sem]) rfl ?_ | refine callGT_intro (fun hg => c2) rfl (by simp [go_sem]) rfl ?_
  try (simp [go_sem]; try (refine ⟨by kernel_rfl, ?_⟩))
  (repeat (first | refine awp_seq ?_ | refine awp_block ?_ | ((first | refine awp_runG [0, 1, 3, 4, 5, 13, 16] hX ?_ | refine awp_drawnG [0, 1, 3, 4, 5, 13, 16] hX mixed ?_ | refine awp_ret ?_ | refine awp_skip ?_ | refine awp_exit ?_); (simp [go_sem]; try (refine ⟨by kernel_rfl, ?_⟩)))))
  refine awp_cond (b := !okL L || !okB b) (by simp [go_sem]) (fun hd => ?_) (fun hd => ?_)
  · have e : put L b = ([], 1) := by
      unfold put
      rw [if_neg]
      rintro ⟨q1, q2⟩
      rw [q1, q2] at hd; cases hd
    rw [e]
    (repeat (first | refine awp_seq ?_ | refine awp_block ?_ | ((first | refine awp_runG [0, 1, 3, 4, 5, 13, 16] hX ?_ | refine awp_drawnG [0, 1, 3, 4, 5, 13, 16] hX mixed ?_ | refine awp_ret ?_ | refine awp_skip ?_ | refine awp_exit ?_); (simp [go_sem]; try (refine ⟨by kernel_rfl, ?_⟩)))))
  · simp only [Bool.or_eq_false_iff, Bool.not_eq_false'] at hd
    have e : put L b = if clashB L b = true then ([], 5) else (L ++ [b], 0) := by unfold put; rw [if_pos hd]
    (repeat (first | refine awp_seq ?_ | refine awp_block ?_ | ((first | refine awp_runG [0, 1, 3, 4, 5, 13, 16] hX ?_ | refine awp_drawnG [0, 1, 3, 4, 5, 13, 16] hX mixed ?_ | refine awp_ret ?_ | refine awp_skip ?_ | refine awp_exit ?_); (simp [go_sem]; try (refine ⟨by kernel_rfl, ?_⟩)))))
    first | refine callK_intro (c3) rfl (by simp [go_sem]) rfl ?_ | refine callT_intro (c3) rfl (by simp [go_sem]) rfl ?_
    try (simp [go_sem]; try (refine ⟨by kernel_rfl, ?_⟩))
    refine awp_cond (b := clashB L b) (by simp [go_sem]) (fun hq => ?_) (fun hq => ?_)
    · rw [e, if_pos hq]
      (repeat (first | refine awp_seq ?_ | refine awp_block ?_ | ((first | refine awp_runG [0, 1, 3, 4, 5, 13, 16] hX ?_ | refine awp_drawnG [0, 1, 3, 4, 5, 13, 16] hX mixed ?_ | refine awp_ret ?_ | refine awp_skip ?_ | refine awp_exit ?_); (simp [go_sem]; try (refine ⟨by kernel_rfl, ?_⟩)))))
    · rw [e, if_neg (by rw [hq]; simp)]
      (repeat (first | refine awp_seq ?_ | refine awp_block ?_ | ((first | refine awp_runG [0, 1, 3, 4, 5, 13, 16] hX ?_ | refine awp_skip ?_ | refine awp_exit ?_); (simp [go_sem]; try (refine ⟨by kernel_rfl, ?_⟩)))))
      refine awp_drawUG [0, 1, 3, 4, 5, 13, 16] 3 hX mixed ?_; (simp [go_sem]; try (refine ⟨by kernel_rfl, ?_⟩))
      refine callUn_intro (c4) (by simp [go_sem]) (by simp [go_sem]) ?_
      (simp [go_sem]; try (refine ⟨by kernel_rfl, ?_⟩))
      (repeat refine And.intro (by first | omega | (unfold maxLen; omega) | kernel_rfl | (refine ⟨by first | omega | (unfold maxLen; omega), by first | omega | (unfold maxLen; omega)⟩) | grind) ?_)
      refine ⟨⟨by kernel_rfl, by kernel_rfl⟩, ?_⟩
      (repeat (first | refine awp_seq ?_ | refine awp_block ?_ | ((first | refine awp_runG [0, 1, 3, 4, 5, 13, 16] hX ?_ | refine awp_drawnG [0, 1, 3, 4, 5, 13, 16] hX mixed ?_ | refine awp_ret ?_ | refine awp_skip ?_ | refine awp_exit ?_); (simp [go_sem]; try (refine ⟨by kernel_rfl, ?_⟩)))))

end Go.Proofs.YtjgkjenbgadacaaDoor
