/-
  Layer 24: a bid that is opened.
-/
import Derived.Test.YtjgkjenbgadacaaDoorBidE
set_option linter.all false
namespace Go.Proofs.YtjgkjenbgadacaaDoor
open Go.RowKit Go.Ab
attribute [local irreducible] AWP Go.Ab.Sub Means MeansH CallK CallG CallT CallGT CallU

abbrev boxI (m : Int) : Cell := .row ⟨3, 1, [ii m]⟩
theorem open1_m (m : Int) (x : Bd) : MeansH Tryd.prog 37 [boxI m] [ob x, .el 0 1 0 0] (bb (decide (x.m = m))) [boxI m] := by
  refine meansH_fn 1 8 [.tmp 3] Tryd.func37 rfl rfl rfl (by simp) (by decide) rfl fun X hX => ?_
  (repeat (first | refine awp_seq ?_ | refine awp_block ?_ | ((first | refine awp_runG [0, 1, 2, 3, 1000000] hX ?_ | refine awp_drawnG [0, 1, 2, 3, 1000000] hX mixed ?_ | refine awp_skip ?_ | refine awp_exit ?_); (simp [go_sem]; try (refine ⟨by kernel_rfl, ?_⟩)))))
  refine awp_ret ?_; (try simp only [thenQ, blkQ, loopQ]); refine retH_ret [(3, bb (decide (x.m = m))), (1000000, .ow 0)] [.old 0 ⟨3, 1, [ii m]⟩] ?_
  simp [go_sem]

theorem ob_set (L : List Bd) (i : Nat) (b : Bd) : (L.map ob).set i (ob b) = (L.set i b).map ob := by rw [List.map_set]

set_option maxHeartbeats 4000000 in
set_option maxRecDepth 20000 in
theorem open_m (L : List Bd) (m n : Int) (hl : L.length ≤ 100000) : Means true Tryd.prog 11 [bl L, ii m, ii n] (.tup [bl (opn L m n).1, ii (opn L m n).2]) := by
  have c1 := rightL_m L (by omega)
  have c2 := coins_m n
  have c3 := indexF_m 37 3 1 (ii m) (fun b => decide (b.m = m)) L (by omega) (by simp [go_sem]) (fun x _ => open1_m m x) (by kernel_rfl)
  have c4 := clone_h L hl
  have hat : L.findIdx (fun b => decide (b.m = m)) = atM L m := rfl
  rw [hat] at c3
  refine means_fn true 40 [.tmp 6, .tmp 7] Tryd.func11 rfl rfl rfl (by simp) (by decide) rfl fun X hX => ?_
  (repeat (first | refine awp_seq ?_ | refine awp_block ?_ | ((first | refine awp_runG [0, 1, 2, 4, 6, 7, 8, 9, 17, 22, 27] hX ?_ | refine awp_drawnG [0, 1, 2, 4, 6, 7, 8, 9, 17, 22, 27] hX mixed ?_ | refine awp_ret ?_ | refine awp_skip ?_ | refine awp_exit ?_); (simp [go_sem]; try (refine ⟨by kernel_rfl, ?_⟩)))))
  first | refine callK_intro (c1) rfl (by simp [go_sem]) rfl ?_ | refine callT_intro (c1) rfl (by simp [go_sem]) rfl ?_
  try (simp [go_sem]; try (refine ⟨by kernel_rfl, ?_⟩))
  (repeat (first | refine awp_seq ?_ | refine awp_block ?_ | ((first | refine awp_runG [0, 1, 2, 4, 6, 7, 8, 9, 17, 22, 27] hX ?_ | refine awp_drawnG [0, 1, 2, 4, 6, 7, 8, 9, 17, 22, 27] hX mixed ?_ | refine awp_ret ?_ | refine awp_skip ?_ | refine awp_exit ?_); (simp [go_sem]; try (refine ⟨by kernel_rfl, ?_⟩)))))
  first | refine callG_intro (fun hg => c2) rfl (by simp [go_sem]) rfl ?_ | refine callGT_intro (fun hg => c2) rfl (by simp [go_sem]) rfl ?_
  try (simp [go_sem]; try (refine ⟨by kernel_rfl, ?_⟩))
  (repeat (first | refine awp_seq ?_ | refine awp_block ?_ | ((first | refine awp_runG [0, 1, 2, 4, 6, 7, 8, 9, 17, 22, 27] hX ?_ | refine awp_drawnG [0, 1, 2, 4, 6, 7, 8, 9, 17, 22, 27] hX mixed ?_ | refine awp_ret ?_ | refine awp_skip ?_ | refine awp_exit ?_); (simp [go_sem]; try (refine ⟨by kernel_rfl, ?_⟩)))))
  refine awp_cond (b := !okL L || !coinB n) (by simp [go_sem]) (fun hd => ?_) (fun hd => ?_)
  · have e : opn L m n = ([], 1) := by
      unfold opn
      rw [if_neg]
      rintro ⟨q1, q2⟩
      rw [q1, q2] at hd; cases hd
    rw [e]
    (repeat (first | refine awp_seq ?_ | refine awp_block ?_ | ((first | refine awp_runG [0, 1, 2, 4, 6, 7, 8, 9, 17, 22, 27] hX ?_ | refine awp_drawnG [0, 1, 2, 4, 6, 7, 8, 9, 17, 22, 27] hX mixed ?_ | refine awp_ret ?_ | refine awp_skip ?_ | refine awp_exit ?_); (simp [go_sem]; try (refine ⟨by kernel_rfl, ?_⟩)))))
  · simp only [Bool.or_eq_false_iff, Bool.not_eq_false'] at hd
    have e := congrArg (fun (f : List Bd × Int) => f) (show opn L m n = _ from by unfold opn; rw [if_pos hd])
    have hle := atM_le L m
    by_cases hi : atM L m < L.length
    · rw [List.getElem?_eq_getElem hi] at e
      simp only [] at e
      rw [if_pos hi] at c3
      (repeat (first | refine awp_seq ?_ | refine awp_block ?_ | ((first | refine awp_runG [0, 1, 2, 4, 6, 7, 8, 9, 17, 22, 27] hX ?_ | refine awp_drawnG [0, 1, 2, 4, 6, 7, 8, 9, 17, 22, 27] hX mixed ?_ | refine awp_ret ?_ | refine awp_skip ?_ | refine awp_exit ?_); (simp [go_sem]; try (refine ⟨by kernel_rfl, ?_⟩)))))
      first | refine callH_intro [0] (c3) (by simp [go_sem]) ?_ | refine callTQ_intro [0] (c3) (by simp [go_sem]) ?_ | refine callTE_intro [0] (c3) (by simp [go_sem]) ?_
      try (simp [go_sem]; try (refine ⟨by kernel_rfl, ?_⟩))
      (repeat (first | refine awp_seq ?_ | refine awp_block ?_ | ((first | refine awp_runG [0, 1, 2, 4, 6, 7, 8, 9, 17, 22, 27] hX ?_ | refine awp_drawnG [0, 1, 2, 4, 6, 7, 8, 9, 17, 22, 27] hX mixed ?_ | refine awp_ret ?_ | refine awp_skip ?_ | refine awp_exit ?_); (simp [go_sem]; try (refine ⟨by kernel_rfl, ?_⟩)))))
      refine awp_cond (b := false) (by simp [go_sem]; try omega) (fun h => by cases h) (fun _ => ?_)
      have hq := nth_ob hi
      have hos := ob_set L (atM L m) (opened L[atM L m] n)
      obtain ⟨x, hx⟩ : ∃ x, L[atM L m] = x := ⟨_, rfl⟩
      rw [hx] at e hq hos
      clear hx hat
      generalize atM L m = i at *
      (repeat (first | refine awp_seq ?_ | refine awp_block ?_ | ((first | refine awp_runG [0, 1, 2, 4, 6, 7, 8, 9, 17, 22, 27] hX ?_ | refine awp_drawnG [0, 1, 2, 4, 6, 7, 8, 9, 17, 22, 27] hX mixed ?_ | refine awp_ret ?_ | refine awp_skip ?_ | refine awp_exit ?_); (simp [go_sem, hi, hq]; try (refine ⟨by kernel_rfl, ?_⟩)))))
      refine awp_cond (b := x.o) (by simp [go_sem, hi, hq]) (fun hq2 => ?_) (fun hq2 => ?_)
      · rw [e, if_pos hq2]
        (repeat (first | refine awp_seq ?_ | refine awp_block ?_ | ((first | refine awp_runG [0, 1, 2, 4, 6, 7, 8, 9, 17, 22, 27] hX ?_ | refine awp_drawnG [0, 1, 2, 4, 6, 7, 8, 9, 17, 22, 27] hX mixed ?_ | refine awp_ret ?_ | refine awp_skip ?_ | refine awp_exit ?_); (simp [go_sem]; try (refine ⟨by kernel_rfl, ?_⟩)))))
      · rw [e, if_neg (by rw [hq2]; simp)]
        (repeat (first | refine awp_seq ?_ | refine awp_block ?_ | ((first | refine awp_runG [0, 1, 2, 4, 6, 7, 8, 9, 17, 22, 27] hX ?_ | refine awp_drawnG [0, 1, 2, 4, 6, 7, 8, 9, 17, 22, 27] hX mixed ?_ | refine awp_ret ?_ | refine awp_skip ?_ | refine awp_exit ?_); (simp [go_sem, hi, hq]; try (refine ⟨by kernel_rfl, ?_⟩)))))
        have hset : ∀ y, nth ((L.map ob).set i y) i = y := fun y => nth_some (by rw [List.getElem?_set_self (by simpa using hi)])
        first | refine callH_intro [] (c4) (by simp [go_sem]) ?_ | refine callTQ_intro [] (c4) (by simp [go_sem]) ?_ | refine callTE_intro [] (c4) (by simp [go_sem]) ?_
        try (simp [go_sem]; try (refine ⟨by kernel_rfl, ?_⟩))
        (repeat (first | refine awp_seq ?_ | refine awp_block ?_ | ((first | refine awp_runG [0, 1, 2, 4, 6, 7, 8, 9, 17, 22, 27] hX ?_ | refine awp_drawnG [0, 1, 2, 4, 6, 7, 8, 9, 17, 22, 27] hX mixed ?_ | refine awp_ret ?_ | refine awp_skip ?_ | refine awp_exit ?_); (simp [go_sem, hi, hq, hset]; try (refine ⟨by kernel_rfl, ?_⟩)))))
        refine .inr fun y hy => ?_
        rcases List.mem_or_eq_of_mem_set hy with hy | rfl
        · obtain ⟨b, _, rfl⟩ := List.mem_map.1 hy
          rfl
        · rfl
    · rw [List.getElem?_eq_none (by omega)] at e
      simp only [] at e
      rw [if_neg hi] at c3
      (repeat (first | refine awp_seq ?_ | refine awp_block ?_ | ((first | refine awp_runG [0, 1, 2, 4, 6, 7, 8, 9, 17, 22, 27] hX ?_ | refine awp_drawnG [0, 1, 2, 4, 6, 7, 8, 9, 17, 22, 27] hX mixed ?_ | refine awp_ret ?_ | refine awp_skip ?_ | refine awp_exit ?_); (simp [go_sem]; try (refine ⟨by kernel_rfl, ?_⟩)))))
      first | refine callH_intro [0] (c3) (by simp [go_sem]) ?_ | refine callTQ_intro [0] (c3) (by simp [go_sem]) ?_ | refine callTE_intro [0] (c3) (by simp [go_sem]) ?_
      try (simp [go_sem]; try (refine ⟨by kernel_rfl, ?_⟩))
      (repeat (first | refine awp_seq ?_ | refine awp_block ?_ | ((first | refine awp_runG [0, 1, 2, 4, 6, 7, 8, 9, 17, 22, 27] hX ?_ | refine awp_drawnG [0, 1, 2, 4, 6, 7, 8, 9, 17, 22, 27] hX mixed ?_ | refine awp_ret ?_ | refine awp_skip ?_ | refine awp_exit ?_); (simp [go_sem]; try (refine ⟨by kernel_rfl, ?_⟩)))))
      refine awp_cond (b := true) (by simp [go_sem]) (fun _ => ?_) (fun h => by cases h)
      rw [e]
      (repeat (first | refine awp_seq ?_ | refine awp_block ?_ | ((first | refine awp_runG [0, 1, 2, 4, 6, 7, 8, 9, 17, 22, 27] hX ?_ | refine awp_drawnG [0, 1, 2, 4, 6, 7, 8, 9, 17, 22, 27] hX mixed ?_ | refine awp_ret ?_ | refine awp_skip ?_ | refine awp_exit ?_); (simp [go_sem]; try (refine ⟨by kernel_rfl, ?_⟩)))))

end Go.Proofs.YtjgkjenbgadacaaDoor
