/-
  Layer 24: the bids ranked, the winner.
-/
import Derived.Test.YtjgkjenbgadacaaDoorBidF
import Derived.Test.YtjgkjenbgadacaaDoorStahBidC
set_option linter.all false
namespace Go.Proofs.YtjgkjenbgadacaaDoor
open Go.RowKit Go.Ab
attribute [local irreducible] AWP Go.Ab.Sub Means MeansH CallK CallG CallT CallGT CallU

set_option maxHeartbeats 8000000 in
set_option maxRecDepth 20000 in
theorem ranked_m (L : List Bd) (P : Int) (hl : L.length ≤ 1000) : Means true Tryd.prog 21 [bl L, ii P] (il (ranked L P)) := by
  have hS := B.sortG_m (plc L P L.length) L (plc_lt L P _) (fun x hx => by
    obtain ⟨j, h1, h2, _⟩ := (plc_mem L P x _).1 hx
    omega) (by have := plc_le L P L.length; omega) (by omega) trivial
  have hR : ranked L P = srt (B.kf L) (plc L P L.length) := rfl
  rw [← hR] at hS
  have hs := fun k => (show plc L P (k + 1) = if cntAt L P k then plc L P k ++ [(k : Int)] else plc L P k from rfl)
  have hle := plc_le L P
  have h0 : plc L P 0 = [] := rfl
  clear hR
  generalize plc L P = F at *
  generalize ranked L P = R at *
  refine means_fn true 32 [.tmp 4] Tryd.func21 rfl rfl rfl (by simp) (by decide) rfl fun X hX => ?_
  (repeat (first | refine awp_seq ?_ | refine awp_block ?_ | ((first | refine awp_runG [0, 1, 2, 4, 5, 6, 7, 8, 9, 10, 11, 22] hX ?_ | refine awp_drawnG [0, 1, 2, 4, 5, 6, 7, 8, 9, 10, 11, 22] hX mixed ?_ | refine awp_ret ?_ | refine awp_skip ?_ | refine awp_exit ?_); (simp [go_sem]; try (refine ⟨by kernel_rfl, ?_⟩)))))
  refine awp_loop (fun k : Nat => ⟨mkE [(1, ii P), (2, .el 0 1 0 0), (5, .ow 1), (8, bl L), (9, ii L.length), (10, ii k)], [.row ⟨22, 1, [bl L]⟩, rowI (F k)]⟩) (fun k => k ≤ L.length) (fun k => L.length - k) 0 ?_ ?_ ?_
  · rw [h0]
    refine sub_of _ [.old 0 ⟨22, 1, [bl L]⟩, .birth 3 1] (by simp [go_sem]) ?_
    simp [go_sem]
  · omega
  · rintro k hk
    have hlk := hle k
    (repeat (first | refine awp_seq ?_ | refine awp_block ?_ | ((first | refine awp_runG [0, 1, 2, 4, 5, 6, 7, 8, 9, 10, 11, 22] hX ?_ | refine awp_drawnG [0, 1, 2, 4, 5, 6, 7, 8, 9, 10, 11, 22] hX mixed ?_ | refine awp_ret ?_ | refine awp_skip ?_ | refine awp_exit ?_); (simp [go_sem]; try (refine ⟨by kernel_rfl, ?_⟩)))))
    refine awp_cond (b := decide (k < L.length)) (by simp [go_sem]) (fun hc => ?_) (fun hc => ?_)
    · simp at hc
      have hq := nth_ob hc
      have hca : cntAt L P k = cntB P L[k] := by simp [cntAt, List.getElem?_eq_getElem hc]
      have hsk := hs k
      have wk := w64 (x := (k : Int) + 1) (by omega) (by omega)
      rw [hca] at hsk
      generalize L[k] = x at *
      generalize F k = D at *
      (repeat (first | refine awp_seq ?_ | refine awp_block ?_ | ((first | refine awp_runG [0, 1, 2, 4, 5, 6, 7, 8, 9, 10, 11, 22] hX ?_ | refine awp_drawnG [0, 1, 2, 4, 5, 6, 7, 8, 9, 10, 11, 22] hX mixed ?_ | refine awp_ret ?_ | refine awp_skip ?_ | refine awp_exit ?_); (simp [go_sem, hc, hq]; try (refine ⟨by kernel_rfl, ?_⟩)))))
      try (simp [go_sem]; try (refine ⟨by kernel_rfl, ?_⟩))
      refine awp_cond (b := cntB P x) (by simp [go_sem, cntB]) (fun hd => ?_) (fun hd => ?_)
      · rw [if_pos hd] at hsk
        (repeat (first | refine awp_seq ?_ | refine awp_block ?_ | ((first | refine awp_runG [0, 1, 2, 4, 5, 6, 7, 8, 9, 10, 11, 22] hX ?_ | refine awp_drawnG [0, 1, 2, 4, 5, 6, 7, 8, 9, 10, 11, 22] hX mixed ?_ | refine awp_ret ?_ | refine awp_skip ?_ | refine awp_exit ?_); (simp [go_sem]; try (refine ⟨by kernel_rfl, ?_⟩)))))
        try (repeat refine And.intro (by first | omega | (unfold maxLen; omega) | kernel_rfl | (refine ⟨by first | omega | (unfold maxLen; omega), by first | omega | (unfold maxLen; omega)⟩) | grind) ?_)
        try (repeat (first | refine awp_seq ?_ | refine awp_block ?_ | ((first | refine awp_runG [0, 1, 2, 4, 5, 6, 7, 8, 9, 10, 11, 22] hX ?_ | refine awp_drawnG [0, 1, 2, 4, 5, 6, 7, 8, 9, 10, 11, 22] hX mixed ?_ | refine awp_ret ?_ | refine awp_skip ?_ | refine awp_exit ?_); (simp [go_sem, wk]; try (refine ⟨by kernel_rfl, ?_⟩)))))
        refine ⟨k + 1, by omega, by omega, ?_⟩
        rw [hsk]
        refine sub_of _ [.old 0 ⟨22, 1, [bl L]⟩, .old 4 ⟨3, 1, (D ++ [(k : Int)]).map ii⟩] (by simp [go_sem]) ?_
        simp [go_sem]
        try omega
      · rw [if_neg (by rw [hd]; simp)] at hsk
        (repeat (first | refine awp_seq ?_ | refine awp_block ?_ | ((first | refine awp_runG [0, 1, 2, 4, 5, 6, 7, 8, 9, 10, 11, 22] hX ?_ | refine awp_drawnG [0, 1, 2, 4, 5, 6, 7, 8, 9, 10, 11, 22] hX mixed ?_ | refine awp_ret ?_ | refine awp_skip ?_ | refine awp_exit ?_); (simp [go_sem, wk]; try (refine ⟨by kernel_rfl, ?_⟩)))))
        refine ⟨k + 1, by omega, by omega, ?_⟩
        rw [hsk]
        refine sub_of _ [.old 0 ⟨22, 1, [bl L]⟩, .old 1 ⟨3, 1, D.map ii⟩] (by simp [go_sem]) ?_
        simp [go_sem]
        try omega
    · have hkl : k = L.length := by simp at hc; omega
      subst hkl
      (repeat (first | refine awp_seq ?_ | refine awp_block ?_ | ((first | refine awp_runG [0, 1, 2, 4, 5, 6, 7, 8, 9, 10, 11, 22] hX ?_ | refine awp_drawnG [0, 1, 2, 4, 5, 6, 7, 8, 9, 10, 11, 22] hX mixed ?_ | refine awp_ret ?_ | refine awp_skip ?_ | refine awp_exit ?_); (simp [go_sem]; try (refine ⟨by kernel_rfl, ?_⟩)))))
      first | refine callH_intro [1, 0] (hS) (by simp [go_sem]) ?_ | refine callTQ_intro [1, 0] (hS) (by simp [go_sem]) ?_ | refine callTE_intro [1, 0] (hS) (by simp [go_sem]) ?_
      try (simp [go_sem]; try (refine ⟨by kernel_rfl, ?_⟩))
      (repeat (first | refine awp_seq ?_ | refine awp_block ?_ | ((first | refine awp_runG [0, 1, 2, 4, 5, 6, 7, 8, 9, 10, 11, 22] hX ?_ | refine awp_drawnG [0, 1, 2, 4, 5, 6, 7, 8, 9, 10, 11, 22] hX mixed ?_ | refine awp_ret ?_ | refine awp_skip ?_ | refine awp_exit ?_); (simp [go_sem]; try (refine ⟨by kernel_rfl, ?_⟩)))))

theorem ranked_nth {L : List Bd} {P : Int} (h : ranked L P ≠ []) : ∃ w : Nat, wins L P = some w ∧ ∃ h0 : 0 < (ranked L P).length, (ranked L P)[0] = (w : Int) ∧ w < L.length := by
  cases hr : ranked L P with
  | nil => exact absurd hr h
  | cons x xs =>
    obtain ⟨j, hj, hl, _⟩ := (ranked_mem L P x).1 (by rw [hr]; exact List.mem_cons_self)
    refine ⟨j, ?_, by simp, by simpa using hj, hl⟩
    unfold wins
    rw [hr]; simp [hj]
theorem ranked_none {L : List Bd} {P : Int} (h : ranked L P = []) : wins L P = none := by unfold wins; rw [h]; rfl

/-- The winner: the place, and whether there is one. -/
def winP (L : List Bd) (P : Int) : Int × Bool := match wins L P with | none => (0, false) | some w => ((w : Int), true)
theorem winner_m (L : List Bd) (P : Int) (hl : L.length ≤ 1000) : Means true Tryd.prog 15 [bl L, ii P] (.tup [ii (winP L P).1, bb (winP L P).2]) := by
  have c1 := ranked_m L P hl
  have hle := ranked_le L P
  by_cases h : ranked L P = []
  · have e : winP L P = (0, false) := by unfold winP; rw [ranked_none h]
    rw [e]
    rw [h] at c1
    refine means_fn true 16 [.tmp 4, .tmp 5] Tryd.func15 rfl rfl rfl (by simp) (by decide) rfl fun X hX => ?_
    (repeat (first | refine awp_seq ?_ | refine awp_block ?_ | ((first | refine awp_runG [0, 1, 4, 5, 6, 12] hX ?_ | refine awp_drawnG [0, 1, 4, 5, 6, 12] hX mixed ?_ | refine awp_ret ?_ | refine awp_skip ?_ | refine awp_exit ?_); (simp [go_sem]; try (refine ⟨by kernel_rfl, ?_⟩)))))
    first | refine callK_intro (c1) rfl (by simp [go_sem]) rfl ?_ | refine callT_intro (c1) rfl (by simp [go_sem]) rfl ?_
    try (simp [go_sem]; try (refine ⟨by kernel_rfl, ?_⟩))
    (repeat (first | refine awp_seq ?_ | refine awp_block ?_ | ((first | refine awp_runG [0, 1, 4, 5, 6, 12] hX ?_ | refine awp_drawnG [0, 1, 4, 5, 6, 12] hX mixed ?_ | refine awp_ret ?_ | refine awp_skip ?_ | refine awp_exit ?_); (simp [go_sem]; try (refine ⟨by kernel_rfl, ?_⟩)))))
    refine awp_cond (b := true) (by simp [go_sem]) (fun _ => ?_) (fun h => by cases h)
    (repeat (first | refine awp_seq ?_ | refine awp_block ?_ | ((first | refine awp_runG [0, 1, 4, 5, 6, 12] hX ?_ | refine awp_drawnG [0, 1, 4, 5, 6, 12] hX mixed ?_ | refine awp_ret ?_ | refine awp_skip ?_ | refine awp_exit ?_); (simp [go_sem]; try (refine ⟨by kernel_rfl, ?_⟩)))))
  · obtain ⟨w, hw, h0, hx, _⟩ := ranked_nth h
    have e : winP L P = ((w : Int), true) := by unfold winP; rw [hw]
    rw [e, ← hx]
    have hq := nth_ii h0
    have hne : (ranked L P).length ≠ 0 := by omega
    generalize ranked L P = R at *
    refine means_fn true 16 [.tmp 4, .tmp 5] Tryd.func15 rfl rfl rfl (by simp) (by decide) rfl fun X hX => ?_
    (repeat (first | refine awp_seq ?_ | refine awp_block ?_ | ((first | refine awp_runG [0, 1, 4, 5, 6, 12] hX ?_ | refine awp_drawnG [0, 1, 4, 5, 6, 12] hX mixed ?_ | refine awp_ret ?_ | refine awp_skip ?_ | refine awp_exit ?_); (simp [go_sem]; try (refine ⟨by kernel_rfl, ?_⟩)))))
    first | refine callK_intro (c1) rfl (by simp [go_sem]) rfl ?_ | refine callT_intro (c1) rfl (by simp [go_sem]) rfl ?_
    try (simp [go_sem]; try (refine ⟨by kernel_rfl, ?_⟩))
    (repeat (first | refine awp_seq ?_ | refine awp_block ?_ | ((first | refine awp_runG [0, 1, 4, 5, 6, 12] hX ?_ | refine awp_drawnG [0, 1, 4, 5, 6, 12] hX mixed ?_ | refine awp_ret ?_ | refine awp_skip ?_ | refine awp_exit ?_); (simp [go_sem]; try (refine ⟨by kernel_rfl, ?_⟩)))))
    refine awp_cond (b := false) (by simp [go_sem, h]; try omega) (fun h => by cases h) (fun _ => ?_)
    (repeat (first | refine awp_seq ?_ | refine awp_block ?_ | ((first | refine awp_runG [0, 1, 4, 5, 6, 12] hX ?_ | refine awp_drawnG [0, 1, 4, 5, 6, 12] hX mixed ?_ | refine awp_ret ?_ | refine awp_skip ?_ | refine awp_exit ?_); (simp [go_sem, h0, hq]; try (refine ⟨by kernel_rfl, ?_⟩)))))

end Go.Proofs.YtjgkjenbgadacaaDoor
