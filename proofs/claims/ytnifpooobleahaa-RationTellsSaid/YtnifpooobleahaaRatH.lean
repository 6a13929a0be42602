/-
  Layer 39: the law RationFair.
-/
import Derived.Test.YtnifpooobleahaaRatG
import Derived.Test.YtnifpooobleahaaRatS
set_option linter.all false
namespace Go.Proofs.Ytnifpooobleahaa
open Go.RowKit Go.Ab
attribute [local irreducible] AWP Go.Ab.Sub Means MeansH CallK CallG CallT CallGT CallU

theorem shareS_bd {C : List Int} {h : Int} (hok : okC' C = true) (hh : 0 ≤ h) : ∀ x ∈ share C h, 0 ≤ x ∧ x ≤ 1099511627776 := by
  intro x hx
  obtain ⟨i, hi, rfl⟩ := List.getElem_of_mem hx
  have hi2 : i < C.length := by rw [← share_len hok hh]; exact hi
  have := share_in hok hh hi2 hi
  have := okC_mem hok (List.getElem_mem hi2)
  omega

set_option maxHeartbeats 16000000 in
set_option maxRecDepth 20000 in
theorem rationFair_m (C : List Int) (hC : C.length ≤ 9223372036854775807) (h : Int) : Means true Try.prog 4 [il C, ii h] (bb true) := by
  refine means_fn true 130 [.tmp 4] Try.func4 rfl rfl rfl (by simp) (by decide) rfl fun X hX => ?_
  (repeat (first | refine awp_seq ?_ | refine awp_block ?_ | ((first | refine awp_runG [0, 1, 4, 5, 6, 7, 8, 9, 13, 24, 52, 56, 74, 78, 128] hX ?_ | refine awp_drawnG [0, 1, 4, 5, 6, 7, 8, 9, 13, 24, 52, 56, 74, 78, 128] hX mixed ?_ | refine awp_ret ?_ | refine awp_skip ?_ | refine awp_exit ?_); (simp [go_sem]; try (refine ⟨by kernel_rfl, ?_⟩)))))
  first | refine callK_intro (small_m) rfl (by simp [go_sem]) rfl ?_ | refine callT_intro (small_m) rfl (by simp [go_sem]) rfl ?_
  try (simp [go_sem]; try (refine ⟨by kernel_rfl, ?_⟩))
  (repeat (first | refine awp_seq ?_ | refine awp_block ?_ | ((first | refine awp_runG [0, 1, 4, 5, 6, 7, 8, 9, 13, 24, 52, 56, 74, 78, 128] hX ?_ | refine awp_drawnG [0, 1, 4, 5, 6, 7, 8, 9, 13, 24, 52, 56, 74, 78, 128] hX mixed ?_ | refine awp_ret ?_ | refine awp_skip ?_ | refine awp_exit ?_); (simp [go_sem]; try (refine ⟨by kernel_rfl, ?_⟩)))))
  refine awp_cond (b := decide (40 < (C.length : Int))) (by simp [go_sem]) (fun hb => ?_) (fun hb => ?_)
  · (repeat (first | refine awp_seq ?_ | refine awp_block ?_ | ((first | refine awp_runG [0, 1, 4, 5, 6, 7, 8, 9, 13, 24, 52, 56, 74, 78, 128] hX ?_ | refine awp_drawnG [0, 1, 4, 5, 6, 7, 8, 9, 13, 24, 52, 56, 74, 78, 128] hX mixed ?_ | refine awp_ret ?_ | refine awp_skip ?_ | refine awp_exit ?_); (simp [go_sem]; try (refine ⟨by kernel_rfl, ?_⟩)))))
  simp at hb
  (repeat (first | refine awp_seq ?_ | refine awp_block ?_ | ((first | refine awp_runG [0, 1, 4, 5, 6, 7, 8, 9, 13, 24, 52, 56, 74, 78, 128] hX ?_ | refine awp_drawnG [0, 1, 4, 5, 6, 7, 8, 9, 13, 24, 52, 56, 74, 78, 128] hX mixed ?_ | refine awp_ret ?_ | refine awp_skip ?_ | refine awp_exit ?_); (simp [go_sem]; try (refine ⟨by kernel_rfl, ?_⟩)))))
  first | refine callK_intro (share_m C (by omega) h) rfl (by simp [go_sem]) rfl ?_ | refine callT_intro (share_m C (by omega) h) rfl (by simp [go_sem]) rfl ?_
  try (simp [go_sem]; try (refine ⟨by kernel_rfl, ?_⟩))
  (repeat (first | refine awp_seq ?_ | refine awp_block ?_ | ((first | refine awp_runG [0, 1, 4, 5, 6, 7, 8, 9, 13, 24, 52, 56, 74, 78, 128] hX ?_ | refine awp_drawnG [0, 1, 4, 5, 6, 7, 8, 9, 13, 24, 52, 56, 74, 78, 128] hX mixed ?_ | refine awp_ret ?_ | refine awp_skip ?_ | refine awp_exit ?_); (simp [go_sem]; try (refine ⟨by kernel_rfl, ?_⟩)))))
  first | refine callK_intro (right_m' C hC h) rfl (by simp [go_sem]) rfl ?_ | refine callT_intro (right_m' C hC h) rfl (by simp [go_sem]) rfl ?_
  try (simp [go_sem]; try (refine ⟨by kernel_rfl, ?_⟩))
  cases hr : rightC C h with
  | false =>
    refine awp_cond (b := true) (by simp [go_sem, hr]) (fun _ => ?_) (fun h => by cases h)
    (repeat (first | refine awp_seq ?_ | refine awp_block ?_ | ((first | refine awp_runG [0, 1, 4, 5, 6, 7, 8, 9, 13, 24, 52, 56, 74, 78, 128] hX ?_ | refine awp_drawnG [0, 1, 4, 5, 6, 7, 8, 9, 13, 24, 52, 56, 74, 78, 128] hX mixed ?_ | refine awp_ret ?_ | refine awp_skip ?_ | refine awp_exit ?_); (simp [go_sem, hr]; try (refine ⟨by kernel_rfl, ?_⟩)))))
  | true =>
    have hr2 := hr
    simp only [rightC, okH, Bool.and_eq_true, decide_eq_true_eq] at hr2
    obtain ⟨hok, ⟨_, hh0⟩, hh1⟩ := hr2
    have hsl := share_len hok hh0
    have hss := share_sum hok hh0
    have hbd := shareS_bd hok hh0
    have hin := fun i => share_in hok hh0 (i := i)
    have hfa := fun i k => share_fair hok hh0 (i := i) (k := k)
    refine awp_cond (b := false) (by simp [go_sem, hr]) (fun h => by cases h) (fun _ => ?_)
    simp only [if_pos]
    generalize share C h = L at *
    (repeat (first | refine awp_seq ?_ | refine awp_block ?_ | ((first | refine awp_runG [0, 1, 4, 5, 6, 7, 8, 9, 13, 24, 52, 56, 74, 78, 128] hX ?_ | refine awp_drawnG [0, 1, 4, 5, 6, 7, 8, 9, 13, 24, 52, 56, 74, 78, 128] hX mixed ?_ | refine awp_ret ?_ | refine awp_skip ?_ | refine awp_exit ?_); (simp [go_sem, hsl]; try (refine ⟨by kernel_rfl, ?_⟩)))))
    first | refine callG_intro (fun hg => sum_m L (by omega) (fun x hx => by have := hbd x hx; omega)) rfl (by simp [go_sem]) rfl ?_ | refine callGT_intro (fun hg => sum_m L (by omega) (fun x hx => by have := hbd x hx; omega)) rfl (by simp [go_sem]) rfl ?_
    try (simp [go_sem]; try (refine ⟨by kernel_rfl, ?_⟩))
    first | refine callG_intro (fun hg => sum_m C (by omega) (fun x hx => by have := okC_mem hok hx; omega)) rfl (by simp [go_sem]) rfl ?_ | refine callGT_intro (fun hg => sum_m C (by omega) (fun x hx => by have := okC_mem hok hx; omega)) rfl (by simp [go_sem]) rfl ?_
    try (simp [go_sem]; try (refine ⟨by kernel_rfl, ?_⟩))
    refine awp_cond (b := false) (by simp [go_sem, hsl, hss]) (fun h => by cases h) (fun _ => ?_)
    (repeat (first | refine awp_seq ?_ | refine awp_block ?_ | ((first | refine awp_runG [0, 1, 4, 5, 6, 7, 8, 9, 13, 24, 52, 56, 74, 78, 128] hX ?_ | refine awp_drawnG [0, 1, 4, 5, 6, 7, 8, 9, 13, 24, 52, 56, 74, 78, 128] hX mixed ?_ | refine awp_ret ?_ | refine awp_skip ?_ | refine awp_exit ?_); (simp [go_sem]; try (refine ⟨by kernel_rfl, ?_⟩)))))
    refine awp_loop (fun i : Nat => ⟨mkE [(0, il C), (5, bb true), (6, il L), (8, ii i)], []⟩) (fun i => i ≤ C.length) (fun i => C.length - i) 0 ?_ ?_ ?_
    · refine sub_of _ [] (by simp [go_sem]) ?_
      simp [go_sem]
    · omega
    · intro i hi
      (repeat (first | refine awp_seq ?_ | refine awp_block ?_ | ((first | refine awp_runG [0, 1, 4, 5, 6, 7, 8, 9, 13, 24, 52, 56, 74, 78, 128] hX ?_ | refine awp_drawnG [0, 1, 4, 5, 6, 7, 8, 9, 13, 24, 52, 56, 74, 78, 128] hX mixed ?_ | refine awp_ret ?_ | refine awp_skip ?_ | refine awp_exit ?_); (simp [go_sem, hsl]; try (refine ⟨by kernel_rfl, ?_⟩)))))
      refine awp_cond (b := decide (i < C.length)) (by simp [go_sem, hsl]) (fun hc => ?_) (fun hc => ?_)
      · simp at hc
        have hiL : i < L.length := by omega
        have h1 := hin i hc hiL
        have hbi := hbd _ (List.getElem_mem hiL)
        (repeat (first | refine awp_seq ?_ | refine awp_block ?_ | ((first | refine awp_runG [0, 1, 4, 5, 6, 7, 8, 9, 13, 24, 52, 56, 74, 78, 128] hX ?_ | refine awp_drawnG [0, 1, 4, 5, 6, 7, 8, 9, 13, 24, 52, 56, 74, 78, 128] hX mixed ?_ | refine awp_ret ?_ | refine awp_skip ?_ | refine awp_exit ?_); (simp [go_sem, hc, hiL]; try (refine ⟨by kernel_rfl, ?_⟩)))))
        refine awp_cond (b := false) (by simp [go_sem, hc, hiL]; omega) (fun h => by cases h) (fun _ => ?_)
        (repeat (first | refine awp_seq ?_ | refine awp_block ?_ | ((first | refine awp_runG [0, 1, 4, 5, 6, 7, 8, 9, 13, 24, 52, 56, 74, 78, 128] hX ?_ | refine awp_drawnG [0, 1, 4, 5, 6, 7, 8, 9, 13, 24, 52, 56, 74, 78, 128] hX mixed ?_ | refine awp_ret ?_ | refine awp_skip ?_ | refine awp_exit ?_); (simp [go_sem]; try (refine ⟨by kernel_rfl, ?_⟩)))))
        refine awp_loop (fun k : Nat => ⟨mkE [(0, il C), (5, bb true), (6, il L), (8, ii i), (9, ii k)], []⟩) (fun k => k ≤ C.length) (fun k => C.length - k) 0 ?_ ?_ ?_
        · refine sub_of _ [] (by simp [go_sem]) ?_
          simp [go_sem]
        · omega
        · intro k hk
          (repeat (first | refine awp_seq ?_ | refine awp_block ?_ | ((first | refine awp_runG [0, 1, 4, 5, 6, 7, 8, 9, 13, 24, 52, 56, 74, 78, 128] hX ?_ | refine awp_drawnG [0, 1, 4, 5, 6, 7, 8, 9, 13, 24, 52, 56, 74, 78, 128] hX mixed ?_ | refine awp_ret ?_ | refine awp_skip ?_ | refine awp_exit ?_); (simp [go_sem, hsl]; try (refine ⟨by kernel_rfl, ?_⟩)))))
          refine awp_cond (b := decide (k < C.length)) (by simp [go_sem, hsl]) (fun hd => ?_) (fun hd => ?_)
          · simp at hd
            have hkL : k < L.length := by omega
            have h2 := hfa i k hc hd hiL hkL
            have hbk := hbd _ (List.getElem_mem hkL)
            obtain ⟨x, hx⟩ : ∃ x, L[i] = x := ⟨_, rfl⟩
            obtain ⟨y, hy⟩ : ∃ y, L[k] = y := ⟨_, rfl⟩
            rw [hx] at hbi h1 h2
            rw [hy] at hbk h2
            have hw := w64 (x := x + 1) (by omega) (by omega)
            (repeat (first | refine awp_seq ?_ | refine awp_block ?_ | ((first | refine awp_runG [0, 1, 4, 5, 6, 7, 8, 9, 13, 24, 52, 56, 74, 78, 128] hX ?_ | refine awp_drawnG [0, 1, 4, 5, 6, 7, 8, 9, 13, 24, 52, 56, 74, 78, 128] hX mixed ?_ | refine awp_ret ?_ | refine awp_skip ?_ | refine awp_exit ?_); (simp [go_sem, hc, hiL, hd, hkL, hx, hy, hw]; try (refine ⟨by kernel_rfl, ?_⟩)))))
            (repeat refine And.intro (by first | omega | (unfold maxLen; omega) | kernel_rfl | (refine ⟨by first | omega | (unfold maxLen; omega), by first | omega | (unfold maxLen; omega)⟩) | grind) ?_)
            refine awp_cond (b := false) (by simp [go_sem, hc, hiL, hd, hkL, hx, hy, hw]; omega) (fun h => by cases h) (fun _ => ?_)
            (repeat (first | refine awp_seq ?_ | refine awp_block ?_ | ((first | refine awp_runG [0, 1, 4, 5, 6, 7, 8, 9, 13, 24, 52, 56, 74, 78, 128] hX ?_ | refine awp_drawnG [0, 1, 4, 5, 6, 7, 8, 9, 13, 24, 52, 56, 74, 78, 128] hX mixed ?_ | refine awp_ret ?_ | refine awp_skip ?_ | refine awp_exit ?_); (simp [go_sem]; (try simp (disch := omega) only [w64, td, tm]); try (refine ⟨by kernel_rfl, ?_⟩)))))
            refine ⟨k + 1, by omega, by omega, ?_⟩
            refine sub_of _ [] (by simp [go_sem]) ?_
            simp [go_sem]
          · (repeat (first | refine awp_seq ?_ | refine awp_block ?_ | ((first | refine awp_runG [0, 1, 4, 5, 6, 7, 8, 9, 13, 24, 52, 56, 74, 78, 128] hX ?_ | refine awp_drawnG [0, 1, 4, 5, 6, 7, 8, 9, 13, 24, 52, 56, 74, 78, 128] hX mixed ?_ | refine awp_ret ?_ | refine awp_skip ?_ | refine awp_exit ?_); (simp [go_sem]; (try simp (disch := omega) only [w64, td, tm]); try (refine ⟨by kernel_rfl, ?_⟩)))))
            refine ⟨i + 1, by omega, by omega, ?_⟩
            refine sub_of _ [] (by simp [go_sem]) ?_
            simp [go_sem]
      · (repeat (first | refine awp_seq ?_ | refine awp_block ?_ | ((first | refine awp_runG [0, 1, 4, 5, 6, 7, 8, 9, 13, 24, 52, 56, 74, 78, 128] hX ?_ | refine awp_drawnG [0, 1, 4, 5, 6, 7, 8, 9, 13, 24, 52, 56, 74, 78, 128] hX mixed ?_ | refine awp_ret ?_ | refine awp_skip ?_ | refine awp_exit ?_); (simp [go_sem]; try (refine ⟨by kernel_rfl, ?_⟩)))))

end Go.Proofs.Ytnifpooobleahaa
