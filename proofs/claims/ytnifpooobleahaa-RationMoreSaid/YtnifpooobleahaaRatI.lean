/-
  Layer 39: the law RationMore.
-/
import Derived.Test.YtnifpooobleahaaRatH
set_option linter.all false
namespace Go.Proofs.Ytnifpooobleahaa
open Go.RowKit Go.Ab
attribute [local irreducible] AWP Go.Ab.Sub Means MeansH CallK CallG CallT CallGT CallU

theorem rev_take (C : List Int) (k : Nat) (hk : k < C.length) : C.reverse.take (k + 1) = C.reverse.take k ++ [C[C.length - 1 - k]] := by
  rw [List.take_succ_eq_append_getElem (by simpa using hk), List.getElem_reverse]

set_option maxHeartbeats 16000000 in
set_option maxRecDepth 20000 in
theorem rationMore_m (C : List Int) (hC : C.length ≤ 9223372036854775807) (h : Int) : Means true Try.prog 5 [il C, ii h] (bb true) := by
  refine means_fn true 193 [.tmp 4] Try.func5 rfl rfl rfl (by simp) (by decide) rfl fun X hX => ?_
  (repeat (first | refine awp_seq ?_ | refine awp_block ?_ | (refine awp_runG [0, 1, 4, 5, 6, 7, 8, 9, 10, 11, 12, 13, 14, 15, 16, 17, 18, 19, 20, 34, 52, 102, 106, 144, 151, 162, 173, 178] hX ?_; (simp [go_sem]; try (refine ⟨by kernel_rfl, ?_⟩))) | (refine awp_drawnG [0, 1, 4, 5, 6, 7, 8, 9, 10, 11, 12, 13, 14, 15, 16, 17, 18, 19, 20, 34, 52, 102, 106, 144, 151, 162, 173, 178] hX mixed ?_; (simp [go_sem]; try (refine ⟨by kernel_rfl, ?_⟩))) | (refine awp_ret ?_; (simp [go_sem]; try (refine ⟨by kernel_rfl, ?_⟩))) | (refine awp_skip ?_; (simp [go_sem]; try (refine ⟨by kernel_rfl, ?_⟩))) | (refine awp_exit ?_; (simp [go_sem]; try (refine ⟨by kernel_rfl, ?_⟩)))))
  first | refine callK_intro (small_m) rfl (by simp [go_sem]) rfl ?_ | refine callT_intro (small_m) rfl (by simp [go_sem]) rfl ?_
  try (simp [go_sem]; try (refine ⟨by kernel_rfl, ?_⟩))
  (repeat (first | refine awp_seq ?_ | refine awp_block ?_ | (refine awp_runG [0, 1, 4, 5, 6, 7, 8, 9, 10, 11, 12, 13, 14, 15, 16, 17, 18, 19, 20, 34, 52, 102, 106, 144, 151, 162, 173, 178] hX ?_; (simp [go_sem]; try (refine ⟨by kernel_rfl, ?_⟩))) | (refine awp_drawnG [0, 1, 4, 5, 6, 7, 8, 9, 10, 11, 12, 13, 14, 15, 16, 17, 18, 19, 20, 34, 52, 102, 106, 144, 151, 162, 173, 178] hX mixed ?_; (simp [go_sem]; try (refine ⟨by kernel_rfl, ?_⟩))) | (refine awp_ret ?_; (simp [go_sem]; try (refine ⟨by kernel_rfl, ?_⟩))) | (refine awp_skip ?_; (simp [go_sem]; try (refine ⟨by kernel_rfl, ?_⟩))) | (refine awp_exit ?_; (simp [go_sem]; try (refine ⟨by kernel_rfl, ?_⟩)))))
  first | refine callG_intro (fun hg => right_m' C hC h) rfl (by simp [go_sem]) rfl ?_ | refine callGT_intro (fun hg => right_m' C hC h) rfl (by simp [go_sem]) rfl ?_
  try (simp [go_sem]; try (refine ⟨by kernel_rfl, ?_⟩))
  refine awp_cond (b := decide (40 < (C.length : Int)) || !rightC C h || decide (1125899906842624 ≤ h)) (by simp [go_sem, Bool.or_assoc]) (fun hb => ?_) (fun hb => ?_)
  · (repeat (first | refine awp_seq ?_ | refine awp_block ?_ | (refine awp_runG [0, 1, 4, 5, 6, 7, 8, 9, 10, 11, 12, 13, 14, 15, 16, 17, 18, 19, 20, 34, 52, 102, 106, 144, 151, 162, 173, 178] hX ?_; (simp [go_sem]; try (refine ⟨by kernel_rfl, ?_⟩))) | (refine awp_drawnG [0, 1, 4, 5, 6, 7, 8, 9, 10, 11, 12, 13, 14, 15, 16, 17, 18, 19, 20, 34, 52, 102, 106, 144, 151, 162, 173, 178] hX mixed ?_; (simp [go_sem]; try (refine ⟨by kernel_rfl, ?_⟩))) | (refine awp_ret ?_; (simp [go_sem]; try (refine ⟨by kernel_rfl, ?_⟩))) | (refine awp_skip ?_; (simp [go_sem]; try (refine ⟨by kernel_rfl, ?_⟩))) | (refine awp_exit ?_; (simp [go_sem]; try (refine ⟨by kernel_rfl, ?_⟩)))))
  simp at hb
  obtain ⟨⟨b1, hr⟩, hlt⟩ := hb
  have hr2 := hr
  simp only [rightC, okH, Bool.and_eq_true, decide_eq_true_eq] at hr2
  obtain ⟨hok, ⟨_, hh0⟩, hh1⟩ := hr2
  have hr1 : rightC C (h + 1) = true := by
    simp only [rightC, okH, hok, Bool.true_and, Bool.and_eq_true, decide_eq_true_eq]; omega
  have hrr : rightC C.reverse h = true := by
    simp only [rightC, okH, okC_rev hok, Bool.true_and, Bool.and_eq_true, decide_eq_true_eq, List.length_reverse]; omega
  have hwh := w64 (x := h + 1) (by omega) (by omega)
  have c1 := share_ok C (by omega) h _ hr rfl
  have c2 := share_ok C (by omega) (h + 1) _ hr1 rfl
  have c3 := share_ok C.reverse (by rw [List.length_reverse]; omega) h _ hrr rfl
  have hA := share_len hok hh0
  have hB := share_len hok (show 0 ≤ h + 1 by omega)
  have hD := share_len (okC_rev hok) hh0
  rw [List.length_reverse] at hD
  have sA := share_sum hok hh0
  have sB := share_sum hok (show 0 ≤ h + 1 by omega)
  have bA := shareS_bd hok hh0
  have bB := shareS_bd hok (show 0 ≤ h + 1 by omega)
  have bD := shareS_bd (okC_rev hok) hh0
  have hst := fun i => share_step hok hh0 (i := i)
  have hrv := fun i => share_rev hok hh0 (i := i)
  have hct := fun v => share_cnt hok hh0 v
  generalize share C.reverse h = D at *
  generalize share C (h + 1) = B at *
  generalize share C h = A at *
  obtain ⟨CR, hCR⟩ : ∃ CR, C.reverse = CR := ⟨_, rfl⟩
  have hRl : CR.length = C.length := by rw [← hCR]; exact List.length_reverse
  have hRa := fun k hk => rev_take C k hk
  simp only [hCR] at hRa
  rw [hCR] at c3
  (repeat (first | refine awp_seq ?_ | refine awp_block ?_ | (refine awp_runG [0, 1, 4, 5, 6, 7, 8, 9, 10, 11, 12, 13, 14, 15, 16, 17, 18, 19, 20, 34, 52, 102, 106, 144, 151, 162, 173, 178] hX ?_; (simp [go_sem]; try (refine ⟨by kernel_rfl, ?_⟩))) | (refine awp_drawnG [0, 1, 4, 5, 6, 7, 8, 9, 10, 11, 12, 13, 14, 15, 16, 17, 18, 19, 20, 34, 52, 102, 106, 144, 151, 162, 173, 178] hX mixed ?_; (simp [go_sem]; try (refine ⟨by kernel_rfl, ?_⟩))) | (refine awp_ret ?_; (simp [go_sem]; try (refine ⟨by kernel_rfl, ?_⟩))) | (refine awp_skip ?_; (simp [go_sem]; try (refine ⟨by kernel_rfl, ?_⟩))) | (refine awp_exit ?_; (simp [go_sem]; try (refine ⟨by kernel_rfl, ?_⟩)))))
  first | refine callK_intro (c1) rfl (by simp [go_sem]) rfl ?_ | refine callT_intro (c1) rfl (by simp [go_sem]) rfl ?_
  try (simp [go_sem]; try (refine ⟨by kernel_rfl, ?_⟩))
  (repeat (first | refine awp_seq ?_ | refine awp_block ?_ | (refine awp_runG [0, 1, 4, 5, 6, 7, 8, 9, 10, 11, 12, 13, 14, 15, 16, 17, 18, 19, 20, 34, 52, 102, 106, 144, 151, 162, 173, 178] hX ?_; (simp [go_sem, hwh]; try (refine ⟨by kernel_rfl, ?_⟩))) | (refine awp_drawnG [0, 1, 4, 5, 6, 7, 8, 9, 10, 11, 12, 13, 14, 15, 16, 17, 18, 19, 20, 34, 52, 102, 106, 144, 151, 162, 173, 178] hX mixed ?_; (simp [go_sem, hwh]; try (refine ⟨by kernel_rfl, ?_⟩))) | (refine awp_ret ?_; (simp [go_sem, hwh]; try (refine ⟨by kernel_rfl, ?_⟩))) | (refine awp_skip ?_; (simp [go_sem, hwh]; try (refine ⟨by kernel_rfl, ?_⟩))) | (refine awp_exit ?_; (simp [go_sem, hwh]; try (refine ⟨by kernel_rfl, ?_⟩)))))
  first | refine callK_intro (c2) rfl (by simp [go_sem]) rfl ?_ | refine callT_intro (c2) rfl (by simp [go_sem]) rfl ?_
  try (simp [go_sem]; try (refine ⟨by kernel_rfl, ?_⟩))
  (repeat (first | refine awp_seq ?_ | refine awp_block ?_ | (refine awp_runG [0, 1, 4, 5, 6, 7, 8, 9, 10, 11, 12, 13, 14, 15, 16, 17, 18, 19, 20, 34, 52, 102, 106, 144, 151, 162, 173, 178] hX ?_; (simp [go_sem]; try (refine ⟨by kernel_rfl, ?_⟩))) | (refine awp_drawnG [0, 1, 4, 5, 6, 7, 8, 9, 10, 11, 12, 13, 14, 15, 16, 17, 18, 19, 20, 34, 52, 102, 106, 144, 151, 162, 173, 178] hX mixed ?_; (simp [go_sem]; try (refine ⟨by kernel_rfl, ?_⟩))) | (refine awp_ret ?_; (simp [go_sem]; try (refine ⟨by kernel_rfl, ?_⟩))) | (refine awp_skip ?_; (simp [go_sem]; try (refine ⟨by kernel_rfl, ?_⟩))) | (refine awp_exit ?_; (simp [go_sem]; try (refine ⟨by kernel_rfl, ?_⟩)))))
  refine awp_loop (fun k : Nat => ⟨mkE [(0, il C), (1, ii h), (5, bb true), (6, il A), (7, ii 0), (8, il B), (9, ii 0), (10, .ow 0), (11, ii k)], [rowI (CR.take k)]⟩) (fun k => k ≤ C.length) (fun k => C.length - k) 0 ?_ ?_ ?_
  · refine sub_of _ [.birth 3 1] (by simp [go_sem]) ?_
    simp [go_sem]
  · omega
  · intro k hk
    have hlr : (CR.take k).length = k := by rw [List.length_take]; omega
    (repeat (first | refine awp_seq ?_ | refine awp_block ?_ | (refine awp_runG [0, 1, 4, 5, 6, 7, 8, 9, 10, 11, 12, 13, 14, 15, 16, 17, 18, 19, 20, 34, 52, 102, 106, 144, 151, 162, 173, 178] hX ?_; (simp [go_sem]; try (refine ⟨by kernel_rfl, ?_⟩))) | (refine awp_drawnG [0, 1, 4, 5, 6, 7, 8, 9, 10, 11, 12, 13, 14, 15, 16, 17, 18, 19, 20, 34, 52, 102, 106, 144, 151, 162, 173, 178] hX mixed ?_; (simp [go_sem]; try (refine ⟨by kernel_rfl, ?_⟩))) | (refine awp_ret ?_; (simp [go_sem]; try (refine ⟨by kernel_rfl, ?_⟩))) | (refine awp_skip ?_; (simp [go_sem]; try (refine ⟨by kernel_rfl, ?_⟩))) | (refine awp_exit ?_; (simp [go_sem]; try (refine ⟨by kernel_rfl, ?_⟩)))))
    refine awp_cond (b := decide (k < C.length)) (by simp [go_sem]) (fun hc => ?_) (fun hc => ?_)
    · simp at hc
      obtain ⟨j, hj⟩ : ∃ j, j = C.length - 1 - k := ⟨_, rfl⟩
      have hjl : j < C.length := by omega
      have hw1 := w64 (x := (C.length : Int) - 1) (by omega) (by omega)
      have hw2 : IntKind.i64.wrap ((C.length : Int) - 1 - k) = (j : Int) := by rw [w64 (by omega) (by omega)]; omega
      have er : CR.take (k + 1) = CR.take k ++ [C[j]] := by rw [hRa k hc]; simp only [hj]
      (repeat (first | refine awp_seq ?_ | refine awp_block ?_ | (refine awp_runG [0, 1, 4, 5, 6, 7, 8, 9, 10, 11, 12, 13, 14, 15, 16, 17, 18, 19, 20, 34, 52, 102, 106, 144, 151, 162, 173, 178] hX ?_; (simp [go_sem, hw1, hw2, hjl, hlr]; try (refine ⟨by kernel_rfl, ?_⟩))) | (refine awp_drawnG [0, 1, 4, 5, 6, 7, 8, 9, 10, 11, 12, 13, 14, 15, 16, 17, 18, 19, 20, 34, 52, 102, 106, 144, 151, 162, 173, 178] hX mixed ?_; (simp [go_sem, hw1, hw2, hjl, hlr]; try (refine ⟨by kernel_rfl, ?_⟩))) | (refine awp_ret ?_; (simp [go_sem, hw1, hw2, hjl, hlr]; try (refine ⟨by kernel_rfl, ?_⟩))) | (refine awp_skip ?_; (simp [go_sem, hw1, hw2, hjl, hlr]; try (refine ⟨by kernel_rfl, ?_⟩))) | (refine awp_exit ?_; (simp [go_sem, hw1, hw2, hjl, hlr]; try (refine ⟨by kernel_rfl, ?_⟩)))))
      (repeat refine And.intro (by first | omega | (unfold maxLen; omega) | kernel_rfl | (refine ⟨by first | omega | (unfold maxLen; omega), by first | omega | (unfold maxLen; omega)⟩) | grind) ?_)
      (repeat (first | refine awp_seq ?_ | refine awp_block ?_ | (refine awp_runG [0, 1, 4, 5, 6, 7, 8, 9, 10, 11, 12, 13, 14, 15, 16, 17, 18, 19, 20, 34, 52, 102, 106, 144, 151, 162, 173, 178] hX ?_; (simp [go_sem, hw1, hw2, hjl, hlr]; (try simp (disch := omega) only [w64, td, tm]); try (refine ⟨by kernel_rfl, ?_⟩))) | (refine awp_drawnG [0, 1, 4, 5, 6, 7, 8, 9, 10, 11, 12, 13, 14, 15, 16, 17, 18, 19, 20, 34, 52, 102, 106, 144, 151, 162, 173, 178] hX mixed ?_; (simp [go_sem, hw1, hw2, hjl, hlr]; (try simp (disch := omega) only [w64, td, tm]); try (refine ⟨by kernel_rfl, ?_⟩))) | (refine awp_ret ?_; (simp [go_sem, hw1, hw2, hjl, hlr]; (try simp (disch := omega) only [w64, td, tm]); try (refine ⟨by kernel_rfl, ?_⟩))) | (refine awp_skip ?_; (simp [go_sem, hw1, hw2, hjl, hlr]; (try simp (disch := omega) only [w64, td, tm]); try (refine ⟨by kernel_rfl, ?_⟩))) | (refine awp_exit ?_; (simp [go_sem, hw1, hw2, hjl, hlr]; (try simp (disch := omega) only [w64, td, tm]); try (refine ⟨by kernel_rfl, ?_⟩)))))
      refine ⟨k + 1, by omega, by omega, ?_⟩
      rw [er]
      refine sub_of _ [.old 2 ⟨3, 1, (CR.take k ++ [C[j]]).map ii⟩] (by simp [go_sem]) ?_
      simp [go_sem]
      try omega
    · have hkl : CR.take k = CR := List.take_of_length_le (by simp at hc; omega)
      rw [hkl]
      (repeat (first | refine awp_seq ?_ | refine awp_block ?_ | (refine awp_runG [0, 1, 4, 5, 6, 7, 8, 9, 10, 11, 12, 13, 14, 15, 16, 17, 18, 19, 20, 34, 52, 102, 106, 144, 151, 162, 173, 178] hX ?_; (simp [go_sem]; try (refine ⟨by kernel_rfl, ?_⟩))) | (refine awp_drawnG [0, 1, 4, 5, 6, 7, 8, 9, 10, 11, 12, 13, 14, 15, 16, 17, 18, 19, 20, 34, 52, 102, 106, 144, 151, 162, 173, 178] hX mixed ?_; (simp [go_sem]; try (refine ⟨by kernel_rfl, ?_⟩))) | (refine awp_ret ?_; (simp [go_sem]; try (refine ⟨by kernel_rfl, ?_⟩))) | (refine awp_skip ?_; (simp [go_sem]; try (refine ⟨by kernel_rfl, ?_⟩))) | (refine awp_exit ?_; (simp [go_sem]; try (refine ⟨by kernel_rfl, ?_⟩)))))
      first | refine callK_intro (c3) rfl (by simp [go_sem]) rfl ?_ | refine callT_intro (c3) rfl (by simp [go_sem]) rfl ?_
      try (simp [go_sem]; try (refine ⟨by kernel_rfl, ?_⟩))
      (repeat (first | refine awp_seq ?_ | refine awp_block ?_ | (refine awp_runG [0, 1, 4, 5, 6, 7, 8, 9, 10, 11, 12, 13, 14, 15, 16, 17, 18, 19, 20, 34, 52, 102, 106, 144, 151, 162, 173, 178] hX ?_; (simp [go_sem, hA, hB, hD]; try (refine ⟨by kernel_rfl, ?_⟩))) | (refine awp_drawnG [0, 1, 4, 5, 6, 7, 8, 9, 10, 11, 12, 13, 14, 15, 16, 17, 18, 19, 20, 34, 52, 102, 106, 144, 151, 162, 173, 178] hX mixed ?_; (simp [go_sem, hA, hB, hD]; try (refine ⟨by kernel_rfl, ?_⟩))) | (refine awp_ret ?_; (simp [go_sem, hA, hB, hD]; try (refine ⟨by kernel_rfl, ?_⟩))) | (refine awp_skip ?_; (simp [go_sem, hA, hB, hD]; try (refine ⟨by kernel_rfl, ?_⟩))) | (refine awp_exit ?_; (simp [go_sem, hA, hB, hD]; try (refine ⟨by kernel_rfl, ?_⟩)))))
      refine awp_cond (b := false) (by simp [go_sem, hA, hB, hD]) (fun h => by cases h) (fun _ => ?_)
      (repeat (first | refine awp_seq ?_ | refine awp_block ?_ | (refine awp_runG [0, 1, 4, 5, 6, 7, 8, 9, 10, 11, 12, 13, 14, 15, 16, 17, 18, 19, 20, 34, 52, 102, 106, 144, 151, 162, 173, 178] hX ?_; (simp [go_sem]; try (refine ⟨by kernel_rfl, ?_⟩))) | (refine awp_drawnG [0, 1, 4, 5, 6, 7, 8, 9, 10, 11, 12, 13, 14, 15, 16, 17, 18, 19, 20, 34, 52, 102, 106, 144, 151, 162, 173, 178] hX mixed ?_; (simp [go_sem]; try (refine ⟨by kernel_rfl, ?_⟩))) | (refine awp_ret ?_; (simp [go_sem]; try (refine ⟨by kernel_rfl, ?_⟩))) | (refine awp_skip ?_; (simp [go_sem]; try (refine ⟨by kernel_rfl, ?_⟩))) | (refine awp_exit ?_; (simp [go_sem]; try (refine ⟨by kernel_rfl, ?_⟩)))))
      refine awp_loop (fun i : Nat => ⟨mkE [(0, il C), (1, ii h), (5, bb true), (6, il A), (8, il B), (12, il D), (14, ii (sumL (B.take i) - sumL (A.take i))), (15, ii i)], []⟩) (fun i => i ≤ C.length ∧ 0 ≤ sumL (B.take i) - sumL (A.take i) ∧ sumL (B.take i) - sumL (A.take i) ≤ i) (fun i => C.length - i) 0 ?_ ?_ ?_
      · refine sub_of _ [] (by simp [go_sem]) ?_
        simp [go_sem]
      · simp
      · rintro i ⟨hi, hm0, hm1⟩
        (repeat (first | refine awp_seq ?_ | refine awp_block ?_ | (refine awp_runG [0, 1, 4, 5, 6, 7, 8, 9, 10, 11, 12, 13, 14, 15, 16, 17, 18, 19, 20, 34, 52, 102, 106, 144, 151, 162, 173, 178] hX ?_; (simp [go_sem, hA]; try (refine ⟨by kernel_rfl, ?_⟩))) | (refine awp_drawnG [0, 1, 4, 5, 6, 7, 8, 9, 10, 11, 12, 13, 14, 15, 16, 17, 18, 19, 20, 34, 52, 102, 106, 144, 151, 162, 173, 178] hX mixed ?_; (simp [go_sem, hA]; try (refine ⟨by kernel_rfl, ?_⟩))) | (refine awp_ret ?_; (simp [go_sem, hA]; try (refine ⟨by kernel_rfl, ?_⟩))) | (refine awp_skip ?_; (simp [go_sem, hA]; try (refine ⟨by kernel_rfl, ?_⟩))) | (refine awp_exit ?_; (simp [go_sem, hA]; try (refine ⟨by kernel_rfl, ?_⟩)))))
        refine awp_cond (b := decide (i < C.length)) (by simp [go_sem, hA]) (fun hd => ?_) (fun hd => ?_)
        · simp at hd
          have iA : i < A.length := by omega
          have iB : i < B.length := by omega
          have iD : C.length - 1 - i < D.length := by omega
          have h1 := hst i hd iA iB
          have h2 := hrv i hd iA iD
          have b1 := bA _ (List.getElem_mem iA)
          have b2 := bB _ (List.getElem_mem iB)
          have b3 := bD _ (List.getElem_mem iD)
          have e1 := sumL_succ iA
          have e2 := sumL_succ iB
          have hcv := hct A[i]
          obtain ⟨x, hx⟩ : ∃ x, A[i] = x := ⟨_, rfl⟩
          obtain ⟨y, hy⟩ : ∃ y, B[i] = y := ⟨_, rfl⟩
          obtain ⟨j, hj⟩ : ∃ j, C.length - 1 - i = j := ⟨_, rfl⟩
          simp only [hj] at iD h2 b3
          obtain ⟨z, hz⟩ : ∃ z, D[j] = z := ⟨_, rfl⟩
          rw [hx] at h1 h2 b1 e1 hcv
          rw [hy] at h1 b2 e2
          rw [hz] at h2 b3
          obtain ⟨m, hm⟩ : ∃ m, sumL (B.take i) - sumL (A.take i) = m := ⟨_, rfl⟩
          rw [hm] at hm0 hm1 ⊢
          have hmn : sumL (B.take (i + 1)) - sumL (A.take (i + 1)) = m + (y - x) := by omega
          have hwd := w64 (x := y - x) (by omega) (by omega)
          have hwo := w64 (x := z - x) (by omega) (by omega)
          have hw1 := w64 (x := (C.length : Int) - 1) (by omega) (by omega)
          have hw2 : IntKind.i64.wrap ((C.length : Int) - 1 - i) = (j : Int) := by rw [w64 (by omega) (by omega)]; omega
          have hwm := w64 (x := m + (y - x)) (by omega) (by omega)
          have jC : j < C.length := by omega
          (repeat (first | refine awp_seq ?_ | refine awp_block ?_ | (refine awp_runG [0, 1, 4, 5, 6, 7, 8, 9, 10, 11, 12, 13, 14, 15, 16, 17, 18, 19, 20, 34, 52, 102, 106, 144, 151, 162, 173, 178] hX ?_; (simp [go_sem, iA, iB, iD, jC, hD, hx, hy, hz, hw1, hw2, hwd, hwo]; try (refine ⟨by kernel_rfl, ?_⟩))) | (refine awp_drawnG [0, 1, 4, 5, 6, 7, 8, 9, 10, 11, 12, 13, 14, 15, 16, 17, 18, 19, 20, 34, 52, 102, 106, 144, 151, 162, 173, 178] hX mixed ?_; (simp [go_sem, iA, iB, iD, jC, hD, hx, hy, hz, hw1, hw2, hwd, hwo]; try (refine ⟨by kernel_rfl, ?_⟩))) | (refine awp_ret ?_; (simp [go_sem, iA, iB, iD, jC, hD, hx, hy, hz, hw1, hw2, hwd, hwo]; try (refine ⟨by kernel_rfl, ?_⟩))) | (refine awp_skip ?_; (simp [go_sem, iA, iB, iD, jC, hD, hx, hy, hz, hw1, hw2, hwd, hwo]; try (refine ⟨by kernel_rfl, ?_⟩))) | (refine awp_exit ?_; (simp [go_sem, iA, iB, iD, jC, hD, hx, hy, hz, hw1, hw2, hwd, hwo]; try (refine ⟨by kernel_rfl, ?_⟩)))))
          refine awp_cond (b := false) (by simp [go_sem]; omega) (fun h => by cases h) (fun _ => ?_)
          (repeat (first | refine awp_seq ?_ | refine awp_block ?_ | (refine awp_runG [0, 1, 4, 5, 6, 7, 8, 9, 10, 11, 12, 13, 14, 15, 16, 17, 18, 19, 20, 34, 52, 102, 106, 144, 151, 162, 173, 178] hX ?_; (simp [go_sem, hwm]; try (refine ⟨by kernel_rfl, ?_⟩))) | (refine awp_drawnG [0, 1, 4, 5, 6, 7, 8, 9, 10, 11, 12, 13, 14, 15, 16, 17, 18, 19, 20, 34, 52, 102, 106, 144, 151, 162, 173, 178] hX mixed ?_; (simp [go_sem, hwm]; try (refine ⟨by kernel_rfl, ?_⟩))) | (refine awp_ret ?_; (simp [go_sem, hwm]; try (refine ⟨by kernel_rfl, ?_⟩))) | (refine awp_skip ?_; (simp [go_sem, hwm]; try (refine ⟨by kernel_rfl, ?_⟩))) | (refine awp_exit ?_; (simp [go_sem, hwm]; try (refine ⟨by kernel_rfl, ?_⟩)))))
          refine awp_loop (fun k : Nat => ⟨mkE [(0, il C), (1, ii h), (5, bb true), (6, il A), (8, il B), (12, il D), (14, ii (m + (y - x))), (15, ii i), (18, ii (cntE x (A.take k))), (19, ii (cntE x (D.take k))), (20, ii k)], []⟩) (fun k => k ≤ C.length) (fun k => C.length - k) 0 ?_ ?_ ?_
          · refine sub_of _ [] (by simp [go_sem, cntE]) ?_
            simp [go_sem, cntE]
          · omega
          · intro k hk
            have n1 := cntE_le x (A.take k)
            have n2 := cntE_le x (D.take k)
            rw [List.length_take] at n1 n2
            (repeat (first | refine awp_seq ?_ | refine awp_block ?_ | (refine awp_runG [0, 1, 4, 5, 6, 7, 8, 9, 10, 11, 12, 13, 14, 15, 16, 17, 18, 19, 20, 34, 52, 102, 106, 144, 151, 162, 173, 178] hX ?_; (simp [go_sem, hA]; try (refine ⟨by kernel_rfl, ?_⟩))) | (refine awp_drawnG [0, 1, 4, 5, 6, 7, 8, 9, 10, 11, 12, 13, 14, 15, 16, 17, 18, 19, 20, 34, 52, 102, 106, 144, 151, 162, 173, 178] hX mixed ?_; (simp [go_sem, hA]; try (refine ⟨by kernel_rfl, ?_⟩))) | (refine awp_ret ?_; (simp [go_sem, hA]; try (refine ⟨by kernel_rfl, ?_⟩))) | (refine awp_skip ?_; (simp [go_sem, hA]; try (refine ⟨by kernel_rfl, ?_⟩))) | (refine awp_exit ?_; (simp [go_sem, hA]; try (refine ⟨by kernel_rfl, ?_⟩)))))
            refine awp_cond (b := decide (k < C.length)) (by simp [go_sem, hA]) (fun he => ?_) (fun he => ?_)
            · simp at he
              have kA : k < A.length := by omega
              have kD : k < D.length := by omega
              have s1 := cntE_succ (v := x) kA
              have s2 := cntE_succ (v := x) kD
              (repeat (first | refine awp_seq ?_ | refine awp_block ?_ | (refine awp_runG [0, 1, 4, 5, 6, 7, 8, 9, 10, 11, 12, 13, 14, 15, 16, 17, 18, 19, 20, 34, 52, 102, 106, 144, 151, 162, 173, 178] hX ?_; (simp [go_sem, kA, iA, hx]; try (refine ⟨by kernel_rfl, ?_⟩))) | (refine awp_drawnG [0, 1, 4, 5, 6, 7, 8, 9, 10, 11, 12, 13, 14, 15, 16, 17, 18, 19, 20, 34, 52, 102, 106, 144, 151, 162, 173, 178] hX mixed ?_; (simp [go_sem, kA, iA, hx]; try (refine ⟨by kernel_rfl, ?_⟩))) | (refine awp_ret ?_; (simp [go_sem, kA, iA, hx]; try (refine ⟨by kernel_rfl, ?_⟩))) | (refine awp_skip ?_; (simp [go_sem, kA, iA, hx]; try (refine ⟨by kernel_rfl, ?_⟩))) | (refine awp_exit ?_; (simp [go_sem, kA, iA, hx]; try (refine ⟨by kernel_rfl, ?_⟩)))))
              refine awp_cond (b := decide (A[k] = x)) (by simp [go_sem, kA, iA, hx]) (fun hf => ?_) (fun hf => ?_)
              · simp at hf
                rw [if_pos hf] at s1
                (repeat (first | refine awp_seq ?_ | refine awp_block ?_ | (refine awp_runG [0, 1, 4, 5, 6, 7, 8, 9, 10, 11, 12, 13, 14, 15, 16, 17, 18, 19, 20, 34, 52, 102, 106, 144, 151, 162, 173, 178] hX ?_; (simp [go_sem, kD, iA, hx]; (try simp (disch := omega) only [w64, td, tm]); try (refine ⟨by kernel_rfl, ?_⟩))) | (refine awp_drawnG [0, 1, 4, 5, 6, 7, 8, 9, 10, 11, 12, 13, 14, 15, 16, 17, 18, 19, 20, 34, 52, 102, 106, 144, 151, 162, 173, 178] hX mixed ?_; (simp [go_sem, kD, iA, hx]; (try simp (disch := omega) only [w64, td, tm]); try (refine ⟨by kernel_rfl, ?_⟩))) | (refine awp_ret ?_; (simp [go_sem, kD, iA, hx]; (try simp (disch := omega) only [w64, td, tm]); try (refine ⟨by kernel_rfl, ?_⟩))) | (refine awp_skip ?_; (simp [go_sem, kD, iA, hx]; (try simp (disch := omega) only [w64, td, tm]); try (refine ⟨by kernel_rfl, ?_⟩))) | (refine awp_exit ?_; (simp [go_sem, kD, iA, hx]; (try simp (disch := omega) only [w64, td, tm]); try (refine ⟨by kernel_rfl, ?_⟩)))))
                try (simp [go_sem, kD, iA, hx]; try (refine ⟨by kernel_rfl, ?_⟩))
                refine awp_cond (b := decide (D[k] = x)) (by simp [go_sem, kD, iA, hx]) (fun hg => ?_) (fun hg => ?_)
                · simp at hg
                  rw [if_pos hg] at s2
                  (repeat (first | refine awp_seq ?_ | refine awp_block ?_ | (refine awp_runG [0, 1, 4, 5, 6, 7, 8, 9, 10, 11, 12, 13, 14, 15, 16, 17, 18, 19, 20, 34, 52, 102, 106, 144, 151, 162, 173, 178] hX ?_; (simp [go_sem]; (try simp (disch := omega) only [w64, td, tm]); try (refine ⟨by kernel_rfl, ?_⟩))) | (refine awp_drawnG [0, 1, 4, 5, 6, 7, 8, 9, 10, 11, 12, 13, 14, 15, 16, 17, 18, 19, 20, 34, 52, 102, 106, 144, 151, 162, 173, 178] hX mixed ?_; (simp [go_sem]; (try simp (disch := omega) only [w64, td, tm]); try (refine ⟨by kernel_rfl, ?_⟩))) | (refine awp_ret ?_; (simp [go_sem]; (try simp (disch := omega) only [w64, td, tm]); try (refine ⟨by kernel_rfl, ?_⟩))) | (refine awp_skip ?_; (simp [go_sem]; (try simp (disch := omega) only [w64, td, tm]); try (refine ⟨by kernel_rfl, ?_⟩))) | (refine awp_exit ?_; (simp [go_sem]; (try simp (disch := omega) only [w64, td, tm]); try (refine ⟨by kernel_rfl, ?_⟩)))))
                  refine ⟨k + 1, by omega, by omega, ?_⟩
                  rw [s1, s2]
                  refine sub_of _ [] (by simp [go_sem]) ?_
                  simp [go_sem]
                · simp at hg
                  rw [if_neg hg] at s2
                  (repeat (first | refine awp_seq ?_ | refine awp_block ?_ | (refine awp_runG [0, 1, 4, 5, 6, 7, 8, 9, 10, 11, 12, 13, 14, 15, 16, 17, 18, 19, 20, 34, 52, 102, 106, 144, 151, 162, 173, 178] hX ?_; (simp [go_sem]; (try simp (disch := omega) only [w64, td, tm]); try (refine ⟨by kernel_rfl, ?_⟩))) | (refine awp_drawnG [0, 1, 4, 5, 6, 7, 8, 9, 10, 11, 12, 13, 14, 15, 16, 17, 18, 19, 20, 34, 52, 102, 106, 144, 151, 162, 173, 178] hX mixed ?_; (simp [go_sem]; (try simp (disch := omega) only [w64, td, tm]); try (refine ⟨by kernel_rfl, ?_⟩))) | (refine awp_ret ?_; (simp [go_sem]; (try simp (disch := omega) only [w64, td, tm]); try (refine ⟨by kernel_rfl, ?_⟩))) | (refine awp_skip ?_; (simp [go_sem]; (try simp (disch := omega) only [w64, td, tm]); try (refine ⟨by kernel_rfl, ?_⟩))) | (refine awp_exit ?_; (simp [go_sem]; (try simp (disch := omega) only [w64, td, tm]); try (refine ⟨by kernel_rfl, ?_⟩)))))
                  refine ⟨k + 1, by omega, by omega, ?_⟩
                  rw [s1, s2]
                  refine sub_of _ [] (by simp [go_sem]) ?_
                  simp [go_sem]
              · simp at hf
                rw [if_neg hf] at s1
                (repeat (first | refine awp_seq ?_ | refine awp_block ?_ | (refine awp_runG [0, 1, 4, 5, 6, 7, 8, 9, 10, 11, 12, 13, 14, 15, 16, 17, 18, 19, 20, 34, 52, 102, 106, 144, 151, 162, 173, 178] hX ?_; (simp [go_sem, kD, iA, hx]; (try simp (disch := omega) only [w64, td, tm]); try (refine ⟨by kernel_rfl, ?_⟩))) | (refine awp_drawnG [0, 1, 4, 5, 6, 7, 8, 9, 10, 11, 12, 13, 14, 15, 16, 17, 18, 19, 20, 34, 52, 102, 106, 144, 151, 162, 173, 178] hX mixed ?_; (simp [go_sem, kD, iA, hx]; (try simp (disch := omega) only [w64, td, tm]); try (refine ⟨by kernel_rfl, ?_⟩))) | (refine awp_ret ?_; (simp [go_sem, kD, iA, hx]; (try simp (disch := omega) only [w64, td, tm]); try (refine ⟨by kernel_rfl, ?_⟩))) | (refine awp_skip ?_; (simp [go_sem, kD, iA, hx]; (try simp (disch := omega) only [w64, td, tm]); try (refine ⟨by kernel_rfl, ?_⟩))) | (refine awp_exit ?_; (simp [go_sem, kD, iA, hx]; (try simp (disch := omega) only [w64, td, tm]); try (refine ⟨by kernel_rfl, ?_⟩)))))
                try (simp [go_sem, kD, iA, hx]; try (refine ⟨by kernel_rfl, ?_⟩))
                refine awp_cond (b := decide (D[k] = x)) (by simp [go_sem, kD, iA, hx]) (fun hg => ?_) (fun hg => ?_)
                · simp at hg
                  rw [if_pos hg] at s2
                  (repeat (first | refine awp_seq ?_ | refine awp_block ?_ | (refine awp_runG [0, 1, 4, 5, 6, 7, 8, 9, 10, 11, 12, 13, 14, 15, 16, 17, 18, 19, 20, 34, 52, 102, 106, 144, 151, 162, 173, 178] hX ?_; (simp [go_sem]; (try simp (disch := omega) only [w64, td, tm]); try (refine ⟨by kernel_rfl, ?_⟩))) | (refine awp_drawnG [0, 1, 4, 5, 6, 7, 8, 9, 10, 11, 12, 13, 14, 15, 16, 17, 18, 19, 20, 34, 52, 102, 106, 144, 151, 162, 173, 178] hX mixed ?_; (simp [go_sem]; (try simp (disch := omega) only [w64, td, tm]); try (refine ⟨by kernel_rfl, ?_⟩))) | (refine awp_ret ?_; (simp [go_sem]; (try simp (disch := omega) only [w64, td, tm]); try (refine ⟨by kernel_rfl, ?_⟩))) | (refine awp_skip ?_; (simp [go_sem]; (try simp (disch := omega) only [w64, td, tm]); try (refine ⟨by kernel_rfl, ?_⟩))) | (refine awp_exit ?_; (simp [go_sem]; (try simp (disch := omega) only [w64, td, tm]); try (refine ⟨by kernel_rfl, ?_⟩)))))
                  refine ⟨k + 1, by omega, by omega, ?_⟩
                  rw [s1, s2]
                  refine sub_of _ [] (by simp [go_sem]) ?_
                  simp [go_sem]
                · simp at hg
                  rw [if_neg hg] at s2
                  (repeat (first | refine awp_seq ?_ | refine awp_block ?_ | (refine awp_runG [0, 1, 4, 5, 6, 7, 8, 9, 10, 11, 12, 13, 14, 15, 16, 17, 18, 19, 20, 34, 52, 102, 106, 144, 151, 162, 173, 178] hX ?_; (simp [go_sem]; (try simp (disch := omega) only [w64, td, tm]); try (refine ⟨by kernel_rfl, ?_⟩))) | (refine awp_drawnG [0, 1, 4, 5, 6, 7, 8, 9, 10, 11, 12, 13, 14, 15, 16, 17, 18, 19, 20, 34, 52, 102, 106, 144, 151, 162, 173, 178] hX mixed ?_; (simp [go_sem]; (try simp (disch := omega) only [w64, td, tm]); try (refine ⟨by kernel_rfl, ?_⟩))) | (refine awp_ret ?_; (simp [go_sem]; (try simp (disch := omega) only [w64, td, tm]); try (refine ⟨by kernel_rfl, ?_⟩))) | (refine awp_skip ?_; (simp [go_sem]; (try simp (disch := omega) only [w64, td, tm]); try (refine ⟨by kernel_rfl, ?_⟩))) | (refine awp_exit ?_; (simp [go_sem]; (try simp (disch := omega) only [w64, td, tm]); try (refine ⟨by kernel_rfl, ?_⟩)))))
                  refine ⟨k + 1, by omega, by omega, ?_⟩
                  rw [s1, s2]
                  refine sub_of _ [] (by simp [go_sem]) ?_
                  simp [go_sem]
            · have q1 : A.take k = A := List.take_of_length_le (by simp at he; omega)
              have q2 : D.take k = D := List.take_of_length_le (by simp at he; omega)
              rw [q1, q2, hcv]
              (repeat (first | refine awp_seq ?_ | refine awp_block ?_ | (refine awp_runG [0, 1, 4, 5, 6, 7, 8, 9, 10, 11, 12, 13, 14, 15, 16, 17, 18, 19, 20, 34, 52, 102, 106, 144, 151, 162, 173, 178] hX ?_; (simp [go_sem]; try (refine ⟨by kernel_rfl, ?_⟩))) | (refine awp_drawnG [0, 1, 4, 5, 6, 7, 8, 9, 10, 11, 12, 13, 14, 15, 16, 17, 18, 19, 20, 34, 52, 102, 106, 144, 151, 162, 173, 178] hX mixed ?_; (simp [go_sem]; try (refine ⟨by kernel_rfl, ?_⟩))) | (refine awp_ret ?_; (simp [go_sem]; try (refine ⟨by kernel_rfl, ?_⟩))) | (refine awp_skip ?_; (simp [go_sem]; try (refine ⟨by kernel_rfl, ?_⟩))) | (refine awp_exit ?_; (simp [go_sem]; try (refine ⟨by kernel_rfl, ?_⟩)))))
              refine awp_cond (b := false) (by simp [go_sem]) (fun h => by cases h) (fun _ => ?_)
              (repeat (first | refine awp_seq ?_ | refine awp_block ?_ | (refine awp_runG [0, 1, 4, 5, 6, 7, 8, 9, 10, 11, 12, 13, 14, 15, 16, 17, 18, 19, 20, 34, 52, 102, 106, 144, 151, 162, 173, 178] hX ?_; (simp [go_sem]; (try simp (disch := omega) only [w64, td, tm]); try (refine ⟨by kernel_rfl, ?_⟩))) | (refine awp_drawnG [0, 1, 4, 5, 6, 7, 8, 9, 10, 11, 12, 13, 14, 15, 16, 17, 18, 19, 20, 34, 52, 102, 106, 144, 151, 162, 173, 178] hX mixed ?_; (simp [go_sem]; (try simp (disch := omega) only [w64, td, tm]); try (refine ⟨by kernel_rfl, ?_⟩))) | (refine awp_ret ?_; (simp [go_sem]; (try simp (disch := omega) only [w64, td, tm]); try (refine ⟨by kernel_rfl, ?_⟩))) | (refine awp_skip ?_; (simp [go_sem]; (try simp (disch := omega) only [w64, td, tm]); try (refine ⟨by kernel_rfl, ?_⟩))) | (refine awp_exit ?_; (simp [go_sem]; (try simp (disch := omega) only [w64, td, tm]); try (refine ⟨by kernel_rfl, ?_⟩)))))
              refine ⟨i + 1, ⟨by omega, by omega, by omega⟩, by omega, ?_⟩
              rw [hmn]
              refine sub_of _ [] (by simp [go_sem]) ?_
              simp [go_sem]
        · have q1 : A.take i = A := List.take_of_length_le (by simp at hd; omega)
          have q2 : B.take i = B := List.take_of_length_le (by simp at hd; omega)
          rw [q1, q2, sA, sB] 
          have hsb := sum_bd hok
          by_cases hs : sumL C ≤ h
          · have e : min (h + 1) (sumL C) - min h (sumL C) = 0 := by omega
            have hs' : ¬ h < sumL C := by omega
            rw [e]
            (repeat (first | refine awp_seq ?_ | refine awp_block ?_ | (refine awp_runG [0, 1, 4, 5, 6, 7, 8, 9, 10, 11, 12, 13, 14, 15, 16, 17, 18, 19, 20, 34, 52, 102, 106, 144, 151, 162, 173, 178] hX ?_; (simp [go_sem]; try (refine ⟨by kernel_rfl, ?_⟩))) | (refine awp_drawnG [0, 1, 4, 5, 6, 7, 8, 9, 10, 11, 12, 13, 14, 15, 16, 17, 18, 19, 20, 34, 52, 102, 106, 144, 151, 162, 173, 178] hX mixed ?_; (simp [go_sem]; try (refine ⟨by kernel_rfl, ?_⟩))) | (refine awp_ret ?_; (simp [go_sem]; try (refine ⟨by kernel_rfl, ?_⟩))) | (refine awp_skip ?_; (simp [go_sem]; try (refine ⟨by kernel_rfl, ?_⟩))) | (refine awp_exit ?_; (simp [go_sem]; try (refine ⟨by kernel_rfl, ?_⟩)))))
            first | refine callG_intro (fun hg => sum_m C (by omega) (fun x hx => by have := okC_mem hok hx; omega)) rfl (by simp [go_sem]) rfl ?_ | refine callGT_intro (fun hg => sum_m C (by omega) (fun x hx => by have := okC_mem hok hx; omega)) rfl (by simp [go_sem]) rfl ?_
            try (simp [go_sem]; try (refine ⟨by kernel_rfl, ?_⟩))
            (repeat (first | refine awp_seq ?_ | refine awp_block ?_ | (refine awp_runG [0, 1, 4, 5, 6, 7, 8, 9, 10, 11, 12, 13, 14, 15, 16, 17, 18, 19, 20, 34, 52, 102, 106, 144, 151, 162, 173, 178] hX ?_; (simp [go_sem, hs, hs']; try (refine ⟨by kernel_rfl, ?_⟩))) | (refine awp_drawnG [0, 1, 4, 5, 6, 7, 8, 9, 10, 11, 12, 13, 14, 15, 16, 17, 18, 19, 20, 34, 52, 102, 106, 144, 151, 162, 173, 178] hX mixed ?_; (simp [go_sem, hs, hs']; try (refine ⟨by kernel_rfl, ?_⟩))) | (refine awp_ret ?_; (simp [go_sem, hs, hs']; try (refine ⟨by kernel_rfl, ?_⟩))) | (refine awp_skip ?_; (simp [go_sem, hs, hs']; try (refine ⟨by kernel_rfl, ?_⟩))) | (refine awp_exit ?_; (simp [go_sem, hs, hs']; try (refine ⟨by kernel_rfl, ?_⟩)))))
            try simp [hs, hs']
          · have e : min (h + 1) (sumL C) - min h (sumL C) = 1 := by omega
            have hs' : h < sumL C := by omega
            rw [e]
            (repeat (first | refine awp_seq ?_ | refine awp_block ?_ | (refine awp_runG [0, 1, 4, 5, 6, 7, 8, 9, 10, 11, 12, 13, 14, 15, 16, 17, 18, 19, 20, 34, 52, 102, 106, 144, 151, 162, 173, 178] hX ?_; (simp [go_sem]; try (refine ⟨by kernel_rfl, ?_⟩))) | (refine awp_drawnG [0, 1, 4, 5, 6, 7, 8, 9, 10, 11, 12, 13, 14, 15, 16, 17, 18, 19, 20, 34, 52, 102, 106, 144, 151, 162, 173, 178] hX mixed ?_; (simp [go_sem]; try (refine ⟨by kernel_rfl, ?_⟩))) | (refine awp_ret ?_; (simp [go_sem]; try (refine ⟨by kernel_rfl, ?_⟩))) | (refine awp_skip ?_; (simp [go_sem]; try (refine ⟨by kernel_rfl, ?_⟩))) | (refine awp_exit ?_; (simp [go_sem]; try (refine ⟨by kernel_rfl, ?_⟩)))))
            first | refine callG_intro (fun hg => sum_m C (by omega) (fun x hx => by have := okC_mem hok hx; omega)) rfl (by simp [go_sem]) rfl ?_ | refine callGT_intro (fun hg => sum_m C (by omega) (fun x hx => by have := okC_mem hok hx; omega)) rfl (by simp [go_sem]) rfl ?_
            try (simp [go_sem]; try (refine ⟨by kernel_rfl, ?_⟩))
            (repeat (first | refine awp_seq ?_ | refine awp_block ?_ | (refine awp_runG [0, 1, 4, 5, 6, 7, 8, 9, 10, 11, 12, 13, 14, 15, 16, 17, 18, 19, 20, 34, 52, 102, 106, 144, 151, 162, 173, 178] hX ?_; (simp [go_sem, hs, hs']; try (refine ⟨by kernel_rfl, ?_⟩))) | (refine awp_drawnG [0, 1, 4, 5, 6, 7, 8, 9, 10, 11, 12, 13, 14, 15, 16, 17, 18, 19, 20, 34, 52, 102, 106, 144, 151, 162, 173, 178] hX mixed ?_; (simp [go_sem, hs, hs']; try (refine ⟨by kernel_rfl, ?_⟩))) | (refine awp_ret ?_; (simp [go_sem, hs, hs']; try (refine ⟨by kernel_rfl, ?_⟩))) | (refine awp_skip ?_; (simp [go_sem, hs, hs']; try (refine ⟨by kernel_rfl, ?_⟩))) | (refine awp_exit ?_; (simp [go_sem, hs, hs']; try (refine ⟨by kernel_rfl, ?_⟩)))))
            try simp [hs, hs']

end Go.Proofs.Ytnifpooobleahaa
