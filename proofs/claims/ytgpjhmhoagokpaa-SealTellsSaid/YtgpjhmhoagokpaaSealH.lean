/-
  The walk of the law that tells.
-/
import Derived.Test.YtgpjhmhoagokpaaSealC
import Derived.Test.YtgpjhmhoagokpaaSealG
set_option linter.all false
namespace Go.Proofs.Ytgpjhmhoagokpaa
open Go.RowKit Go.Ab
attribute [local irreducible] AWP Go.Ab.Sub Means MeansH CallK CallG CallT CallGT

theorem sigE_nodup {L : List E} (h : L.Nodup) (e : E) : (sigE L e).Nodup := by
  simp only [sigL]; split
  · rename_i hc
    simp only [Bool.and_eq_true, Bool.not_eq_true', decide_eq_false_iff_not] at hc
    rw [List.nodup_append]
    refine ⟨h, by simp, fun a ha b hb hab => ?_⟩
    rw [List.mem_singleton] at hb
    subst hb; subst hab; exact hc.2 ha
  · exact h
theorem ent_nodup (L : List E) : ∀ k, k ≤ L.length → (ent (L.take k)).Nodup
  | 0, _ => by simp [ent_nil]
  | k + 1, h => by rw [ent_succ (by omega)]; exact sigE_nodup (ent_nodup L k (by omega)) _
theorem nodup_idx {L : List E} (hn : L.Nodup) {i j : Nat} (hi : i < L.length) (hj : j < L.length) (h : L[i] = L[j]) : i = j := by
  have hp := List.pairwise_iff_getElem.1 hn
  rcases Nat.lt_trichotomy i j with h1 | h1 | h1
  · exact (hp i j hi hj h1 h).elim
  · exact h1
  · exact (hp j i hj hi h1 h.symm).elim
/-- BOTH TELL THE SAME. -/
theorem holds_eq {L : List E} (hn : L.Nodup) (g : G) : holds L g = rholds L g := by
  obtain ⟨k, t, m⟩ := g
  rw [Bool.eq_iff_iff]
  simp only [holds, rholds, Bool.and_eq_true, decide_eq_true_eq]
  constructor
  · rintro ⟨h1, hm⟩
    have h2 := findIdx_mem h1
    refine ⟨by omega, ?_⟩
    rw [← hm, Int.toNat_natCast, List.getElem?_eq_getElem h2, findIdx_at h2]
  · rintro ⟨h1, h2⟩
    obtain ⟨h3, h4⟩ := List.getElem?_eq_some_iff.1 h2
    have hm : (⟨k, t⟩ : E) ∈ L := h4 ▸ List.getElem_mem h3
    have h5 := findIdx_mem hm
    have := nodup_idx hn h5 h3 (by rw [findIdx_at h5, h4])
    exact ⟨hm, by omega⟩

set_option maxHeartbeats 4000000 in
set_option maxRecDepth 20000 in
theorem sealTells_m (L : List E) (hl0 : L.length ≤ maxLen) (s : G) : Means false Try.prog 5 [.sl (L.map eo), go s] (bb true) := by
  have hl : L.length ≤ 9223372036854775807 := by unfold maxLen at hl0; omega
  refine means_fn false 113 [.tmp 4] Try.func5 rfl rfl rfl (by simp) (by decide) rfl fun X hX => ?_
  (repeat (first | refine awp_seq ?_ | refine awp_block ?_ | (refine awp_runG [0, 1, 3, 4, 5, 6, 7, 8, 9, 10, 11, 12, 16, 21, 25, 61, 81, 104] hX ?_; (simp [go_sem]; try (refine ⟨by kernel_rfl, ?_⟩))) | (refine awp_drawnG [0, 1, 3, 4, 5, 6, 7, 8, 9, 10, 11, 12, 16, 21, 25, 61, 81, 104] hX mixed ?_; (simp [go_sem]; try (refine ⟨by kernel_rfl, ?_⟩))) | (refine awp_ret ?_; (simp [go_sem]; try (refine ⟨by kernel_rfl, ?_⟩))) | (refine awp_skip ?_; (simp [go_sem]; try (refine ⟨by kernel_rfl, ?_⟩))) | (refine awp_exit ?_; (simp [go_sem]; try (refine ⟨by kernel_rfl, ?_⟩)))))
  first | refine callK_intro (small_m) rfl (by simp [go_sem]) rfl ?_ | refine callT_intro (small_m) rfl (by simp [go_sem]) rfl ?_
  try (simp [go_sem]; try (refine ⟨by kernel_rfl, ?_⟩))
  (repeat (first | refine awp_seq ?_ | refine awp_block ?_ | (refine awp_runG [0, 1, 3, 4, 5, 6, 7, 8, 9, 10, 11, 12, 16, 21, 25, 61, 81, 104] hX ?_; (simp [go_sem]; try (refine ⟨by kernel_rfl, ?_⟩))) | (refine awp_drawnG [0, 1, 3, 4, 5, 6, 7, 8, 9, 10, 11, 12, 16, 21, 25, 61, 81, 104] hX mixed ?_; (simp [go_sem]; try (refine ⟨by kernel_rfl, ?_⟩))) | (refine awp_ret ?_; (simp [go_sem]; try (refine ⟨by kernel_rfl, ?_⟩))) | (refine awp_skip ?_; (simp [go_sem]; try (refine ⟨by kernel_rfl, ?_⟩))) | (refine awp_exit ?_; (simp [go_sem]; try (refine ⟨by kernel_rfl, ?_⟩)))))
  first | refine callK_intro (few_m L hl 40 (by decide)) rfl (by simp [go_sem]) rfl ?_ | refine callT_intro (few_m L hl 40 (by decide)) rfl (by simp [go_sem]) rfl ?_
  try (simp [go_sem]; try (refine ⟨by kernel_rfl, ?_⟩))
  (repeat (first | refine awp_seq ?_ | refine awp_block ?_ | (refine awp_runG [0, 1, 3, 4, 5, 6, 7, 8, 9, 10, 11, 12, 16, 21, 25, 61, 81, 104] hX ?_; (simp [go_sem]; try (refine ⟨by kernel_rfl, ?_⟩))) | (refine awp_drawnG [0, 1, 3, 4, 5, 6, 7, 8, 9, 10, 11, 12, 16, 21, 25, 61, 81, 104] hX mixed ?_; (simp [go_sem]; try (refine ⟨by kernel_rfl, ?_⟩))) | (refine awp_ret ?_; (simp [go_sem]; try (refine ⟨by kernel_rfl, ?_⟩))) | (refine awp_skip ?_; (simp [go_sem]; try (refine ⟨by kernel_rfl, ?_⟩))) | (refine awp_exit ?_; (simp [go_sem]; try (refine ⟨by kernel_rfl, ?_⟩)))))
  refine awp_cond (b := !few L 40) (by simp [go_sem]) (fun hb => ?_) (fun hb => ?_)
  · (repeat (first | refine awp_seq ?_ | refine awp_block ?_ | (refine awp_runG [0, 1, 3, 4, 5, 6, 7, 8, 9, 10, 11, 12, 16, 21, 25, 61, 81, 104] hX ?_; (simp [go_sem]; try (refine ⟨by kernel_rfl, ?_⟩))) | (refine awp_drawnG [0, 1, 3, 4, 5, 6, 7, 8, 9, 10, 11, 12, 16, 21, 25, 61, 81, 104] hX mixed ?_; (simp [go_sem]; try (refine ⟨by kernel_rfl, ?_⟩))) | (refine awp_ret ?_; (simp [go_sem]; try (refine ⟨by kernel_rfl, ?_⟩))) | (refine awp_skip ?_; (simp [go_sem]; try (refine ⟨by kernel_rfl, ?_⟩))) | (refine awp_exit ?_; (simp [go_sem]; try (refine ⟨by kernel_rfl, ?_⟩)))))
  · have hf : few L 40 = true := by simpa using hb
    have h40 := few_len hf
    (repeat (first | refine awp_seq ?_ | refine awp_block ?_ | (refine awp_runG [0, 1, 3, 4, 5, 6, 7, 8, 9, 10, 11, 12, 16, 21, 25, 61, 81, 104] hX ?_; (simp [go_sem]; try (refine ⟨by kernel_rfl, ?_⟩))) | (refine awp_drawnG [0, 1, 3, 4, 5, 6, 7, 8, 9, 10, 11, 12, 16, 21, 25, 61, 81, 104] hX mixed ?_; (simp [go_sem]; try (refine ⟨by kernel_rfl, ?_⟩))) | (refine awp_ret ?_; (simp [go_sem]; try (refine ⟨by kernel_rfl, ?_⟩))) | (refine awp_skip ?_; (simp [go_sem]; try (refine ⟨by kernel_rfl, ?_⟩))) | (refine awp_exit ?_; (simp [go_sem]; try (refine ⟨by kernel_rfl, ?_⟩)))))
    first | refine callH_intro [] (new_m) (by simp [go_sem]) ?_ | refine callTQ_intro [] (new_m) (by simp [go_sem]) ?_ | refine callTE_intro [] (new_m) (by simp [go_sem]) ?_
    try (simp [go_sem]; try (refine ⟨by kernel_rfl, ?_⟩))
    (repeat (first | refine awp_seq ?_ | refine awp_block ?_ | (refine awp_runG [0, 1, 3, 4, 5, 6, 7, 8, 9, 10, 11, 12, 16, 21, 25, 61, 81, 104] hX ?_; (simp [go_sem]; try (refine ⟨by kernel_rfl, ?_⟩))) | (refine awp_drawnG [0, 1, 3, 4, 5, 6, 7, 8, 9, 10, 11, 12, 16, 21, 25, 61, 81, 104] hX mixed ?_; (simp [go_sem]; try (refine ⟨by kernel_rfl, ?_⟩))) | (refine awp_ret ?_; (simp [go_sem]; try (refine ⟨by kernel_rfl, ?_⟩))) | (refine awp_skip ?_; (simp [go_sem]; try (refine ⟨by kernel_rfl, ?_⟩))) | (refine awp_exit ?_; (simp [go_sem]; try (refine ⟨by kernel_rfl, ?_⟩)))))
    first | refine callH_intro [] (rnew_m) (by simp [go_sem]) ?_ | refine callTQ_intro [] (rnew_m) (by simp [go_sem]) ?_ | refine callTE_intro [] (rnew_m) (by simp [go_sem]) ?_
    try (simp [go_sem]; try (refine ⟨by kernel_rfl, ?_⟩))
    (repeat (first | refine awp_seq ?_ | refine awp_block ?_ | (refine awp_runG [0, 1, 3, 4, 5, 6, 7, 8, 9, 10, 11, 12, 16, 21, 25, 61, 81, 104] hX ?_; (simp [go_sem]; try (refine ⟨by kernel_rfl, ?_⟩))) | (refine awp_drawnG [0, 1, 3, 4, 5, 6, 7, 8, 9, 10, 11, 12, 16, 21, 25, 61, 81, 104] hX mixed ?_; (simp [go_sem]; try (refine ⟨by kernel_rfl, ?_⟩))) | (refine awp_ret ?_; (simp [go_sem]; try (refine ⟨by kernel_rfl, ?_⟩))) | (refine awp_skip ?_; (simp [go_sem]; try (refine ⟨by kernel_rfl, ?_⟩))) | (refine awp_exit ?_; (simp [go_sem]; try (refine ⟨by kernel_rfl, ?_⟩)))))
    refine awp_cond (b := false) (by simp [go_sem]) (fun h => by cases h) (fun _ => ?_)
    (repeat (first | refine awp_seq ?_ | refine awp_block ?_ | (refine awp_runG [0, 1, 3, 4, 5, 6, 7, 8, 9, 10, 11, 12, 16, 21, 25, 61, 81, 104] hX ?_; (simp [go_sem]; try (refine ⟨by kernel_rfl, ?_⟩))) | (refine awp_drawnG [0, 1, 3, 4, 5, 6, 7, 8, 9, 10, 11, 12, 16, 21, 25, 61, 81, 104] hX mixed ?_; (simp [go_sem]; try (refine ⟨by kernel_rfl, ?_⟩))) | (refine awp_ret ?_; (simp [go_sem]; try (refine ⟨by kernel_rfl, ?_⟩))) | (refine awp_skip ?_; (simp [go_sem]; try (refine ⟨by kernel_rfl, ?_⟩))) | (refine awp_exit ?_; (simp [go_sem]; try (refine ⟨by kernel_rfl, ?_⟩)))))
    refine awp_loop (fun k : Nat => ⟨mkE [(0, .sl (L.map eo)), (3, .el 0 3 0 0), (4, bb false), (5, bb true), (6, .el 1 2 0 0), (7, .el 4 1 0 0), (8, ii k)], [.row ⟨24, 3, [go s]⟩, .row ⟨48, 2, [.agg [.ow 2, .ow 3]]⟩, .row ⟨32, 2, (ent (L.take k)).map eo⟩, .map ⟨32, 3, marks 0 (ent (L.take k))⟩, .row ⟨53, 1, [.agg [.ow 5]]⟩, .row ⟨32, 2, (ent (L.take k)).map eo⟩]⟩) (fun k => k ≤ L.length) (fun k => L.length - k) 0 ?_ ?_ ?_
    · refine sub_of _ [.old 0 ⟨24, 3, [go s]⟩, .old 1 ⟨48, 2, [.agg [.ow 2, .ow 3]]⟩, .old 2 ⟨32, 2, ([]).map eo⟩, .oldM 3 ⟨32, 3, marks 0 ([])⟩, .old 4 ⟨53, 1, [.agg [.ow 5]]⟩, .old 5 ⟨32, 2, ([]).map eo⟩] (by simp [go_sem, ent_nil]) ?_
      simp [go_sem]
    · simp
    · intro k hk
      (repeat (first | refine awp_seq ?_ | refine awp_block ?_ | (refine awp_runG [0, 1, 3, 4, 5, 6, 7, 8, 9, 10, 11, 12, 16, 21, 25, 61, 81, 104] hX ?_; (simp [go_sem]; try (refine ⟨by kernel_rfl, ?_⟩))) | (refine awp_drawnG [0, 1, 3, 4, 5, 6, 7, 8, 9, 10, 11, 12, 16, 21, 25, 61, 81, 104] hX mixed ?_; (simp [go_sem]; try (refine ⟨by kernel_rfl, ?_⟩))) | (refine awp_ret ?_; (simp [go_sem]; try (refine ⟨by kernel_rfl, ?_⟩))) | (refine awp_skip ?_; (simp [go_sem]; try (refine ⟨by kernel_rfl, ?_⟩))) | (refine awp_exit ?_; (simp [go_sem]; try (refine ⟨by kernel_rfl, ?_⟩)))))
      refine awp_cond (b := decide (k < L.length)) (by simp [go_sem]) (fun hc => ?_) (fun hc => ?_)
      · simp at hc
        have hlen := ent_len L k hk
        have hlen2 := ent_len L (k + 1) (by omega)
        have hv := valid_m (ent (L.take (k + 1))) s
        have hr := rvalid_m (ent (L.take (k + 1))) s
        rw [holds_eq (ent_nodup L (k + 1) (by omega))] at hv
        have h1 := sign_m (ent (L.take k)) (by omega) L[k].key L[k].text
        have h2 := rsign_m (ent (L.take k)) (by omega) L[k].key L[k].text
        rw [show sigL (ent (L.take k)) L[k].key L[k].text = ent (L.take (k + 1)) from (ent_succ hc).symm] at h1 h2
        (repeat (first | refine awp_seq ?_ | refine awp_block ?_ | (refine awp_runG [0, 1, 3, 4, 5, 6, 7, 8, 9, 10, 11, 12, 16, 21, 25, 61, 81, 104] hX ?_; (simp [go_sem, hc]; try (refine ⟨by kernel_rfl, ?_⟩))) | (refine awp_drawnG [0, 1, 3, 4, 5, 6, 7, 8, 9, 10, 11, 12, 16, 21, 25, 61, 81, 104] hX mixed ?_; (simp [go_sem, hc]; try (refine ⟨by kernel_rfl, ?_⟩))) | (refine awp_ret ?_; (simp [go_sem, hc]; try (refine ⟨by kernel_rfl, ?_⟩))) | (refine awp_skip ?_; (simp [go_sem, hc]; try (refine ⟨by kernel_rfl, ?_⟩))) | (refine awp_exit ?_; (simp [go_sem, hc]; try (refine ⟨by kernel_rfl, ?_⟩)))))
        first | refine callH_intro [1, 2, 3] (h1) (by simp [go_sem]) ?_ | refine callTQ_intro [1, 2, 3] (h1) (by simp [go_sem]) ?_ | refine callTE_intro [1, 2, 3] (h1) (by simp [go_sem]) ?_
        try (simp [go_sem, hc]; try (refine ⟨by kernel_rfl, ?_⟩))
        first | refine callH_intro [4, 5] (h2) (by simp [go_sem]) ?_ | refine callTQ_intro [4, 5] (h2) (by simp [go_sem]) ?_ | refine callTE_intro [4, 5] (h2) (by simp [go_sem]) ?_
        try (simp [go_sem]; try (refine ⟨by kernel_rfl, ?_⟩))
        first | refine callHG_intro [1, 6, 3] (fun hg => hv) (by simp [go_sem]) (by simp [go_sem]) ?_ | refine callHGT_intro [1, 6, 3] (fun hg => hv) (by simp [go_sem]) ?_
        try (simp [go_sem]; try (refine ⟨by kernel_rfl, ?_⟩))
        first | refine callHG_intro [4, 7] (fun hg => hr) (by simp [go_sem]) (by simp [go_sem]) ?_ | refine callHGT_intro [4, 7] (fun hg => hr) (by simp [go_sem]) ?_
        try (simp [go_sem]; try (refine ⟨by kernel_rfl, ?_⟩))
        refine awp_cond (b := false) (by simp [go_sem]) (fun h => by cases h) (fun _ => ?_)
        (repeat (first | refine awp_seq ?_ | refine awp_block ?_ | (refine awp_runG [0, 1, 3, 4, 5, 6, 7, 8, 9, 10, 11, 12, 16, 21, 25, 61, 81, 104] hX ?_; (simp [go_sem]; (try simp (disch := omega) only [w64, td, tm]); try (refine ⟨by kernel_rfl, ?_⟩))) | (refine awp_drawnG [0, 1, 3, 4, 5, 6, 7, 8, 9, 10, 11, 12, 16, 21, 25, 61, 81, 104] hX mixed ?_; (simp [go_sem]; (try simp (disch := omega) only [w64, td, tm]); try (refine ⟨by kernel_rfl, ?_⟩))) | (refine awp_ret ?_; (simp [go_sem]; (try simp (disch := omega) only [w64, td, tm]); try (refine ⟨by kernel_rfl, ?_⟩))) | (refine awp_skip ?_; (simp [go_sem]; (try simp (disch := omega) only [w64, td, tm]); try (refine ⟨by kernel_rfl, ?_⟩))) | (refine awp_exit ?_; (simp [go_sem]; (try simp (disch := omega) only [w64, td, tm]); try (refine ⟨by kernel_rfl, ?_⟩)))))
        refine ⟨k + 1, by omega, by omega, ?_⟩
        refine sub_of _ [.old 0 ⟨24, 3, [go s]⟩, .old 1 ⟨48, 2, [.agg [.ow 2, .ow 3]]⟩, .old 6 ⟨32, 2, (ent (L.take (k + 1))).map eo⟩, .oldM 3 ⟨32, 3, marks 0 (ent (L.take (k + 1)))⟩, .old 4 ⟨53, 1, [.agg [.ow 5]]⟩, .old 7 ⟨32, 2, (ent (L.take (k + 1))).map eo⟩] (by simp [go_sem]) ?_
        simp [go_sem]
      · have hkl : k = L.length := by simp at hc; omega
        subst hkl
        have hn := ent_nodup L L.length (Nat.le_refl _)
        have hlen := ent_le L
        rw [List.take_length] at hn ⊢
        have hv := valid_m (ent L) s
        rw [holds_eq hn] at hv
        have ho := open_m L (by omega)
        have hro := ropen_m L (by omega)
        by_cases hE : openE L = 0
        · have hb0 : badK L = false := by
            cases hb : badK L with
            | false => rfl
            | true => simp [openE, hb] at hE
          have hall : ent L = L := by
            have h1 : ¬ (ent L).length < L.length := by
              intro h; simp [openE, hb0, h] at hE
            have := ent_all (L := L) L.length (Nat.le_refl _) (by rw [List.take_length]; exact hb0) (by rw [List.take_length]; exact h1)
            rwa [List.take_length] at this
          rw [show openR L = .tup [.el 0 2 0 0, ii 0] by simp [openR, hE], show openH L = ringH (ent L) by simp [openH, hE]] at ho
          rw [show ropenR L = .tup [.el 0 1 0 0, ii 0] by simp [ropenR, hE], show ropenH L = refH (ent L) by simp [ropenH, hE, hall]] at hro
          (repeat (first | refine awp_seq ?_ | refine awp_block ?_ | (refine awp_runG [0, 1, 3, 4, 5, 6, 7, 8, 9, 10, 11, 12, 16, 21, 25, 61, 81, 104] hX ?_; (simp [go_sem]; try (refine ⟨by kernel_rfl, ?_⟩))) | (refine awp_drawnG [0, 1, 3, 4, 5, 6, 7, 8, 9, 10, 11, 12, 16, 21, 25, 61, 81, 104] hX mixed ?_; (simp [go_sem]; try (refine ⟨by kernel_rfl, ?_⟩))) | (refine awp_ret ?_; (simp [go_sem]; try (refine ⟨by kernel_rfl, ?_⟩))) | (refine awp_skip ?_; (simp [go_sem]; try (refine ⟨by kernel_rfl, ?_⟩))) | (refine awp_exit ?_; (simp [go_sem]; try (refine ⟨by kernel_rfl, ?_⟩)))))
          first | refine callH_intro [] (ho) (by simp [go_sem]) ?_ | refine callTQ_intro [] (ho) (by simp [go_sem]) ?_ | refine callTE_intro [] (ho) (by simp [go_sem]) ?_
          try (simp [go_sem]; try (refine ⟨by kernel_rfl, ?_⟩))
          (repeat (first | refine awp_seq ?_ | refine awp_block ?_ | (refine awp_runG [0, 1, 3, 4, 5, 6, 7, 8, 9, 10, 11, 12, 16, 21, 25, 61, 81, 104] hX ?_; (simp [go_sem]; try (refine ⟨by kernel_rfl, ?_⟩))) | (refine awp_drawnG [0, 1, 3, 4, 5, 6, 7, 8, 9, 10, 11, 12, 16, 21, 25, 61, 81, 104] hX mixed ?_; (simp [go_sem]; try (refine ⟨by kernel_rfl, ?_⟩))) | (refine awp_ret ?_; (simp [go_sem]; try (refine ⟨by kernel_rfl, ?_⟩))) | (refine awp_skip ?_; (simp [go_sem]; try (refine ⟨by kernel_rfl, ?_⟩))) | (refine awp_exit ?_; (simp [go_sem]; try (refine ⟨by kernel_rfl, ?_⟩)))))
          first | refine callH_intro [] (hro) (by simp [go_sem]) ?_ | refine callTQ_intro [] (hro) (by simp [go_sem]) ?_ | refine callTE_intro [] (hro) (by simp [go_sem]) ?_
          try (simp [go_sem]; try (refine ⟨by kernel_rfl, ?_⟩))
          (repeat (first | refine awp_seq ?_ | refine awp_block ?_ | (refine awp_runG [0, 1, 3, 4, 5, 6, 7, 8, 9, 10, 11, 12, 16, 21, 25, 61, 81, 104] hX ?_; (simp [go_sem]; try (refine ⟨by kernel_rfl, ?_⟩))) | (refine awp_drawnG [0, 1, 3, 4, 5, 6, 7, 8, 9, 10, 11, 12, 16, 21, 25, 61, 81, 104] hX mixed ?_; (simp [go_sem]; try (refine ⟨by kernel_rfl, ?_⟩))) | (refine awp_ret ?_; (simp [go_sem]; try (refine ⟨by kernel_rfl, ?_⟩))) | (refine awp_skip ?_; (simp [go_sem]; try (refine ⟨by kernel_rfl, ?_⟩))) | (refine awp_exit ?_; (simp [go_sem]; try (refine ⟨by kernel_rfl, ?_⟩)))))
          refine awp_cond (b := false) (by simp [go_sem]) (fun h => by cases h) (fun _ => ?_)
          (repeat (first | refine awp_seq ?_ | refine awp_block ?_ | (refine awp_runG [0, 1, 3, 4, 5, 6, 7, 8, 9, 10, 11, 12, 16, 21, 25, 61, 81, 104] hX ?_; (simp [go_sem]; try (refine ⟨by kernel_rfl, ?_⟩))) | (refine awp_drawnG [0, 1, 3, 4, 5, 6, 7, 8, 9, 10, 11, 12, 16, 21, 25, 61, 81, 104] hX mixed ?_; (simp [go_sem]; try (refine ⟨by kernel_rfl, ?_⟩))) | (refine awp_ret ?_; (simp [go_sem]; try (refine ⟨by kernel_rfl, ?_⟩))) | (refine awp_skip ?_; (simp [go_sem]; try (refine ⟨by kernel_rfl, ?_⟩))) | (refine awp_exit ?_; (simp [go_sem]; try (refine ⟨by kernel_rfl, ?_⟩)))))
          first | refine callHG_intro [6, 7, 8] (fun hg => all_m (ent L) (by omega)) (by simp [go_sem]) (by simp [go_sem]) ?_ | refine callHGT_intro [6, 7, 8] (fun hg => all_m (ent L) (by omega)) (by simp [go_sem]) ?_
          try (simp [go_sem]; try (refine ⟨by kernel_rfl, ?_⟩))
          first | refine callHG_intro [9, 10] (fun hg => rall_m (ent L) (by omega)) (by simp [go_sem]) (by simp [go_sem]) ?_ | refine callHGT_intro [9, 10] (fun hg => rall_m (ent L) (by omega)) (by simp [go_sem]) ?_
          try (simp [go_sem]; try (refine ⟨by kernel_rfl, ?_⟩))
          first | refine callG_intro (fun hg => same_m (ent L) (ent L) (by omega)) rfl (by simp [go_sem]) rfl ?_ | refine callGT_intro (fun hg => same_m (ent L) (ent L) (by omega)) rfl (by simp [go_sem]) rfl ?_
          try (simp [go_sem]; try (refine ⟨by kernel_rfl, ?_⟩))
          first | refine callHG_intro [6, 7, 8] (fun hg => hv) (by simp [go_sem]) (by simp [go_sem]) ?_ | refine callHGT_intro [6, 7, 8] (fun hg => hv) (by simp [go_sem]) ?_
          try (simp [go_sem]; try (refine ⟨by kernel_rfl, ?_⟩))
          first | refine callHG_intro [9, 10] (fun hg => rvalid_m (ent L) s) (by simp [go_sem]) (by simp [go_sem]) ?_ | refine callHGT_intro [9, 10] (fun hg => rvalid_m (ent L) s) (by simp [go_sem]) ?_
          try (simp [go_sem]; try (refine ⟨by kernel_rfl, ?_⟩))
          refine awp_cond (b := false) (by simp [go_sem]) (fun h => by cases h) (fun _ => ?_)
          (repeat (first | refine awp_seq ?_ | refine awp_block ?_ | (refine awp_runG [0, 1, 3, 4, 5, 6, 7, 8, 9, 10, 11, 12, 16, 21, 25, 61, 81, 104] hX ?_; (simp [go_sem]; try (refine ⟨by kernel_rfl, ?_⟩))) | (refine awp_drawnG [0, 1, 3, 4, 5, 6, 7, 8, 9, 10, 11, 12, 16, 21, 25, 61, 81, 104] hX mixed ?_; (simp [go_sem]; try (refine ⟨by kernel_rfl, ?_⟩))) | (refine awp_ret ?_; (simp [go_sem]; try (refine ⟨by kernel_rfl, ?_⟩))) | (refine awp_skip ?_; (simp [go_sem]; try (refine ⟨by kernel_rfl, ?_⟩))) | (refine awp_exit ?_; (simp [go_sem]; try (refine ⟨by kernel_rfl, ?_⟩)))))
          first | refine callHG_intro [1, 2, 3] (fun hg => all_m (ent L) (by omega)) (by simp [go_sem]) (by simp [go_sem]) ?_ | refine callHGT_intro [1, 2, 3] (fun hg => all_m (ent L) (by omega)) (by simp [go_sem]) ?_
          try (simp [go_sem]; try (refine ⟨by kernel_rfl, ?_⟩))
          (repeat (first | refine awp_seq ?_ | refine awp_block ?_ | (refine awp_runG [0, 1, 3, 4, 5, 6, 7, 8, 9, 10, 11, 12, 16, 21, 25, 61, 81, 104] hX ?_; (simp [go_sem]; try (refine ⟨by kernel_rfl, ?_⟩))) | (refine awp_drawnG [0, 1, 3, 4, 5, 6, 7, 8, 9, 10, 11, 12, 16, 21, 25, 61, 81, 104] hX mixed ?_; (simp [go_sem]; try (refine ⟨by kernel_rfl, ?_⟩))) | (refine awp_ret ?_; (simp [go_sem]; try (refine ⟨by kernel_rfl, ?_⟩))) | (refine awp_skip ?_; (simp [go_sem]; try (refine ⟨by kernel_rfl, ?_⟩))) | (refine awp_exit ?_; (simp [go_sem]; try (refine ⟨by kernel_rfl, ?_⟩)))))
          first | refine callHG_intro [4, 5] (fun hg => rall_m (ent L) (by omega)) (by simp [go_sem]) (by simp [go_sem]) ?_ | refine callHGT_intro [4, 5] (fun hg => rall_m (ent L) (by omega)) (by simp [go_sem]) ?_
          try (simp [go_sem]; try (refine ⟨by kernel_rfl, ?_⟩))
          (repeat (first | refine awp_seq ?_ | refine awp_block ?_ | (refine awp_runG [0, 1, 3, 4, 5, 6, 7, 8, 9, 10, 11, 12, 16, 21, 25, 61, 81, 104] hX ?_; (simp [go_sem]; try (refine ⟨by kernel_rfl, ?_⟩))) | (refine awp_drawnG [0, 1, 3, 4, 5, 6, 7, 8, 9, 10, 11, 12, 16, 21, 25, 61, 81, 104] hX mixed ?_; (simp [go_sem]; try (refine ⟨by kernel_rfl, ?_⟩))) | (refine awp_ret ?_; (simp [go_sem]; try (refine ⟨by kernel_rfl, ?_⟩))) | (refine awp_skip ?_; (simp [go_sem]; try (refine ⟨by kernel_rfl, ?_⟩))) | (refine awp_exit ?_; (simp [go_sem]; try (refine ⟨by kernel_rfl, ?_⟩)))))
          first | refine callG_intro (fun hg => same_m (ent L) (ent L) (by omega)) rfl (by simp [go_sem]) rfl ?_ | refine callGT_intro (fun hg => same_m (ent L) (ent L) (by omega)) rfl (by simp [go_sem]) rfl ?_
          try (simp [go_sem]; try (refine ⟨by kernel_rfl, ?_⟩))
          (repeat (first | refine awp_seq ?_ | refine awp_block ?_ | (refine awp_runG [0, 1, 3, 4, 5, 6, 7, 8, 9, 10, 11, 12, 16, 21, 25, 61, 81, 104] hX ?_; (simp [go_sem]; try (refine ⟨by kernel_rfl, ?_⟩))) | (refine awp_drawnG [0, 1, 3, 4, 5, 6, 7, 8, 9, 10, 11, 12, 16, 21, 25, 61, 81, 104] hX mixed ?_; (simp [go_sem]; try (refine ⟨by kernel_rfl, ?_⟩))) | (refine awp_ret ?_; (simp [go_sem]; try (refine ⟨by kernel_rfl, ?_⟩))) | (refine awp_skip ?_; (simp [go_sem]; try (refine ⟨by kernel_rfl, ?_⟩))) | (refine awp_exit ?_; (simp [go_sem]; try (refine ⟨by kernel_rfl, ?_⟩)))))
        · rw [show openR L = .tup [.v (.pointer none), ii (openE L)] by simp [openR, hE], show openH L = [] by simp [openH, hE]] at ho
          rw [show ropenR L = .tup [.v (.pointer none), ii (openE L)] by simp [ropenR, hE], show ropenH L = [] by simp [ropenH, hE]] at hro
          (repeat (first | refine awp_seq ?_ | refine awp_block ?_ | (refine awp_runG [0, 1, 3, 4, 5, 6, 7, 8, 9, 10, 11, 12, 16, 21, 25, 61, 81, 104] hX ?_; (simp [go_sem]; try (refine ⟨by kernel_rfl, ?_⟩))) | (refine awp_drawnG [0, 1, 3, 4, 5, 6, 7, 8, 9, 10, 11, 12, 16, 21, 25, 61, 81, 104] hX mixed ?_; (simp [go_sem]; try (refine ⟨by kernel_rfl, ?_⟩))) | (refine awp_ret ?_; (simp [go_sem]; try (refine ⟨by kernel_rfl, ?_⟩))) | (refine awp_skip ?_; (simp [go_sem]; try (refine ⟨by kernel_rfl, ?_⟩))) | (refine awp_exit ?_; (simp [go_sem]; try (refine ⟨by kernel_rfl, ?_⟩)))))
          first | refine callH_intro [] (ho) (by simp [go_sem]) ?_ | refine callTQ_intro [] (ho) (by simp [go_sem]) ?_ | refine callTE_intro [] (ho) (by simp [go_sem]) ?_
          try (simp [go_sem]; try (refine ⟨by kernel_rfl, ?_⟩))
          (repeat (first | refine awp_seq ?_ | refine awp_block ?_ | (refine awp_runG [0, 1, 3, 4, 5, 6, 7, 8, 9, 10, 11, 12, 16, 21, 25, 61, 81, 104] hX ?_; (simp [go_sem]; try (refine ⟨by kernel_rfl, ?_⟩))) | (refine awp_drawnG [0, 1, 3, 4, 5, 6, 7, 8, 9, 10, 11, 12, 16, 21, 25, 61, 81, 104] hX mixed ?_; (simp [go_sem]; try (refine ⟨by kernel_rfl, ?_⟩))) | (refine awp_ret ?_; (simp [go_sem]; try (refine ⟨by kernel_rfl, ?_⟩))) | (refine awp_skip ?_; (simp [go_sem]; try (refine ⟨by kernel_rfl, ?_⟩))) | (refine awp_exit ?_; (simp [go_sem]; try (refine ⟨by kernel_rfl, ?_⟩)))))
          first | refine callH_intro [] (hro) (by simp [go_sem]) ?_ | refine callTQ_intro [] (hro) (by simp [go_sem]) ?_ | refine callTE_intro [] (hro) (by simp [go_sem]) ?_
          try (simp [go_sem]; try (refine ⟨by kernel_rfl, ?_⟩))
          (repeat (first | refine awp_seq ?_ | refine awp_block ?_ | (refine awp_runG [0, 1, 3, 4, 5, 6, 7, 8, 9, 10, 11, 12, 16, 21, 25, 61, 81, 104] hX ?_; (simp [go_sem]; try (refine ⟨by kernel_rfl, ?_⟩))) | (refine awp_drawnG [0, 1, 3, 4, 5, 6, 7, 8, 9, 10, 11, 12, 16, 21, 25, 61, 81, 104] hX mixed ?_; (simp [go_sem]; try (refine ⟨by kernel_rfl, ?_⟩))) | (refine awp_ret ?_; (simp [go_sem]; try (refine ⟨by kernel_rfl, ?_⟩))) | (refine awp_skip ?_; (simp [go_sem]; try (refine ⟨by kernel_rfl, ?_⟩))) | (refine awp_exit ?_; (simp [go_sem]; try (refine ⟨by kernel_rfl, ?_⟩)))))
          refine awp_cond (b := false) (by simp [go_sem]) (fun h => by cases h) (fun _ => ?_)
          (repeat (first | refine awp_seq ?_ | refine awp_block ?_ | (refine awp_runG [0, 1, 3, 4, 5, 6, 7, 8, 9, 10, 11, 12, 16, 21, 25, 61, 81, 104] hX ?_; (simp [go_sem]; try (refine ⟨by kernel_rfl, ?_⟩))) | (refine awp_drawnG [0, 1, 3, 4, 5, 6, 7, 8, 9, 10, 11, 12, 16, 21, 25, 61, 81, 104] hX mixed ?_; (simp [go_sem]; try (refine ⟨by kernel_rfl, ?_⟩))) | (refine awp_ret ?_; (simp [go_sem]; try (refine ⟨by kernel_rfl, ?_⟩))) | (refine awp_skip ?_; (simp [go_sem]; try (refine ⟨by kernel_rfl, ?_⟩))) | (refine awp_exit ?_; (simp [go_sem]; try (refine ⟨by kernel_rfl, ?_⟩)))))
          first | refine callG_intro (fun hg => (show Means true Try.prog _ _ (.sl []) by cases hg)) rfl (by simp [go_sem]) rfl ?_ | refine callGT_intro (fun hg => (show Means true Try.prog _ _ (.sl []) by cases hg)) rfl (by simp [go_sem]) rfl ?_
          try (simp [go_sem]; try (refine ⟨by kernel_rfl, ?_⟩))
          first | refine callG_intro (fun hg => (show Means true Try.prog _ _ (.sl []) by cases hg)) rfl (by simp [go_sem]) rfl ?_ | refine callGT_intro (fun hg => (show Means true Try.prog _ _ (.sl []) by cases hg)) rfl (by simp [go_sem]) rfl ?_
          try (simp [go_sem]; try (refine ⟨by kernel_rfl, ?_⟩))
          first | refine callG_intro (fun hg => (show Means true Try.prog _ _ (bb false) by cases hg)) rfl (by simp [go_sem]) rfl ?_ | refine callGT_intro (fun hg => (show Means true Try.prog _ _ (bb false) by cases hg)) rfl (by simp [go_sem]) rfl ?_
          try (simp [go_sem]; try (refine ⟨by kernel_rfl, ?_⟩))
          first | refine callG_intro (fun hg => (show Means true Try.prog _ _ (bb false) by cases hg)) rfl (by simp [go_sem]) rfl ?_ | refine callGT_intro (fun hg => (show Means true Try.prog _ _ (bb false) by cases hg)) rfl (by simp [go_sem]) rfl ?_
          try (simp [go_sem]; try (refine ⟨by kernel_rfl, ?_⟩))
          first | refine callG_intro (fun hg => (show Means true Try.prog _ _ (bb false) by cases hg)) rfl (by simp [go_sem]) rfl ?_ | refine callGT_intro (fun hg => (show Means true Try.prog _ _ (bb false) by cases hg)) rfl (by simp [go_sem]) rfl ?_
          try (simp [go_sem]; try (refine ⟨by kernel_rfl, ?_⟩))
          refine awp_cond (b := false) (by simp [go_sem]) (fun h => by cases h) (fun _ => ?_)
          (repeat (first | refine awp_seq ?_ | refine awp_block ?_ | (refine awp_runG [0, 1, 3, 4, 5, 6, 7, 8, 9, 10, 11, 12, 16, 21, 25, 61, 81, 104] hX ?_; (simp [go_sem]; try (refine ⟨by kernel_rfl, ?_⟩))) | (refine awp_drawnG [0, 1, 3, 4, 5, 6, 7, 8, 9, 10, 11, 12, 16, 21, 25, 61, 81, 104] hX mixed ?_; (simp [go_sem]; try (refine ⟨by kernel_rfl, ?_⟩))) | (refine awp_ret ?_; (simp [go_sem]; try (refine ⟨by kernel_rfl, ?_⟩))) | (refine awp_skip ?_; (simp [go_sem]; try (refine ⟨by kernel_rfl, ?_⟩))) | (refine awp_exit ?_; (simp [go_sem]; try (refine ⟨by kernel_rfl, ?_⟩)))))
          first | refine callHG_intro [1, 2, 3] (fun hg => all_m (ent L) (by omega)) (by simp [go_sem]) (by simp [go_sem]) ?_ | refine callHGT_intro [1, 2, 3] (fun hg => all_m (ent L) (by omega)) (by simp [go_sem]) ?_
          try (simp [go_sem]; try (refine ⟨by kernel_rfl, ?_⟩))
          (repeat (first | refine awp_seq ?_ | refine awp_block ?_ | (refine awp_runG [0, 1, 3, 4, 5, 6, 7, 8, 9, 10, 11, 12, 16, 21, 25, 61, 81, 104] hX ?_; (simp [go_sem]; try (refine ⟨by kernel_rfl, ?_⟩))) | (refine awp_drawnG [0, 1, 3, 4, 5, 6, 7, 8, 9, 10, 11, 12, 16, 21, 25, 61, 81, 104] hX mixed ?_; (simp [go_sem]; try (refine ⟨by kernel_rfl, ?_⟩))) | (refine awp_ret ?_; (simp [go_sem]; try (refine ⟨by kernel_rfl, ?_⟩))) | (refine awp_skip ?_; (simp [go_sem]; try (refine ⟨by kernel_rfl, ?_⟩))) | (refine awp_exit ?_; (simp [go_sem]; try (refine ⟨by kernel_rfl, ?_⟩)))))
          first | refine callHG_intro [4, 5] (fun hg => rall_m (ent L) (by omega)) (by simp [go_sem]) (by simp [go_sem]) ?_ | refine callHGT_intro [4, 5] (fun hg => rall_m (ent L) (by omega)) (by simp [go_sem]) ?_
          try (simp [go_sem]; try (refine ⟨by kernel_rfl, ?_⟩))
          (repeat (first | refine awp_seq ?_ | refine awp_block ?_ | (refine awp_runG [0, 1, 3, 4, 5, 6, 7, 8, 9, 10, 11, 12, 16, 21, 25, 61, 81, 104] hX ?_; (simp [go_sem]; try (refine ⟨by kernel_rfl, ?_⟩))) | (refine awp_drawnG [0, 1, 3, 4, 5, 6, 7, 8, 9, 10, 11, 12, 16, 21, 25, 61, 81, 104] hX mixed ?_; (simp [go_sem]; try (refine ⟨by kernel_rfl, ?_⟩))) | (refine awp_ret ?_; (simp [go_sem]; try (refine ⟨by kernel_rfl, ?_⟩))) | (refine awp_skip ?_; (simp [go_sem]; try (refine ⟨by kernel_rfl, ?_⟩))) | (refine awp_exit ?_; (simp [go_sem]; try (refine ⟨by kernel_rfl, ?_⟩)))))
          first | refine callG_intro (fun hg => same_m (ent L) (ent L) (by omega)) rfl (by simp [go_sem]) rfl ?_ | refine callGT_intro (fun hg => same_m (ent L) (ent L) (by omega)) rfl (by simp [go_sem]) rfl ?_
          try (simp [go_sem]; try (refine ⟨by kernel_rfl, ?_⟩))
          (repeat (first | refine awp_seq ?_ | refine awp_block ?_ | (refine awp_runG [0, 1, 3, 4, 5, 6, 7, 8, 9, 10, 11, 12, 16, 21, 25, 61, 81, 104] hX ?_; (simp [go_sem]; try (refine ⟨by kernel_rfl, ?_⟩))) | (refine awp_drawnG [0, 1, 3, 4, 5, 6, 7, 8, 9, 10, 11, 12, 16, 21, 25, 61, 81, 104] hX mixed ?_; (simp [go_sem]; try (refine ⟨by kernel_rfl, ?_⟩))) | (refine awp_ret ?_; (simp [go_sem]; try (refine ⟨by kernel_rfl, ?_⟩))) | (refine awp_skip ?_; (simp [go_sem]; try (refine ⟨by kernel_rfl, ?_⟩))) | (refine awp_exit ?_; (simp [go_sem]; try (refine ⟨by kernel_rfl, ?_⟩)))))

end Go.Proofs.Ytgpjhmhoagokpaa
