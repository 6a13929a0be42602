/-
  Layer 35: juries are drawn.
-/
import Derived.Test.YtflcmfeafiippaaJuryC
set_option linter.all false
namespace Go.Proofs.Ytflcmfeafiippaa
open Go.RowKit Go.Ab
attribute [local irreducible] AWP Go.Ab.Sub Means MeansH CallK CallG CallT CallGT

theorem jbad_false {M : List Int} {s : Int} (h : jbad M s = false) : okM M = true ∧ 1 ≤ s ∧ s ≤ 60 ∧ 0 < M.length ∧ M.length ≤ 60 := by
  simp [jbad] at h
  have h2 := h.1.1
  simp [okM] at h2
  exact ⟨h.1.1, by omega, by omega, by first | exact h2.1.1.1 | exact List.length_pos_iff.2 h2.1.1.1, by omega⟩
/-- The first k that are drawn. -/
def outK (C D : List Int) (k : Nat) : List Int := (D.take k).map fun i => C.getD i.toNat 0
theorem outK_0 (C D : List Int) : outK C D 0 = [] := by simp [outK]
theorem outK_n (C D : List Int) : outK C D D.length = D.map fun i => C.getD i.toNat 0 := by rw [outK, List.take_length]
theorem outK_succ {C D : List Int} {k : Nat} (h : k < D.length) : outK C D (k + 1) = outK C D k ++ [C.getD D[k].toNat 0] := by
  rw [outK, List.take_succ_eq_append_getElem h, List.map_append]; rfl
theorem outK_len (C D : List Int) (k : Nat) : (outK C D k).length ≤ D.length := by simp [outK]; omega
theorem first_bad {L B : List Int} (h : ¬ ∀ x ∈ L, x ∉ B) : ∃ f, ∃ hf : f < L.length, (∀ x ∈ L.take f, x ∉ B) ∧ L[f] ∈ B := by
  have : L.findIdx (fun x => decide (x ∈ B)) < L.length := by
    rw [List.findIdx_lt_length]
    refine Classical.byContradiction fun hn => h fun x hx hb => hn ⟨x, hx, by simpa using hb⟩
  refine ⟨_, this, fun x hx hb => ?_, by simpa using List.findIdx_getElem (w := this)⟩
  obtain ⟨j, hj, rfl⟩ := List.mem_take_iff_getElem.1 hx
  have := List.not_of_lt_findIdx (p := fun x => decide (x ∈ B)) (xs := L) (i := j) (by omega)
  simp at this
  exact this hb

set_option maxHeartbeats 4000000 in
set_option maxRecDepth 20000 in
theorem jdraw_m (M : List Int) (hM : M.length ≤ 9223372036854775807) (s : Int) (B : List Int) (hB : B.length ≤ 100000) (seed : Int) : Means true Try.prog 8 [il M, ii s, il B, ii seed] (.tup [il (jdr M s B seed), ii (jde M s B)]) := by
  refine means_fn true 54 [.tmp 8, .tmp 9] Try.func8 rfl rfl rfl (by simp) (by decide) rfl fun X hX => ?_
  (repeat (first | refine awp_seq ?_ | refine awp_block ?_ | (refine awp_runG [0, 1, 2, 3, 6, 8, 9, 10, 11, 13, 24, 31, 39, 40, 41, 42] hX ?_; (simp [go_sem]; try (refine ⟨by kernel_rfl, ?_⟩))) | (refine awp_drawnG [0, 1, 2, 3, 6, 8, 9, 10, 11, 13, 24, 31, 39, 40, 41, 42] hX mixed ?_; (simp [go_sem]; try (refine ⟨by kernel_rfl, ?_⟩))) | (refine awp_ret ?_; (simp [go_sem]; try (refine ⟨by kernel_rfl, ?_⟩))) | (refine awp_skip ?_; (simp [go_sem]; try (refine ⟨by kernel_rfl, ?_⟩))) | (refine awp_exit ?_; (simp [go_sem]; try (refine ⟨by kernel_rfl, ?_⟩)))))
  first | refine callK_intro (valid_m M hM) rfl (by simp [go_sem]) rfl ?_ | refine callT_intro (valid_m M hM) rfl (by simp [go_sem]) rfl ?_
  try (simp [go_sem]; try (refine ⟨by kernel_rfl, ?_⟩))
  refine awp_cond (b := jbad M s) (by simp [go_sem, jbad]) (fun hb => ?_) (fun hb => ?_)
  · have e1 : jdr M s B seed = [] := if_pos hb
    have e2 : jde M s B = 1 := if_pos hb
    rw [e1, e2]
    (repeat (first | refine awp_seq ?_ | refine awp_block ?_ | (refine awp_runG [0, 1, 2, 3, 6, 8, 9, 10, 11, 13, 24, 31, 39, 40, 41, 42] hX ?_; (simp [go_sem]; try (refine ⟨by kernel_rfl, ?_⟩))) | (refine awp_drawnG [0, 1, 2, 3, 6, 8, 9, 10, 11, 13, 24, 31, 39, 40, 41, 42] hX mixed ?_; (simp [go_sem]; try (refine ⟨by kernel_rfl, ?_⟩))) | (refine awp_ret ?_; (simp [go_sem]; try (refine ⟨by kernel_rfl, ?_⟩))) | (refine awp_skip ?_; (simp [go_sem]; try (refine ⟨by kernel_rfl, ?_⟩))) | (refine awp_exit ?_; (simp [go_sem]; try (refine ⟨by kernel_rfl, ?_⟩)))))
  obtain ⟨hok, s1, s2, l1, l2⟩ := jbad_false hb
  (repeat (first | refine awp_seq ?_ | refine awp_block ?_ | (refine awp_runG [0, 1, 2, 3, 6, 8, 9, 10, 11, 13, 24, 31, 39, 40, 41, 42] hX ?_; (simp [go_sem]; try (refine ⟨by kernel_rfl, ?_⟩))) | (refine awp_drawnG [0, 1, 2, 3, 6, 8, 9, 10, 11, 13, 24, 31, 39, 40, 41, 42] hX mixed ?_; (simp [go_sem]; try (refine ⟨by kernel_rfl, ?_⟩))) | (refine awp_ret ?_; (simp [go_sem]; try (refine ⟨by kernel_rfl, ?_⟩))) | (refine awp_skip ?_; (simp [go_sem]; try (refine ⟨by kernel_rfl, ?_⟩))) | (refine awp_exit ?_; (simp [go_sem]; try (refine ⟨by kernel_rfl, ?_⟩)))))
  first | refine callH_intro [] (cloneO_m M (by omega) (List.length_pos_iff.1 l1)) (by simp [go_sem]) ?_ | refine callTQ_intro [] (cloneO_m M (by omega) (List.length_pos_iff.1 l1)) (by simp [go_sem]) ?_ | refine callTE_intro [] (cloneO_m M (by omega) (List.length_pos_iff.1 l1)) (by simp [go_sem]) ?_
  try (simp [go_sem]; try (refine ⟨by kernel_rfl, ?_⟩))
  by_cases hn : ∀ x ∈ M, x ∉ B
  · have hcan : canL M B = M := can_same hn
    first | refine callH_intro [1, 0] (deleteN_m M B (by omega) hB hn) (by simp [go_sem]) ?_ | refine callTQ_intro [1, 0] (deleteN_m M B (by omega) hB hn) (by simp [go_sem]) ?_ | refine callTE_intro [1, 0] (deleteN_m M B (by omega) hB hn) (by simp [go_sem]) ?_
    try (simp [go_sem]; try (refine ⟨by kernel_rfl, ?_⟩))
    (repeat (first | refine awp_seq ?_ | refine awp_block ?_ | (refine awp_runG [0, 1, 2, 3, 6, 8, 9, 10, 11, 13, 24, 31, 39, 40, 41, 42] hX ?_; (simp [go_sem]; try (refine ⟨by kernel_rfl, ?_⟩))) | (refine awp_drawnG [0, 1, 2, 3, 6, 8, 9, 10, 11, 13, 24, 31, 39, 40, 41, 42] hX mixed ?_; (simp [go_sem]; try (refine ⟨by kernel_rfl, ?_⟩))) | (refine awp_ret ?_; (simp [go_sem]; try (refine ⟨by kernel_rfl, ?_⟩))) | (refine awp_skip ?_; (simp [go_sem]; try (refine ⟨by kernel_rfl, ?_⟩))) | (refine awp_exit ?_; (simp [go_sem]; try (refine ⟨by kernel_rfl, ?_⟩)))))
    refine awp_cond (b := decide (M.length = 0)) (by simp [go_sem]) (fun h0 => ?_) (fun h0 => ?_)
    · simp at h0
      exact absurd h0 (List.length_pos_iff.1 l1)
    · simp at h0
      have h0' : 0 < M.length := List.length_pos_iff.2 h0
      have hmin : min s (M.length : Int) = ((min s.toNat M.length : Nat) : Int) := by omega
      have htd := tdraw_m seed M.length (min s.toNat M.length) (by omega) (Nat.min_le_right _ _)
      have hlen := drw_len seed (n := M.length) (k := min s.toNat M.length) (Nat.min_le_right _ _)
      have hmem : ∀ x ∈ drw seed M.length (min s.toNat M.length), 0 ≤ x ∧ x < M.length := fun x hx => drw_mem (Nat.min_le_right _ _) hx
      have hres : jdr M s B seed = outK M (drw seed M.length (min s.toNat M.length)) (drw seed M.length (min s.toNat M.length)).length := by rw [outK_n, jdr, hb, hcan]; rfl
      have hrese : jde M s B = 0 := by simp [jde, hb, hcan, h0]
      rw [hres, hrese]
      generalize drw seed M.length (min s.toNat M.length) = D at htd hlen hmem ⊢
      (repeat (first | refine awp_seq ?_ | refine awp_block ?_ | (refine awp_runG [0, 1, 2, 3, 6, 8, 9, 10, 11, 13, 24, 31, 39, 40, 41, 42] hX ?_; (simp [go_sem, hmin]; try (refine ⟨by kernel_rfl, ?_⟩))) | (refine awp_drawnG [0, 1, 2, 3, 6, 8, 9, 10, 11, 13, 24, 31, 39, 40, 41, 42] hX mixed ?_; (simp [go_sem, hmin]; try (refine ⟨by kernel_rfl, ?_⟩))) | (refine awp_ret ?_; (simp [go_sem, hmin]; try (refine ⟨by kernel_rfl, ?_⟩))) | (refine awp_skip ?_; (simp [go_sem, hmin]; try (refine ⟨by kernel_rfl, ?_⟩))) | (refine awp_exit ?_; (simp [go_sem, hmin]; try (refine ⟨by kernel_rfl, ?_⟩)))))
      first | refine callK_intro (htd) rfl (by simp [go_sem]) rfl ?_ | refine callT_intro (htd) rfl (by simp [go_sem]) rfl ?_
      try (simp [go_sem]; try (refine ⟨by kernel_rfl, ?_⟩))
      (repeat (first | refine awp_seq ?_ | refine awp_block ?_ | (refine awp_runG [0, 1, 2, 3, 6, 8, 9, 10, 11, 13, 24, 31, 39, 40, 41, 42] hX ?_; (simp [go_sem]; try (refine ⟨by kernel_rfl, ?_⟩))) | (refine awp_drawnG [0, 1, 2, 3, 6, 8, 9, 10, 11, 13, 24, 31, 39, 40, 41, 42] hX mixed ?_; (simp [go_sem]; try (refine ⟨by kernel_rfl, ?_⟩))) | (refine awp_ret ?_; (simp [go_sem]; try (refine ⟨by kernel_rfl, ?_⟩))) | (refine awp_skip ?_; (simp [go_sem]; try (refine ⟨by kernel_rfl, ?_⟩))) | (refine awp_exit ?_; (simp [go_sem]; try (refine ⟨by kernel_rfl, ?_⟩)))))
      refine awp_loop (fun k : Nat => ⟨mkE [(10, .ow 1), (11, .ow 2), (39, il D), (40, ii D.length), (41, ii k)], [banH B, rowI M, rowI (outK M D k)]⟩) (fun k => k ≤ D.length) (fun k => D.length - k) 0 ?_ ?_ ?_
      · refine sub_of _ [.old 0 ⟨22, 1, [il B]⟩, .old 1 ⟨3, 1, (M).map ii⟩, .birth 3 1] (by simp [go_sem, outK_0]) ?_
        simp [go_sem, outK_0]
      · omega
      · intro k hk
        (repeat (first | refine awp_seq ?_ | refine awp_block ?_ | (refine awp_runG [0, 1, 2, 3, 6, 8, 9, 10, 11, 13, 24, 31, 39, 40, 41, 42] hX ?_; (simp [go_sem]; try (refine ⟨by kernel_rfl, ?_⟩))) | (refine awp_drawnG [0, 1, 2, 3, 6, 8, 9, 10, 11, 13, 24, 31, 39, 40, 41, 42] hX mixed ?_; (simp [go_sem]; try (refine ⟨by kernel_rfl, ?_⟩))) | (refine awp_ret ?_; (simp [go_sem]; try (refine ⟨by kernel_rfl, ?_⟩))) | (refine awp_skip ?_; (simp [go_sem]; try (refine ⟨by kernel_rfl, ?_⟩))) | (refine awp_exit ?_; (simp [go_sem]; try (refine ⟨by kernel_rfl, ?_⟩)))))
        refine awp_cond (b := decide (k < D.length)) (by simp [go_sem]) (fun hc => ?_) (fun hc => ?_)
        · simp at hc
          obtain ⟨q, hq, hqz, hqe⟩ := getD_at (hmem D[k] (List.getElem_mem hc))
          have e : outK M D (k + 1) = outK M D k ++ [M[q]] := by rw [outK_succ hc, hqe]
          have hol := outK_len M D k
          skip
          (repeat (first | refine awp_seq ?_ | refine awp_block ?_ | (refine awp_runG [0, 1, 2, 3, 6, 8, 9, 10, 11, 13, 24, 31, 39, 40, 41, 42] hX ?_; (simp [go_sem, hc, hqz, hq]; try (refine ⟨by kernel_rfl, ?_⟩))) | (refine awp_drawnG [0, 1, 2, 3, 6, 8, 9, 10, 11, 13, 24, 31, 39, 40, 41, 42] hX mixed ?_; (simp [go_sem, hc, hqz, hq]; try (refine ⟨by kernel_rfl, ?_⟩))) | (refine awp_ret ?_; (simp [go_sem, hc, hqz, hq]; try (refine ⟨by kernel_rfl, ?_⟩))) | (refine awp_skip ?_; (simp [go_sem, hc, hqz, hq]; try (refine ⟨by kernel_rfl, ?_⟩))) | (refine awp_exit ?_; (simp [go_sem, hc, hqz, hq]; try (refine ⟨by kernel_rfl, ?_⟩)))))
          try (simp [go_sem, hc, hqz, hq]; try (refine ⟨by kernel_rfl, ?_⟩))
          (repeat refine And.intro (by first | omega | (unfold maxLen; omega) | kernel_rfl | (refine ⟨by first | omega | (unfold maxLen; omega), by first | omega | (unfold maxLen; omega)⟩) | grind) ?_)
          (repeat (first | refine awp_seq ?_ | refine awp_block ?_ | (refine awp_runG [0, 1, 2, 3, 6, 8, 9, 10, 11, 13, 24, 31, 39, 40, 41, 42] hX ?_; (simp [go_sem, hc, hqz, hq]; (try simp (disch := omega) only [w64, td, tm]); try (refine ⟨by kernel_rfl, ?_⟩))) | (refine awp_drawnG [0, 1, 2, 3, 6, 8, 9, 10, 11, 13, 24, 31, 39, 40, 41, 42] hX mixed ?_; (simp [go_sem, hc, hqz, hq]; (try simp (disch := omega) only [w64, td, tm]); try (refine ⟨by kernel_rfl, ?_⟩))) | (refine awp_ret ?_; (simp [go_sem, hc, hqz, hq]; (try simp (disch := omega) only [w64, td, tm]); try (refine ⟨by kernel_rfl, ?_⟩))) | (refine awp_skip ?_; (simp [go_sem, hc, hqz, hq]; (try simp (disch := omega) only [w64, td, tm]); try (refine ⟨by kernel_rfl, ?_⟩))) | (refine awp_exit ?_; (simp [go_sem, hc, hqz, hq]; (try simp (disch := omega) only [w64, td, tm]); try (refine ⟨by kernel_rfl, ?_⟩)))))
          refine ⟨k + 1, by omega, by omega, ?_⟩
          rw [e]
          refine sub_of _ [.old 0 ⟨22, 1, [il B]⟩, .old 1 ⟨3, 1, (M).map ii⟩, .old 4 ⟨3, 1, (outK M D k ++ [M[q]]).map ii⟩] (by simp [go_sem]) ?_
          simp [go_sem]
        · have : k = D.length := by simp at hc; omega
          subst this
          (repeat (first | refine awp_seq ?_ | refine awp_block ?_ | (refine awp_runG [0, 1, 2, 3, 6, 8, 9, 10, 11, 13, 24, 31, 39, 40, 41, 42] hX ?_; (simp [go_sem]; try (refine ⟨by kernel_rfl, ?_⟩))) | (refine awp_drawnG [0, 1, 2, 3, 6, 8, 9, 10, 11, 13, 24, 31, 39, 40, 41, 42] hX mixed ?_; (simp [go_sem]; try (refine ⟨by kernel_rfl, ?_⟩))) | (refine awp_ret ?_; (simp [go_sem]; try (refine ⟨by kernel_rfl, ?_⟩))) | (refine awp_skip ?_; (simp [go_sem]; try (refine ⟨by kernel_rfl, ?_⟩))) | (refine awp_exit ?_; (simp [go_sem]; try (refine ⟨by kernel_rfl, ?_⟩)))))

  · obtain ⟨f, hf, hn1, hn2⟩ := first_bad hn
    have hdel := deleteS_m M B (by omega) hB hf hn1 hn2
    have hcl := can_le M B
    obtain ⟨C, hcan⟩ : ∃ C, canL M B = C := ⟨_, rfl⟩
    rw [hcan] at hdel hcl
    first | refine callH_intro [1, 0] (hdel) (by simp [go_sem]) ?_ | refine callTQ_intro [1, 0] (hdel) (by simp [go_sem]) ?_ | refine callTE_intro [1, 0] (hdel) (by simp [go_sem]) ?_
    try (simp [go_sem]; try (refine ⟨by kernel_rfl, ?_⟩))
    (repeat (first | refine awp_seq ?_ | refine awp_block ?_ | (refine awp_runG [0, 1, 2, 3, 6, 8, 9, 10, 11, 13, 24, 31, 39, 40, 41, 42] hX ?_; (simp [go_sem]; try (refine ⟨by kernel_rfl, ?_⟩))) | (refine awp_drawnG [0, 1, 2, 3, 6, 8, 9, 10, 11, 13, 24, 31, 39, 40, 41, 42] hX mixed ?_; (simp [go_sem]; try (refine ⟨by kernel_rfl, ?_⟩))) | (refine awp_ret ?_; (simp [go_sem]; try (refine ⟨by kernel_rfl, ?_⟩))) | (refine awp_skip ?_; (simp [go_sem]; try (refine ⟨by kernel_rfl, ?_⟩))) | (refine awp_exit ?_; (simp [go_sem]; try (refine ⟨by kernel_rfl, ?_⟩)))))
    refine awp_cond (b := decide (C.length = 0)) (by simp [go_sem]) (fun h0 => ?_) (fun h0 => ?_)
    · simp at h0
      have e1 : jdr M s B seed = [] := by rw [jdr, if_neg (by simp [hb]), hcan, h0, pick_nil]
      have e2 : jde M s B = 24 := by rw [jde, if_neg (by simp [hb]), hcan, if_pos h0]
      rw [e1, e2]
      (repeat (first | refine awp_seq ?_ | refine awp_block ?_ | (refine awp_runG [0, 1, 2, 3, 6, 8, 9, 10, 11, 13, 24, 31, 39, 40, 41, 42] hX ?_; (simp [go_sem]; try (refine ⟨by kernel_rfl, ?_⟩))) | (refine awp_drawnG [0, 1, 2, 3, 6, 8, 9, 10, 11, 13, 24, 31, 39, 40, 41, 42] hX mixed ?_; (simp [go_sem]; try (refine ⟨by kernel_rfl, ?_⟩))) | (refine awp_ret ?_; (simp [go_sem]; try (refine ⟨by kernel_rfl, ?_⟩))) | (refine awp_skip ?_; (simp [go_sem]; try (refine ⟨by kernel_rfl, ?_⟩))) | (refine awp_exit ?_; (simp [go_sem]; try (refine ⟨by kernel_rfl, ?_⟩)))))
    · simp at h0
      have h0' : 0 < C.length := List.length_pos_iff.2 h0
      have hmin : min s (C.length : Int) = ((min s.toNat C.length : Nat) : Int) := by omega
      have htd := tdraw_m seed C.length (min s.toNat C.length) (by omega) (Nat.min_le_right _ _)
      have hlen := drw_len seed (n := C.length) (k := min s.toNat C.length) (Nat.min_le_right _ _)
      have hmem : ∀ x ∈ drw seed C.length (min s.toNat C.length), 0 ≤ x ∧ x < C.length := fun x hx => drw_mem (Nat.min_le_right _ _) hx
      have hres : jdr M s B seed = outK C (drw seed C.length (min s.toNat C.length)) (drw seed C.length (min s.toNat C.length)).length := by rw [outK_n, jdr, hb, hcan]; rfl
      have hrese : jde M s B = 0 := by simp [jde, hb, hcan, h0]
      rw [hres, hrese]
      generalize drw seed C.length (min s.toNat C.length) = D at htd hlen hmem ⊢
      (repeat (first | refine awp_seq ?_ | refine awp_block ?_ | (refine awp_runG [0, 1, 2, 3, 6, 8, 9, 10, 11, 13, 24, 31, 39, 40, 41, 42] hX ?_; (simp [go_sem, hmin]; try (refine ⟨by kernel_rfl, ?_⟩))) | (refine awp_drawnG [0, 1, 2, 3, 6, 8, 9, 10, 11, 13, 24, 31, 39, 40, 41, 42] hX mixed ?_; (simp [go_sem, hmin]; try (refine ⟨by kernel_rfl, ?_⟩))) | (refine awp_ret ?_; (simp [go_sem, hmin]; try (refine ⟨by kernel_rfl, ?_⟩))) | (refine awp_skip ?_; (simp [go_sem, hmin]; try (refine ⟨by kernel_rfl, ?_⟩))) | (refine awp_exit ?_; (simp [go_sem, hmin]; try (refine ⟨by kernel_rfl, ?_⟩)))))
      first | refine callK_intro (htd) rfl (by simp [go_sem]) rfl ?_ | refine callT_intro (htd) rfl (by simp [go_sem]) rfl ?_
      try (simp [go_sem]; try (refine ⟨by kernel_rfl, ?_⟩))
      (repeat (first | refine awp_seq ?_ | refine awp_block ?_ | (refine awp_runG [0, 1, 2, 3, 6, 8, 9, 10, 11, 13, 24, 31, 39, 40, 41, 42] hX ?_; (simp [go_sem]; try (refine ⟨by kernel_rfl, ?_⟩))) | (refine awp_drawnG [0, 1, 2, 3, 6, 8, 9, 10, 11, 13, 24, 31, 39, 40, 41, 42] hX mixed ?_; (simp [go_sem]; try (refine ⟨by kernel_rfl, ?_⟩))) | (refine awp_ret ?_; (simp [go_sem]; try (refine ⟨by kernel_rfl, ?_⟩))) | (refine awp_skip ?_; (simp [go_sem]; try (refine ⟨by kernel_rfl, ?_⟩))) | (refine awp_exit ?_; (simp [go_sem]; try (refine ⟨by kernel_rfl, ?_⟩)))))
      refine awp_loop (fun k : Nat => ⟨mkE [(10, .wn 1 1 0 C.length), (11, .ow 2), (39, il D), (40, ii D.length), (41, ii k)], [banH B, rowI (C ++ List.replicate (M.length - C.length) 0), rowI (outK C D k)]⟩) (fun k => k ≤ D.length) (fun k => D.length - k) 0 ?_ ?_ ?_
      · refine sub_of _ [.old 0 ⟨22, 1, [il B]⟩, .old 1 ⟨3, 1, (C ++ List.replicate (M.length - C.length) (0 : Int)).map ii⟩, .birth 3 1] (by simp [go_sem, outK_0]) ?_
        simp [go_sem, outK_0]
      · omega
      · intro k hk
        (repeat (first | refine awp_seq ?_ | refine awp_block ?_ | (refine awp_runG [0, 1, 2, 3, 6, 8, 9, 10, 11, 13, 24, 31, 39, 40, 41, 42] hX ?_; (simp [go_sem]; try (refine ⟨by kernel_rfl, ?_⟩))) | (refine awp_drawnG [0, 1, 2, 3, 6, 8, 9, 10, 11, 13, 24, 31, 39, 40, 41, 42] hX mixed ?_; (simp [go_sem]; try (refine ⟨by kernel_rfl, ?_⟩))) | (refine awp_ret ?_; (simp [go_sem]; try (refine ⟨by kernel_rfl, ?_⟩))) | (refine awp_skip ?_; (simp [go_sem]; try (refine ⟨by kernel_rfl, ?_⟩))) | (refine awp_exit ?_; (simp [go_sem]; try (refine ⟨by kernel_rfl, ?_⟩)))))
        refine awp_cond (b := decide (k < D.length)) (by simp [go_sem]) (fun hc => ?_) (fun hc => ?_)
        · simp at hc
          obtain ⟨q, hq, hqz, hqe⟩ := getD_at (hmem D[k] (List.getElem_mem hc))
          have e : outK C D (k + 1) = outK C D k ++ [C[q]] := by rw [outK_succ hc, hqe]
          have hol := outK_len C D k
          skip
          (repeat (first | refine awp_seq ?_ | refine awp_block ?_ | (refine awp_runG [0, 1, 2, 3, 6, 8, 9, 10, 11, 13, 24, 31, 39, 40, 41, 42] hX ?_; (simp [go_sem, hc, hqz, hq]; try (refine ⟨by kernel_rfl, ?_⟩))) | (refine awp_drawnG [0, 1, 2, 3, 6, 8, 9, 10, 11, 13, 24, 31, 39, 40, 41, 42] hX mixed ?_; (simp [go_sem, hc, hqz, hq]; try (refine ⟨by kernel_rfl, ?_⟩))) | (refine awp_ret ?_; (simp [go_sem, hc, hqz, hq]; try (refine ⟨by kernel_rfl, ?_⟩))) | (refine awp_skip ?_; (simp [go_sem, hc, hqz, hq]; try (refine ⟨by kernel_rfl, ?_⟩))) | (refine awp_exit ?_; (simp [go_sem, hc, hqz, hq]; try (refine ⟨by kernel_rfl, ?_⟩)))))
          try (simp [go_sem, hc, hqz, hq]; try (refine ⟨by kernel_rfl, ?_⟩))
          (repeat refine And.intro (by first | omega | (unfold maxLen; omega) | kernel_rfl | (refine ⟨by first | omega | (unfold maxLen; omega), by first | omega | (unfold maxLen; omega)⟩) | grind) ?_)
          (repeat (first | refine awp_seq ?_ | refine awp_block ?_ | (refine awp_runG [0, 1, 2, 3, 6, 8, 9, 10, 11, 13, 24, 31, 39, 40, 41, 42] hX ?_; (simp [go_sem, hc, hqz, hq]; (try simp (disch := omega) only [w64, td, tm]); try (refine ⟨by kernel_rfl, ?_⟩))) | (refine awp_drawnG [0, 1, 2, 3, 6, 8, 9, 10, 11, 13, 24, 31, 39, 40, 41, 42] hX mixed ?_; (simp [go_sem, hc, hqz, hq]; (try simp (disch := omega) only [w64, td, tm]); try (refine ⟨by kernel_rfl, ?_⟩))) | (refine awp_ret ?_; (simp [go_sem, hc, hqz, hq]; (try simp (disch := omega) only [w64, td, tm]); try (refine ⟨by kernel_rfl, ?_⟩))) | (refine awp_skip ?_; (simp [go_sem, hc, hqz, hq]; (try simp (disch := omega) only [w64, td, tm]); try (refine ⟨by kernel_rfl, ?_⟩))) | (refine awp_exit ?_; (simp [go_sem, hc, hqz, hq]; (try simp (disch := omega) only [w64, td, tm]); try (refine ⟨by kernel_rfl, ?_⟩)))))
          refine ⟨k + 1, by omega, by omega, ?_⟩
          rw [e]
          refine sub_of _ [.old 0 ⟨22, 1, [il B]⟩, .old 1 ⟨3, 1, (C ++ List.replicate (M.length - C.length) (0 : Int)).map ii⟩, .old 4 ⟨3, 1, (outK C D k ++ [C[q]]).map ii⟩] (by simp [go_sem]) ?_
          simp [go_sem]
        · have : k = D.length := by simp at hc; omega
          subst this
          (repeat (first | refine awp_seq ?_ | refine awp_block ?_ | (refine awp_runG [0, 1, 2, 3, 6, 8, 9, 10, 11, 13, 24, 31, 39, 40, 41, 42] hX ?_; (simp [go_sem]; try (refine ⟨by kernel_rfl, ?_⟩))) | (refine awp_drawnG [0, 1, 2, 3, 6, 8, 9, 10, 11, 13, 24, 31, 39, 40, 41, 42] hX mixed ?_; (simp [go_sem]; try (refine ⟨by kernel_rfl, ?_⟩))) | (refine awp_ret ?_; (simp [go_sem]; try (refine ⟨by kernel_rfl, ?_⟩))) | (refine awp_skip ?_; (simp [go_sem]; try (refine ⟨by kernel_rfl, ?_⟩))) | (refine awp_exit ?_; (simp [go_sem]; try (refine ⟨by kernel_rfl, ?_⟩)))))


end Go.Proofs.Ytflcmfeafiippaa
