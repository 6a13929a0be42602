/-
  Layer 39: sharing in proportion.
-/
import Derived.Test.YtnifpooobleahaaRatE
import Derived.Test.YtnifpooobleahaaRatQ
import Derived.Test.YtnifpooobleahaaStabRatC
set_option linter.all false
namespace Go.Proofs.Ytnifpooobleahaa
open Go.RowKit Go.Ab
attribute [local irreducible] AWP Go.Ab.Sub Means MeansH CallK CallG CallT CallGT CallU

abbrev boxS (i : Nat) : Cell := .row ⟨22, 1, [.ow i]⟩

theorem rF_ok {h s : Int} (hs : 0 < s ∧ s ≤ 4611686018427387904) (C : List Int) : okR (rF h s C) := by
  intro r hr
  simp only [rF, List.mem_map] at hr
  obtain ⟨c, _, rfl⟩ := hr
  have h1 := Int.emod_nonneg (h * c) (show s ≠ 0 by omega)
  have h2 := Int.emod_lt_of_pos (h * c) hs.1
  omega

set_option maxHeartbeats 8000000 in
set_option maxRecDepth 20000 in
theorem prop_m (C : List Int) (hl : C.length ≤ 400) (h : Int)
    (hS : rightC C h = true → ¬ sumL C ≤ h → MeansH Try.prog 23 (sH (idxI C.length) (rF h (sumL C) C)) [.ow 0, clo] (.tup []) (sH (srt (kf (rF h (sumL C) C)) (idxI C.length)) (rF h (sumL C) C))) :
    Means true Try.prog 10 [il C, ii h] (.tup [il (if rightC C h then prop C h else []), ii (if rightC C h then 0 else 1)]) := by
  have ht := total_m C hl h
  cases hr : rightC C h with
  | false =>
    rw [hr] at ht
    rw [if_neg (by simp), if_neg (by simp)]
    refine means_fn true 83 [.tmp 4, .tmp 5] Try.func10 rfl rfl rfl (by simp) (by decide) rfl fun X hX => ?_
    (repeat (first | refine awp_seq ?_ | refine awp_block ?_ | ((first | refine awp_runG [0, 1, 4, 5, 6, 7, 8, 9, 10, 11, 12, 13, 14, 15, 17, 24, 27, 34, 35, 36, 37, 69, 70, 71, 72] hX ?_ | refine awp_drawnG [0, 1, 4, 5, 6, 7, 8, 9, 10, 11, 12, 13, 14, 15, 17, 24, 27, 34, 35, 36, 37, 69, 70, 71, 72] hX mixed ?_ | refine awp_ret ?_ | refine awp_skip ?_ | refine awp_exit ?_); (simp [go_sem]; try (refine ⟨by kernel_rfl, ?_⟩)))))
    first | refine callK_intro (ht) rfl (by simp [go_sem]) rfl ?_ | refine callT_intro (ht) rfl (by simp [go_sem]) rfl ?_
    try (simp [go_sem]; try (refine ⟨by kernel_rfl, ?_⟩))
    (repeat (first | refine awp_seq ?_ | refine awp_block ?_ | ((first | refine awp_runG [0, 1, 4, 5, 6, 7, 8, 9, 10, 11, 12, 13, 14, 15, 17, 24, 27, 34, 35, 36, 37, 69, 70, 71, 72] hX ?_ | refine awp_drawnG [0, 1, 4, 5, 6, 7, 8, 9, 10, 11, 12, 13, 14, 15, 17, 24, 27, 34, 35, 36, 37, 69, 70, 71, 72] hX mixed ?_ | refine awp_ret ?_ | refine awp_skip ?_ | refine awp_exit ?_); (simp [go_sem]; try (refine ⟨by kernel_rfl, ?_⟩)))))
    refine awp_cond (b := true) (by simp [go_sem]) (fun _ => ?_) (fun h => by cases h)
    (repeat (first | refine awp_seq ?_ | refine awp_block ?_ | ((first | refine awp_runG [0, 1, 4, 5, 6, 7, 8, 9, 10, 11, 12, 13, 14, 15, 17, 24, 27, 34, 35, 36, 37, 69, 70, 71, 72] hX ?_ | refine awp_drawnG [0, 1, 4, 5, 6, 7, 8, 9, 10, 11, 12, 13, 14, 15, 17, 24, 27, 34, 35, 36, 37, 69, 70, 71, 72] hX mixed ?_ | refine awp_ret ?_ | refine awp_skip ?_ | refine awp_exit ?_); (simp [go_sem]; try (refine ⟨by kernel_rfl, ?_⟩)))))
  | true =>
    have hr2 := hr
    simp only [rightC, okH, Bool.and_eq_true, decide_eq_true_eq] at hr2
    obtain ⟨hok, ⟨_, hh0⟩, hh1⟩ := hr2
    rw [hr, if_pos hok] at ht
    rw [if_pos rfl, if_pos rfl]
    have hsb := sum_bd hok
    by_cases hs : sumL C ≤ h
    · have e : prop C h = C := if_pos hs
      rw [e]
      refine means_fn true 83 [.tmp 4, .tmp 5] Try.func10 rfl rfl rfl (by simp) (by decide) rfl fun X hX => ?_
      (repeat (first | refine awp_seq ?_ | refine awp_block ?_ | ((first | refine awp_runG [0, 1, 4, 5, 6, 7, 8, 9, 10, 11, 12, 13, 14, 15, 17, 24, 27, 34, 35, 36, 37, 69, 70, 71, 72] hX ?_ | refine awp_drawnG [0, 1, 4, 5, 6, 7, 8, 9, 10, 11, 12, 13, 14, 15, 17, 24, 27, 34, 35, 36, 37, 69, 70, 71, 72] hX mixed ?_ | refine awp_ret ?_ | refine awp_skip ?_ | refine awp_exit ?_); (simp [go_sem]; try (refine ⟨by kernel_rfl, ?_⟩)))))
      first | refine callK_intro (ht) rfl (by simp [go_sem]) rfl ?_ | refine callT_intro (ht) rfl (by simp [go_sem]) rfl ?_
      try (simp [go_sem]; try (refine ⟨by kernel_rfl, ?_⟩))
      (repeat (first | refine awp_seq ?_ | refine awp_block ?_ | ((first | refine awp_runG [0, 1, 4, 5, 6, 7, 8, 9, 10, 11, 12, 13, 14, 15, 17, 24, 27, 34, 35, 36, 37, 69, 70, 71, 72] hX ?_ | refine awp_drawnG [0, 1, 4, 5, 6, 7, 8, 9, 10, 11, 12, 13, 14, 15, 17, 24, 27, 34, 35, 36, 37, 69, 70, 71, 72] hX mixed ?_ | refine awp_ret ?_ | refine awp_skip ?_ | refine awp_exit ?_); (simp [go_sem]; try (refine ⟨by kernel_rfl, ?_⟩)))))
      refine awp_cond (b := false) (by simp [go_sem]) (fun h => by cases h) (fun _ => ?_)
      (repeat (first | refine awp_seq ?_ | refine awp_block ?_ | ((first | refine awp_runG [0, 1, 4, 5, 6, 7, 8, 9, 10, 11, 12, 13, 14, 15, 17, 24, 27, 34, 35, 36, 37, 69, 70, 71, 72] hX ?_ | refine awp_drawnG [0, 1, 4, 5, 6, 7, 8, 9, 10, 11, 12, 13, 14, 15, 17, 24, 27, 34, 35, 36, 37, 69, 70, 71, 72] hX mixed ?_ | refine awp_ret ?_ | refine awp_skip ?_ | refine awp_exit ?_); (simp [go_sem]; try (refine ⟨by kernel_rfl, ?_⟩)))))
      refine awp_cond (b := true) (by simp [go_sem, hs]) (fun _ => ?_) (fun h => by cases h)
      (repeat (first | refine awp_seq ?_ | refine awp_block ?_ | ((first | refine awp_runG [0, 1, 4, 5, 6, 7, 8, 9, 10, 11, 12, 13, 14, 15, 17, 24, 27, 34, 35, 36, 37, 69, 70, 71, 72] hX ?_ | refine awp_drawnG [0, 1, 4, 5, 6, 7, 8, 9, 10, 11, 12, 13, 14, 15, 17, 24, 27, 34, 35, 36, 37, 69, 70, 71, 72] hX mixed ?_ | refine awp_ret ?_ | refine awp_skip ?_ | refine awp_exit ?_); (simp [go_sem]; try (refine ⟨by kernel_rfl, ?_⟩)))))
      first | refine callH_intro [] (clone_h C (by omega)) (by simp [go_sem]) ?_ | refine callTQ_intro [] (clone_h C (by omega)) (by simp [go_sem]) ?_ | refine callTE_intro [] (clone_h C (by omega)) (by simp [go_sem]) ?_
      try (simp [go_sem]; try (refine ⟨by kernel_rfl, ?_⟩))
      (repeat (first | refine awp_seq ?_ | refine awp_block ?_ | ((first | refine awp_runG [0, 1, 4, 5, 6, 7, 8, 9, 10, 11, 12, 13, 14, 15, 17, 24, 27, 34, 35, 36, 37, 69, 70, 71, 72] hX ?_ | refine awp_drawnG [0, 1, 4, 5, 6, 7, 8, 9, 10, 11, 12, 13, 14, 15, 17, 24, 27, 34, 35, 36, 37, 69, 70, 71, 72] hX mixed ?_ | refine awp_ret ?_ | refine awp_skip ?_ | refine awp_exit ?_); (simp [go_sem]; try (refine ⟨by kernel_rfl, ?_⟩)))))
    · have hS := hS hr hs
      have hs0 : 0 < sumL C := by omega
      have hlb := left_bd (h := h) hs0
      have hpe : prop C h = bumps (qF h (sumL C) C) ((srt (kf (rF h (sumL C) C)) (idxI C.length)).take (h - sumL (qF h (sumL C) C)).toNat) := if_neg hs
      rw [hpe]
      have hrok : okR (rF h (sumL C) C) := rF_ok (by omega) C
      generalize sumL C = s at ht hsb hs hS hs0 hlb hrok ⊢
      have hqb := qF_bd (h := h) (s := s) ⟨hh0, by omega⟩ hok
      have hqs : ∀ k, k ≤ C.length → 0 ≤ sumL (qF h s (C.take k)) ∧ sumL (qF h s (C.take k)) ≤ 400 * 1099511627776 := by
        intro k hk
        have hqk : ∀ v ∈ qF h s (C.take k), 0 ≤ v ∧ v ≤ 1099511627776 := fun v hv => hqb v (by unfold qF at *; rw [List.map_take] at hv; exact List.mem_of_mem_take hv)
        have h3 := sum_bd (C := qF h s (C.take k)) (List.all_eq_true.2 fun v hv => by have := hqk v hv; simp [inC, this])
        rw [qF_len, List.length_take] at h3
        omega
      refine means_fn true 83 [.tmp 4, .tmp 5] Try.func10 rfl rfl rfl (by simp) (by decide) rfl fun X hX => ?_
      (repeat (first | refine awp_seq ?_ | refine awp_block ?_ | ((first | refine awp_runG [0, 1, 4, 5, 6, 7, 8, 9, 10, 11, 12, 13, 14, 15, 17, 24, 27, 34, 35, 36, 37, 69, 70, 71, 72] hX ?_ | refine awp_drawnG [0, 1, 4, 5, 6, 7, 8, 9, 10, 11, 12, 13, 14, 15, 17, 24, 27, 34, 35, 36, 37, 69, 70, 71, 72] hX mixed ?_ | refine awp_ret ?_ | refine awp_skip ?_ | refine awp_exit ?_); (simp [go_sem]; try (refine ⟨by kernel_rfl, ?_⟩)))))
      first | refine callK_intro (ht) rfl (by simp [go_sem]) rfl ?_ | refine callT_intro (ht) rfl (by simp [go_sem]) rfl ?_
      try (simp [go_sem]; try (refine ⟨by kernel_rfl, ?_⟩))
      (repeat (first | refine awp_seq ?_ | refine awp_block ?_ | ((first | refine awp_runG [0, 1, 4, 5, 6, 7, 8, 9, 10, 11, 12, 13, 14, 15, 17, 24, 27, 34, 35, 36, 37, 69, 70, 71, 72] hX ?_ | refine awp_drawnG [0, 1, 4, 5, 6, 7, 8, 9, 10, 11, 12, 13, 14, 15, 17, 24, 27, 34, 35, 36, 37, 69, 70, 71, 72] hX mixed ?_ | refine awp_ret ?_ | refine awp_skip ?_ | refine awp_exit ?_); (simp [go_sem]; try (refine ⟨by kernel_rfl, ?_⟩)))))
      refine awp_cond (b := false) (by simp [go_sem]) (fun h => by cases h) (fun _ => ?_)
      (repeat (first | refine awp_seq ?_ | refine awp_block ?_ | ((first | refine awp_runG [0, 1, 4, 5, 6, 7, 8, 9, 10, 11, 12, 13, 14, 15, 17, 24, 27, 34, 35, 36, 37, 69, 70, 71, 72] hX ?_ | refine awp_drawnG [0, 1, 4, 5, 6, 7, 8, 9, 10, 11, 12, 13, 14, 15, 17, 24, 27, 34, 35, 36, 37, 69, 70, 71, 72] hX mixed ?_ | refine awp_ret ?_ | refine awp_skip ?_ | refine awp_exit ?_); (simp [go_sem]; try (refine ⟨by kernel_rfl, ?_⟩)))))
      refine awp_cond (b := false) (by simp [go_sem]; omega) (fun h => by cases h) (fun _ => ?_)
      (repeat (first | refine awp_seq ?_ | refine awp_block ?_ | ((first | refine awp_runG [0, 1, 4, 5, 6, 7, 8, 9, 10, 11, 12, 13, 14, 15, 17, 24, 27, 34, 35, 36, 37, 69, 70, 71, 72] hX ?_ | refine awp_drawnG [0, 1, 4, 5, 6, 7, 8, 9, 10, 11, 12, 13, 14, 15, 17, 24, 27, 34, 35, 36, 37, 69, 70, 71, 72] hX mixed ?_ | refine awp_ret ?_ | refine awp_skip ?_ | refine awp_exit ?_); (simp [go_sem]; try (refine ⟨by kernel_rfl, ?_⟩)))))
      refine awp_loop (fun k : Nat => ⟨mkE [(1, ii h), (6, ii s), (8, ii (h - sumL (qF h s (C.take k)))), (9, .ow 1), (10, .el 0 1 0 0), (11, .ow 3), (34, il C), (35, ii C.length), (36, ii k)], [boxS 2, rowI (qF h s (C.take k)), rowI (rF h s (C.take k)), rowI (idxI k)]⟩) (fun k => k ≤ C.length) (fun k => C.length - k) 0 ?_ ?_ ?_
      · refine sub_of _ [.old 0 ⟨22, 1, [.ow 2]⟩, .birth 3 1, .birth 3 1, .birth 3 1] (by simp [go_sem, qF, rF, idxI]) ?_
        simp [go_sem, qF, rF, idxI]
      · omega
      · intro k hk
        have hb1 := hqs k hk
        have hll : (qF h s (C.take k)).length = k := by rw [qF_len]; simp; omega
        have hlr : (rF h s (C.take k)).length = k := by rw [rF_len]; simp; omega
        have hli := idxI_len k
        (repeat (first | refine awp_seq ?_ | refine awp_block ?_ | ((first | refine awp_runG [0, 1, 4, 5, 6, 7, 8, 9, 10, 11, 12, 13, 14, 15, 17, 24, 27, 34, 35, 36, 37, 69, 70, 71, 72] hX ?_ | refine awp_drawnG [0, 1, 4, 5, 6, 7, 8, 9, 10, 11, 12, 13, 14, 15, 17, 24, 27, 34, 35, 36, 37, 69, 70, 71, 72] hX mixed ?_ | refine awp_ret ?_ | refine awp_skip ?_ | refine awp_exit ?_); (simp [go_sem]; try (refine ⟨by kernel_rfl, ?_⟩)))))
        refine awp_cond (b := decide (k < C.length)) (by simp [go_sem]) (fun hc => ?_) (fun hc => ?_)
        · simp at hc
          have hcr := okC_mem hok (List.getElem_mem hc)
          have hb2 := hqs (k + 1) (by omega)
          have eq1 := qF_succ (h := h) (s := s) hc
          have er1 := rF_succ (h := h) (s := s) hc
          have ei1 := idxI_succ k
          rw [eq1, sumL_app] at hb2
          simp only [sumL_cons, sumL_nil] at hb2
          (repeat (first | refine awp_seq ?_ | refine awp_block ?_ | ((first | refine awp_runG [0, 1, 4, 5, 6, 7, 8, 9, 10, 11, 12, 13, 14, 15, 17, 24, 27, 34, 35, 36, 37, 69, 70, 71, 72] hX ?_ | refine awp_drawnG [0, 1, 4, 5, 6, 7, 8, 9, 10, 11, 12, 13, 14, 15, 17, 24, 27, 34, 35, 36, 37, 69, 70, 71, 72] hX mixed ?_ | refine awp_ret ?_ | refine awp_skip ?_ | refine awp_exit ?_); (simp [go_sem, hc]; try (refine ⟨by kernel_rfl, ?_⟩)))))
          first | refine callK_intro (quota_m h C[k] s ⟨hh0, by omega⟩ hcr (by omega)) rfl (by simp [go_sem]) rfl ?_ | refine callT_intro (quota_m h C[k] s ⟨hh0, by omega⟩ hcr (by omega)) rfl (by simp [go_sem]) rfl ?_
          try (simp [go_sem]; try (refine ⟨by kernel_rfl, ?_⟩))
          obtain ⟨q, hq⟩ : ∃ q, h * C[k] / s = q := ⟨_, rfl⟩
          obtain ⟨r, hr⟩ : ∃ r, h * C[k] % s = r := ⟨_, rfl⟩
          rw [hq] at hb2 eq1 ⊢
          rw [hr] at er1 ⊢
          have hqv : 0 ≤ q ∧ q ≤ 1099511627776 := by
            rw [← hq]; exact hqb _ (by unfold qF; exact List.mem_map.2 ⟨_, List.getElem_mem hc, rfl⟩)
          have hw := w64 (x := h - sumL (qF h s (C.take k)) - q) (by omega) (by omega)
          (repeat (first | refine awp_seq ?_ | refine awp_block ?_ | ((first | refine awp_runG [0, 1, 4, 5, 6, 7, 8, 9, 10, 11, 12, 13, 14, 15, 17, 24, 27, 34, 35, 36, 37, 69, 70, 71, 72] hX ?_ | refine awp_skip ?_ | refine awp_exit ?_); (simp [go_sem, hw]; try (refine ⟨by kernel_rfl, ?_⟩)))))
          refine awp_drawUG [0, 1, 4, 5, 6, 7, 8, 9, 10, 11, 12, 13, 14, 15, 17, 24, 27, 34, 35, 36, 37, 69, 70, 71, 72] 6 hX mixed ?_; (simp [go_sem, hw, hll, hlr, hli]; try (refine ⟨by kernel_rfl, ?_⟩))
          (repeat refine And.intro (by first | omega | (unfold maxLen; omega) | kernel_rfl | (refine ⟨by first | omega | (unfold maxLen; omega), by first | omega | (unfold maxLen; omega)⟩) | grind) ?_)
          refine ⟨⟨by kernel_rfl, by kernel_rfl⟩, ?_⟩
          (repeat (first | refine awp_seq ?_ | refine awp_block ?_ | ((first | refine awp_runG [0, 1, 4, 5, 6, 7, 8, 9, 10, 11, 12, 13, 14, 15, 17, 24, 27, 34, 35, 36, 37, 69, 70, 71, 72] hX ?_ | refine awp_drawnG [0, 1, 4, 5, 6, 7, 8, 9, 10, 11, 12, 13, 14, 15, 17, 24, 27, 34, 35, 36, 37, 69, 70, 71, 72] hX mixed ?_ | refine awp_ret ?_ | refine awp_skip ?_ | refine awp_exit ?_); (simp [go_sem]; (try simp (disch := omega) only [w64, td, tm]); try (refine ⟨by kernel_rfl, ?_⟩)))))
          refine ⟨k + 1, by omega, by omega, ?_⟩
          rw [eq1, er1, ei1, sumL_app]
          refine sub_of _ [.old 0 ⟨22, 1, [.ow 2]⟩, .old 5 ⟨3, 1, (qF h s (C.take k) ++ [q]).map ii⟩, .old 7 ⟨3, 1, (rF h s (C.take k) ++ [r]).map ii⟩, .old 9 ⟨3, 1, (idxI k ++ [(k : Int)]).map ii⟩] (by simp [go_sem]) ?_
          simp [go_sem]
          try omega
        · have hkl : k = C.length := by simp at hc; omega
          subst hkl
          rw [List.take_length] at hll hlr hb1 ⊢
          obtain ⟨m, hm⟩ : ∃ m : Nat, (m : Int) = h - sumL (qF h s C) := ⟨(h - sumL (qF h s C)).toNat, by omega⟩
          have hmt : (h - sumL (qF h s C)).toNat = m := by omega
          rw [hmt, ← hm]
          have hml : m ≤ C.length := by omega
          obtain ⟨O, hO⟩ : ∃ O, srt (kf (rF h s C)) (idxI C.length) = O := ⟨_, rfl⟩
          rw [hO] at hS ⊢
          have hOl : O.length = C.length := by rw [← hO, srt_len, idxI_len]
          have hOm : ∀ x ∈ O, 0 ≤ x ∧ x < C.length := fun x hx => by
            rw [← hO] at hx
            exact idxI_mem.1 ((srt_perm _ _).mem_iff.1 hx)
          (repeat (first | refine awp_seq ?_ | refine awp_block ?_ | ((first | refine awp_runG [0, 1, 4, 5, 6, 7, 8, 9, 10, 11, 12, 13, 14, 15, 17, 24, 27, 34, 35, 36, 37, 69, 70, 71, 72] hX ?_ | refine awp_drawnG [0, 1, 4, 5, 6, 7, 8, 9, 10, 11, 12, 13, 14, 15, 17, 24, 27, 34, 35, 36, 37, 69, 70, 71, 72] hX mixed ?_ | refine awp_ret ?_ | refine awp_skip ?_ | refine awp_exit ?_); (simp [go_sem]; try (refine ⟨by kernel_rfl, ?_⟩)))))
          first | refine callH_intro [3, 0, 2] (hS) (by simp [go_sem]) ?_ | refine callTQ_intro [3, 0, 2] (hS) (by simp [go_sem]) ?_ | refine callTE_intro [3, 0, 2] (hS) (by simp [go_sem]) ?_
          try (simp [go_sem]; try (refine ⟨by kernel_rfl, ?_⟩))
          (repeat (first | refine awp_seq ?_ | refine awp_block ?_ | ((first | refine awp_runG [0, 1, 4, 5, 6, 7, 8, 9, 10, 11, 12, 13, 14, 15, 17, 24, 27, 34, 35, 36, 37, 69, 70, 71, 72] hX ?_ | refine awp_drawnG [0, 1, 4, 5, 6, 7, 8, 9, 10, 11, 12, 13, 14, 15, 17, 24, 27, 34, 35, 36, 37, 69, 70, 71, 72] hX mixed ?_ | refine awp_ret ?_ | refine awp_skip ?_ | refine awp_exit ?_); (simp [go_sem, hml, hOl]; try (refine ⟨by kernel_rfl, ?_⟩)))))
          refine awp_loop (fun j : Nat => ⟨mkE [(9, .ow 0), (69, .wn 1 1 0 m), (70, ii m), (71, ii j)], [rowI (bumps (qF h s C) (O.take j)), rowI O]⟩) (fun j => j ≤ m) (fun j => m - j) 0 ?_ ?_ ?_
          · refine sub_of _ [.old 1 ⟨3, 1, (qF h s C).map ii⟩, .old 3 ⟨3, 1, O.map ii⟩] (by simp [go_sem, bumps]) ?_
            simp [go_sem, bumps]
          · omega
          · intro j hj
            have hbl := bumps_len (O.take j) (qF h s C)
            rw [qF_len] at hbl
            (repeat (first | refine awp_seq ?_ | refine awp_block ?_ | ((first | refine awp_runG [0, 1, 4, 5, 6, 7, 8, 9, 10, 11, 12, 13, 14, 15, 17, 24, 27, 34, 35, 36, 37, 69, 70, 71, 72] hX ?_ | refine awp_drawnG [0, 1, 4, 5, 6, 7, 8, 9, 10, 11, 12, 13, 14, 15, 17, 24, 27, 34, 35, 36, 37, 69, 70, 71, 72] hX mixed ?_ | refine awp_ret ?_ | refine awp_skip ?_ | refine awp_exit ?_); (simp [go_sem]; try (refine ⟨by kernel_rfl, ?_⟩)))))
            refine awp_cond (b := decide (j < m)) (by simp [go_sem]) (fun hc => ?_) (fun hc => ?_)
            · simp at hc
              have hjO : j < O.length := by omega
              have hx := hOm O[j] (List.getElem_mem hjO)
              have hbs := bumps_succ (L := qF h s C) hjO
              obtain ⟨p, hp⟩ : ∃ p : Nat, O[j] = (p : Int) := ⟨O[j].toNat, by omega⟩
              obtain ⟨B, hB⟩ : ∃ B, bumps (qF h s C) (O.take j) = B := ⟨_, rfl⟩
              rw [hp] at hx hbs
              rw [hB] at hbl hbs ⊢
              have hpB : p < B.length := by omega
              have hbd : 0 ≤ B[p] ∧ B[p] ≤ 1099511627776 + 400 := by
                have := bumps_bd (O.take j) hqb B[p] (by rw [hB]; exact List.getElem_mem _)
                rw [List.length_take] at this
                omega
              have hbe : bump B (p : Int) = B.set p (B[p] + 1) := by
                unfold bump
                rw [Int.toNat_natCast, List.getD_eq_getElem?_getD, List.getElem?_eq_getElem hpB]; rfl
              (repeat (first | refine awp_seq ?_ | refine awp_block ?_ | ((first | refine awp_runG [0, 1, 4, 5, 6, 7, 8, 9, 10, 11, 12, 13, 14, 15, 17, 24, 27, 34, 35, 36, 37, 69, 70, 71, 72] hX ?_ | refine awp_drawnG [0, 1, 4, 5, 6, 7, 8, 9, 10, 11, 12, 13, 14, 15, 17, 24, 27, 34, 35, 36, 37, 69, 70, 71, 72] hX mixed ?_ | refine awp_ret ?_ | refine awp_skip ?_ | refine awp_exit ?_); (simp [go_sem, hc, hjO, hp, hpB]; (try simp (disch := omega) only [w64, td, tm]); try (refine ⟨by kernel_rfl, ?_⟩)))))
              (repeat refine And.intro (by first | omega | (unfold maxLen; omega) | kernel_rfl | (refine ⟨by first | omega | (unfold maxLen; omega), by first | omega | (unfold maxLen; omega)⟩) | grind) ?_)
              (repeat (first | refine awp_seq ?_ | refine awp_block ?_ | ((first | refine awp_runG [0, 1, 4, 5, 6, 7, 8, 9, 10, 11, 12, 13, 14, 15, 17, 24, 27, 34, 35, 36, 37, 69, 70, 71, 72] hX ?_ | refine awp_drawnG [0, 1, 4, 5, 6, 7, 8, 9, 10, 11, 12, 13, 14, 15, 17, 24, 27, 34, 35, 36, 37, 69, 70, 71, 72] hX mixed ?_ | refine awp_ret ?_ | refine awp_skip ?_ | refine awp_exit ?_); (simp [go_sem, hc, hjO, hp, hpB]; (try simp (disch := omega) only [w64, td, tm]); try (refine ⟨by kernel_rfl, ?_⟩)))))
              refine ⟨j + 1, by omega, by omega, ?_⟩
              rw [hbs, hbe]
              refine sub_of _ [.old 0 ⟨3, 1, (B.set p (B[p] + 1)).map ii⟩, .old 1 ⟨3, 1, O.map ii⟩] (by simp [go_sem]) ?_
              simp [go_sem]
              try omega
            · have : j = m := by simp at hc; omega
              subst this
              (repeat (first | refine awp_seq ?_ | refine awp_block ?_ | ((first | refine awp_runG [0, 1, 4, 5, 6, 7, 8, 9, 10, 11, 12, 13, 14, 15, 17, 24, 27, 34, 35, 36, 37, 69, 70, 71, 72] hX ?_ | refine awp_drawnG [0, 1, 4, 5, 6, 7, 8, 9, 10, 11, 12, 13, 14, 15, 17, 24, 27, 34, 35, 36, 37, 69, 70, 71, 72] hX mixed ?_ | refine awp_ret ?_ | refine awp_skip ?_ | refine awp_exit ?_); (simp [go_sem]; try (refine ⟨by kernel_rfl, ?_⟩)))))

end Go.Proofs.Ytnifpooobleahaa
