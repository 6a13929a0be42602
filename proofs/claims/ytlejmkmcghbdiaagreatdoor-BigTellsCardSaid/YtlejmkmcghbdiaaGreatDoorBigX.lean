/-
  Layer 4: the laws' own small functions: equality, limits, the documentation's examples.
-/
import Derived.Test.YtlejmkmcghbdiaaGreatDoorBigN
set_option linter.all false
namespace Go.Proofs.YtlejmkmcghbdiaaGreatDoor
open Go.RowKit Go.Ab
attribute [local irreducible] AWP Go.Ab.Sub Means MeansH CallK CallG CallT CallGT

theorem rsame_m (s1 s2 : Int) (a b : List Int) (hla : a.length ≤ 140737488355328) (hlb : b.length ≤ 140737488355328) : Means false Tryz.prog 12 [big2 s1 a, big2 s2 b] (bb (decide (s1 = s2 ∧ a = b))) := by
  refine means_fn false 38 [.tmp 4] Tryz.func12 rfl rfl rfl (by simp) (by decide) rfl fun X hX => ?_
  (repeat (first | refine awp_seq ?_ | refine awp_block ?_ | ((first | refine awp_runG [0, 1, 2, 3, 4, 5, 19, 24, 37] hX ?_ | refine awp_drawnG [0, 1, 2, 3, 4, 5, 19, 24, 37] hX mixed ?_ | refine awp_ret ?_ | refine awp_skip ?_ | refine awp_exit ?_); (simp [go_sem]; try (refine ⟨by kernel_rfl, ?_⟩)))))
  by_cases h : s1 = s2
  · subst h
    by_cases hl : a.length = b.length
    · (repeat (first | refine awp_seq ?_ | refine awp_block ?_ | ((first | refine awp_runG [0, 1, 2, 3, 4, 5, 19, 24, 37] hX ?_ | refine awp_drawnG [0, 1, 2, 3, 4, 5, 19, 24, 37] hX mixed ?_ | refine awp_ret ?_ | refine awp_skip ?_ | refine awp_exit ?_); (simp [go_sem, hl]; try (refine ⟨by kernel_rfl, ?_⟩)))))
      refine awp_cond (b := false) (by simp [go_sem, hl]) (fun hb => by cases hb) (fun _ => ?_)
      (repeat (first | refine awp_seq ?_ | refine awp_block ?_ | ((first | refine awp_runG [0, 1, 2, 3, 4, 5, 19, 24, 37] hX ?_ | refine awp_drawnG [0, 1, 2, 3, 4, 5, 19, 24, 37] hX mixed ?_ | refine awp_ret ?_ | refine awp_skip ?_ | refine awp_exit ?_); (simp [go_sem]; try (refine ⟨by kernel_rfl, ?_⟩)))))
      refine awp_loop (fun n : Nat => ⟨mkE [(2, .el 0 2 0 0), (3, .el 1 2 0 0), (5, ii n)], [.row ⟨24, 2, [big2 s1 a]⟩, .row ⟨24, 2, [big2 s1 b]⟩]⟩) (fun n => n ≤ a.length ∧ a.take n = b.take n) (fun n => a.length - n) 0 ?_ ?_ ?_
      · refine sub_of _ [.old 0 ⟨24, 2, [big2 s1 a]⟩, .old 1 ⟨24, 2, [big2 s1 b]⟩] (by simp [go_sem]) ?_
        simp [go_sem]
      · exact ⟨Nat.zero_le _, by simp⟩
      · rintro n ⟨hn, he⟩
        (repeat (first | refine awp_seq ?_ | refine awp_block ?_ | ((first | refine awp_runG [0, 1, 2, 3, 4, 5, 19, 24, 37] hX ?_ | refine awp_drawnG [0, 1, 2, 3, 4, 5, 19, 24, 37] hX mixed ?_ | refine awp_ret ?_ | refine awp_skip ?_ | refine awp_exit ?_); (simp [go_sem]; try (refine ⟨by kernel_rfl, ?_⟩)))))
        refine awp_cond (b := decide (n < a.length)) (by simp [go_sem]) (fun hd2 => ?_) (fun hd2 => ?_)
        · simp at hd2
          have h2 : n < b.length := by omega
          (repeat (first | refine awp_seq ?_ | refine awp_block ?_ | ((first | refine awp_runG [0, 1, 2, 3, 4, 5, 19, 24, 37] hX ?_ | refine awp_drawnG [0, 1, 2, 3, 4, 5, 19, 24, 37] hX mixed ?_ | refine awp_ret ?_ | refine awp_skip ?_ | refine awp_exit ?_); (simp [go_sem, hd2, h2]; (try simp (disch := omega) only [w64, td, tm]); try (refine ⟨by kernel_rfl, ?_⟩)))))
          (repeat refine And.intro (by first | omega | (unfold maxLen; omega) | kernel_rfl | (refine ⟨by first | omega | (unfold maxLen; omega), by first | omega | (unfold maxLen; omega)⟩) | grind) ?_)
          try (simp [go_sem, hd2, h2]; try (refine ⟨by kernel_rfl, ?_⟩))
          refine awp_cond (b := decide (a[n] ≠ b[n])) (by simp [go_sem, hd2, h2]; try omega) (fun hc => ?_) (fun hc => ?_)
          · simp only [decide_eq_true_eq] at hc
            have hne : ¬ a = b := fun e => hc (by simp only [e])
            (repeat (first | refine awp_seq ?_ | refine awp_block ?_ | ((first | refine awp_runG [0, 1, 2, 3, 4, 5, 19, 24, 37] hX ?_ | refine awp_drawnG [0, 1, 2, 3, 4, 5, 19, 24, 37] hX mixed ?_ | refine awp_ret ?_ | refine awp_skip ?_ | refine awp_exit ?_); (simp [go_sem, hne]; try (refine ⟨by kernel_rfl, ?_⟩)))))
          · simp at hc
            (repeat (first | refine awp_seq ?_ | refine awp_block ?_ | ((first | refine awp_runG [0, 1, 2, 3, 4, 5, 19, 24, 37] hX ?_ | refine awp_drawnG [0, 1, 2, 3, 4, 5, 19, 24, 37] hX mixed ?_ | refine awp_ret ?_ | refine awp_skip ?_ | refine awp_exit ?_); (simp [go_sem]; (try simp (disch := omega) only [w64, td, tm]); try (refine ⟨by kernel_rfl, ?_⟩)))))
            refine ⟨n + 1, ⟨by omega, ?_⟩, by omega, ?_⟩
            · rw [List.take_succ_eq_append_getElem hd2, List.take_succ_eq_append_getElem h2, he, hc]
            · refine sub_of _ [.old 0 ⟨24, 2, [big2 s1 a]⟩, .old 1 ⟨24, 2, [big2 s1 b]⟩] (by simp [go_sem]) ?_
              simp [go_sem]
        · have hnl : n = a.length := by simp at hd2; omega
          subst hnl
          have hab : a = b := by rwa [List.take_length, hl, List.take_length] at he
          (repeat (first | refine awp_seq ?_ | refine awp_block ?_ | ((first | refine awp_runG [0, 1, 2, 3, 4, 5, 19, 24, 37] hX ?_ | refine awp_drawnG [0, 1, 2, 3, 4, 5, 19, 24, 37] hX mixed ?_ | refine awp_ret ?_ | refine awp_skip ?_ | refine awp_exit ?_); (simp [go_sem, hab]; try (refine ⟨by kernel_rfl, ?_⟩)))))
    · have hne : ¬ a = b := fun e => hl (by rw [e])
      (repeat (first | refine awp_seq ?_ | refine awp_block ?_ | ((first | refine awp_runG [0, 1, 2, 3, 4, 5, 19, 24, 37] hX ?_ | refine awp_drawnG [0, 1, 2, 3, 4, 5, 19, 24, 37] hX mixed ?_ | refine awp_ret ?_ | refine awp_skip ?_ | refine awp_exit ?_); (simp [go_sem, hl]; try (refine ⟨by kernel_rfl, ?_⟩)))))
      refine awp_cond (b := true) (by simp [go_sem, hl]; try omega) (fun _ => ?_) (fun hb => by cases hb)
      (repeat (first | refine awp_seq ?_ | refine awp_block ?_ | ((first | refine awp_runG [0, 1, 2, 3, 4, 5, 19, 24, 37] hX ?_ | refine awp_drawnG [0, 1, 2, 3, 4, 5, 19, 24, 37] hX mixed ?_ | refine awp_ret ?_ | refine awp_skip ?_ | refine awp_exit ?_); (simp [go_sem, hne]; try (refine ⟨by kernel_rfl, ?_⟩)))))
  · (repeat (first | refine awp_seq ?_ | refine awp_block ?_ | ((first | refine awp_runG [0, 1, 2, 3, 4, 5, 19, 24, 37] hX ?_ | refine awp_drawnG [0, 1, 2, 3, 4, 5, 19, 24, 37] hX mixed ?_ | refine awp_ret ?_ | refine awp_skip ?_ | refine awp_exit ?_); (simp [go_sem, h]; try (refine ⟨by kernel_rfl, ?_⟩)))))
    refine awp_cond (b := true) (by simp [go_sem, h]) (fun _ => ?_) (fun hb => by cases hb)
    (repeat (first | refine awp_seq ?_ | refine awp_block ?_ | ((first | refine awp_runG [0, 1, 2, 3, 4, 5, 19, 24, 37] hX ?_ | refine awp_drawnG [0, 1, 2, 3, 4, 5, 19, 24, 37] hX mixed ?_ | refine awp_ret ?_ | refine awp_skip ?_ | refine awp_exit ?_); (simp [go_sem, h]; try (refine ⟨by kernel_rfl, ?_⟩)))))
theorem RSame_m (z w : Int) (hz : rz z) (hw : rz w) : Means false Tryz.prog 12 [bigZ z, bigZ w] (bb (decide (z = w))) := by
  have := rsame_m (sg z) (sg w) (dg (ab z)) (dg (ab w)) (by have := len60 hz; omega) (by have := len60 hw; omega)
  simpa only [bigZ_inj] using this
theorem few_m (s : Int) (L : List Int) (n : Int) (hl : L.length ≤ 9223372036854775807) : Means false Tryz.prog 5 [big2 s L, ii n] (bb (decide ((L.length : Int) ≤ n))) := by
  refine means_fn false 10 [.tmp 4] Tryz.func5 rfl rfl rfl (by simp) (by decide) rfl fun X hX => ?_
  (repeat (first | refine awp_seq ?_ | refine awp_block ?_ | ((first | refine awp_runG [0, 1, 2, 4] hX ?_ | refine awp_drawnG [0, 1, 2, 4] hX mixed ?_ | refine awp_ret ?_ | refine awp_skip ?_ | refine awp_exit ?_); (simp [go_sem]; try (refine ⟨by kernel_rfl, ?_⟩)))))

end Go.Proofs.YtlejmkmcghbdiaaGreatDoor
