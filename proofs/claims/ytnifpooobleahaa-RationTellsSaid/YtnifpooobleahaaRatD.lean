/-
  Layer 39: claims, levels, sharing.
-/
import Derived.Test.YtnifpooobleahaaRatC
import Derived.Test.YtnifpooobleahaaRatP
set_option linter.all false
namespace Go.Proofs.Ytnifpooobleahaa
open Go.RowKit Go.Ab
attribute [local irreducible] AWP Go.Ab.Sub Means MeansH CallK CallG CallT CallGT

theorem ints_m (a b : List Int) (hla : a.length ≤ 9223372036854775807) (hlb : b.length ≤ 9223372036854775807) : Means true Try.prog 12 [il a, il b] (bb (decide (a = b))) := by
  refine means_fn true 26 [.tmp 4] Try.func12 rfl rfl rfl (by simp) (by decide) rfl fun X hX => ?_
  by_cases hl : a.length = b.length
  · (repeat (first | refine awp_seq ?_ | refine awp_block ?_ | ((first | refine awp_runG [0, 1, 4, 5, 10, 14, 25] hX ?_ | refine awp_drawnG [0, 1, 4, 5, 10, 14, 25] hX mixed ?_ | refine awp_ret ?_ | refine awp_skip ?_ | refine awp_exit ?_); (simp [go_sem, hl]; try (refine ⟨by kernel_rfl, ?_⟩)))))
    refine awp_cond (b := false) (by simp [go_sem, hl]) (fun hb => by cases hb) (fun _ => ?_)
    (repeat (first | refine awp_seq ?_ | refine awp_block ?_ | ((first | refine awp_runG [0, 1, 4, 5, 10, 14, 25] hX ?_ | refine awp_drawnG [0, 1, 4, 5, 10, 14, 25] hX mixed ?_ | refine awp_ret ?_ | refine awp_skip ?_ | refine awp_exit ?_); (simp [go_sem]; try (refine ⟨by kernel_rfl, ?_⟩)))))
    refine awp_loop (fun n : Nat => ⟨mkE [(0, il a), (1, il b), (5, ii n)], []⟩) (fun n => n ≤ a.length ∧ a.take n = b.take n) (fun n => a.length - n) 0 ?_ ?_ ?_
    · refine sub_of _ [] (by simp [go_sem]) ?_
      simp [go_sem]
    · exact ⟨Nat.zero_le _, by simp⟩
    · rintro n ⟨hn, he⟩
      (repeat (first | refine awp_seq ?_ | refine awp_block ?_ | ((first | refine awp_runG [0, 1, 4, 5, 10, 14, 25] hX ?_ | refine awp_drawnG [0, 1, 4, 5, 10, 14, 25] hX mixed ?_ | refine awp_ret ?_ | refine awp_skip ?_ | refine awp_exit ?_); (simp [go_sem]; try (refine ⟨by kernel_rfl, ?_⟩)))))
      refine awp_cond (b := decide (n < a.length)) (by simp [go_sem]) (fun hd2 => ?_) (fun hd2 => ?_)
      · simp at hd2
        have h2 : n < b.length := by omega
        (repeat (first | refine awp_seq ?_ | refine awp_block ?_ | ((first | refine awp_runG [0, 1, 4, 5, 10, 14, 25] hX ?_ | refine awp_drawnG [0, 1, 4, 5, 10, 14, 25] hX mixed ?_ | refine awp_ret ?_ | refine awp_skip ?_ | refine awp_exit ?_); (simp [go_sem, hd2, h2]; (try simp (disch := omega) only [w64, td, tm]); try (refine ⟨by kernel_rfl, ?_⟩)))))
        (repeat refine And.intro (by first | omega | (unfold maxLen; omega) | kernel_rfl | (refine ⟨by first | omega | (unfold maxLen; omega), by first | omega | (unfold maxLen; omega)⟩) | grind) ?_)
        try (simp [go_sem, hd2, h2]; try (refine ⟨by kernel_rfl, ?_⟩))
        refine awp_cond (b := decide (a[n] ≠ b[n])) (by simp [go_sem, hd2, h2]; try omega) (fun hc => ?_) (fun hc => ?_)
        · simp only [decide_eq_true_eq] at hc
          have hne : ¬ a = b := fun e => hc (by simp only [e])
          (repeat (first | refine awp_seq ?_ | refine awp_block ?_ | ((first | refine awp_runG [0, 1, 4, 5, 10, 14, 25] hX ?_ | refine awp_drawnG [0, 1, 4, 5, 10, 14, 25] hX mixed ?_ | refine awp_ret ?_ | refine awp_skip ?_ | refine awp_exit ?_); (simp [go_sem, hne]; try (refine ⟨by kernel_rfl, ?_⟩)))))
        · simp at hc
          (repeat (first | refine awp_seq ?_ | refine awp_block ?_ | ((first | refine awp_runG [0, 1, 4, 5, 10, 14, 25] hX ?_ | refine awp_drawnG [0, 1, 4, 5, 10, 14, 25] hX mixed ?_ | refine awp_ret ?_ | refine awp_skip ?_ | refine awp_exit ?_); (simp [go_sem]; (try simp (disch := omega) only [w64, td, tm]); try (refine ⟨by kernel_rfl, ?_⟩)))))
          refine ⟨n + 1, ⟨by omega, ?_⟩, by omega, ?_⟩
          · rw [List.take_succ_eq_append_getElem hd2, List.take_succ_eq_append_getElem h2, he, hc]
          · refine sub_of _ [] (by simp [go_sem]) ?_
            simp [go_sem]
      · have hnl : n = a.length := by simp at hd2; omega
        subst hnl
        have hab : a = b := by rwa [List.take_length, hl, List.take_length] at he
        (repeat (first | refine awp_seq ?_ | refine awp_block ?_ | ((first | refine awp_runG [0, 1, 4, 5, 10, 14, 25] hX ?_ | refine awp_drawnG [0, 1, 4, 5, 10, 14, 25] hX mixed ?_ | refine awp_ret ?_ | refine awp_skip ?_ | refine awp_exit ?_); (simp [go_sem, hab]; try (refine ⟨by kernel_rfl, ?_⟩)))))
  · have hne : ¬ a = b := fun e => hl (by rw [e])
    (repeat (first | refine awp_seq ?_ | refine awp_block ?_ | ((first | refine awp_runG [0, 1, 4, 5, 10, 14, 25] hX ?_ | refine awp_drawnG [0, 1, 4, 5, 10, 14, 25] hX mixed ?_ | refine awp_ret ?_ | refine awp_skip ?_ | refine awp_exit ?_); (simp [go_sem, hl]; try (refine ⟨by kernel_rfl, ?_⟩)))))
    refine awp_cond (b := true) (by simp [go_sem, hl]; try omega) (fun _ => ?_) (fun hb => by cases hb)
    (repeat (first | refine awp_seq ?_ | refine awp_block ?_ | ((first | refine awp_runG [0, 1, 4, 5, 10, 14, 25] hX ?_ | refine awp_drawnG [0, 1, 4, 5, 10, 14, 25] hX mixed ?_ | refine awp_ret ?_ | refine awp_skip ?_ | refine awp_exit ?_); (simp [go_sem, hne]; try (refine ⟨by kernel_rfl, ?_⟩)))))

theorem sum_m (L : List Int) (hl : L.length ≤ 400) (hb : ∀ x ∈ L, -1125899906842624 ≤ x ∧ x ≤ 1125899906842624) : Means true Try.prog 14 [il L] (ii (sumL L)) := by
  have bd : ∀ k, k ≤ L.length → -(k * 1125899906842624 : Int) ≤ sumL (L.take k) ∧ sumL (L.take k) ≤ k * 1125899906842624 := by
    intro k
    induction k with
    | zero => intro _; simp
    | succ k ih =>
      intro hk
      have := ih (by omega)
      have h2 := hb L[k] (List.getElem_mem (by omega))
      rw [sumL_succ (by omega)]
      push_cast
      omega
  refine means_fn true 18 [.tmp 2] Try.func14 rfl rfl rfl (by simp) (by decide) rfl fun X hX => ?_
  (repeat (first | refine awp_seq ?_ | refine awp_block ?_ | ((first | refine awp_runG [0, 2, 3, 4, 8] hX ?_ | refine awp_drawnG [0, 2, 3, 4, 8] hX mixed ?_ | refine awp_ret ?_ | refine awp_skip ?_ | refine awp_exit ?_); (simp [go_sem]; try (refine ⟨by kernel_rfl, ?_⟩)))))
  refine awp_loop (fun n : Nat => ⟨mkE [(0, il L), (3, ii (sumL (L.take n))), (4, ii n)], []⟩) (fun n => n ≤ L.length) (fun n => L.length - n) 0 ?_ ?_ ?_
  · refine sub_of _ [] (by simp [go_sem]) ?_
    simp [go_sem]
  · omega
  · intro n hn
    (repeat (first | refine awp_seq ?_ | refine awp_block ?_ | ((first | refine awp_runG [0, 2, 3, 4, 8] hX ?_ | refine awp_drawnG [0, 2, 3, 4, 8] hX mixed ?_ | refine awp_ret ?_ | refine awp_skip ?_ | refine awp_exit ?_); (simp [go_sem]; try (refine ⟨by kernel_rfl, ?_⟩)))))
    refine awp_cond (b := decide (n < L.length)) (by simp [go_sem]) (fun hc => ?_) (fun hc => ?_)
    · simp at hc
      have e := sumL_succ hc
      have h1 := bd (n + 1) (by omega)
      push_cast at h1
      rw [e] at h1
      (repeat (first | refine awp_seq ?_ | refine awp_block ?_ | ((first | refine awp_runG [0, 2, 3, 4, 8] hX ?_ | refine awp_drawnG [0, 2, 3, 4, 8] hX mixed ?_ | refine awp_ret ?_ | refine awp_skip ?_ | refine awp_exit ?_); (simp [go_sem, hc]; (try simp (disch := omega) only [w64, td, tm]); try (refine ⟨by kernel_rfl, ?_⟩)))))
      refine ⟨n + 1, by omega, by omega, ?_⟩
      rw [e]
      refine sub_of _ [] (by simp [go_sem]) ?_
      simp [go_sem]
    · have : n = L.length := by simp at hc; omega
      subst this
      rw [List.take_length]
      (repeat (first | refine awp_seq ?_ | refine awp_block ?_ | ((first | refine awp_runG [0, 2, 3, 4, 8] hX ?_ | refine awp_drawnG [0, 2, 3, 4, 8] hX mixed ?_ | refine awp_ret ?_ | refine awp_skip ?_ | refine awp_exit ?_); (simp [go_sem]; try (refine ⟨by kernel_rfl, ?_⟩)))))

theorem right_m' (C : List Int) (hl : C.length ≤ 9223372036854775807) (h : Int) : Means true Try.prog 13 [il C, ii h] (bb (rightC C h)) := by
  refine means_fn true 35 [.tmp 4] Try.func13 rfl rfl rfl (by simp) (by decide) rfl fun X hX => ?_
  (repeat (first | refine awp_seq ?_ | refine awp_block ?_ | ((first | refine awp_runG [0, 1, 4, 5, 9, 23] hX ?_ | refine awp_drawnG [0, 1, 4, 5, 9, 23] hX mixed ?_ | refine awp_ret ?_ | refine awp_skip ?_ | refine awp_exit ?_); (simp [go_sem]; try (refine ⟨by kernel_rfl, ?_⟩)))))
  refine awp_loop (fun n : Nat => ⟨mkE [(0, il C), (1, ii h), (5, ii n)], []⟩) (fun n => n ≤ C.length ∧ okC' (C.take n) = true) (fun n => C.length - n) 0 ?_ ?_ ?_
  · refine sub_of _ [] (by simp [go_sem]) ?_
    simp [go_sem]
  · simp [okC']
  · rintro n ⟨hn, hk⟩
    (repeat (first | refine awp_seq ?_ | refine awp_block ?_ | ((first | refine awp_runG [0, 1, 4, 5, 9, 23] hX ?_ | refine awp_drawnG [0, 1, 4, 5, 9, 23] hX mixed ?_ | refine awp_ret ?_ | refine awp_skip ?_ | refine awp_exit ?_); (simp [go_sem]; try (refine ⟨by kernel_rfl, ?_⟩)))))
    refine awp_cond (b := decide (n < C.length)) (by simp [go_sem]) (fun hc => ?_) (fun hc => ?_)
    · simp at hc
      (repeat (first | refine awp_seq ?_ | refine awp_block ?_ | ((first | refine awp_runG [0, 1, 4, 5, 9, 23] hX ?_ | refine awp_drawnG [0, 1, 4, 5, 9, 23] hX mixed ?_ | refine awp_ret ?_ | refine awp_skip ?_ | refine awp_exit ?_); (simp [go_sem, hc]; try (refine ⟨by kernel_rfl, ?_⟩)))))
      refine awp_cond (b := !inC C[n]) (by simp [go_sem, inC]; rw [Bool.eq_iff_iff]; simp; try omega) (fun hd => ?_) (fun hd => ?_)
      · have e : rightC C h = false := by rw [rightC, okC_bad hc (by simpa using hd)]; rfl
        rw [e]
        (repeat (first | refine awp_seq ?_ | refine awp_block ?_ | ((first | refine awp_runG [0, 1, 4, 5, 9, 23] hX ?_ | refine awp_drawnG [0, 1, 4, 5, 9, 23] hX mixed ?_ | refine awp_ret ?_ | refine awp_skip ?_ | refine awp_exit ?_); (simp [go_sem]; try (refine ⟨by kernel_rfl, ?_⟩)))))
      · (repeat (first | refine awp_seq ?_ | refine awp_block ?_ | ((first | refine awp_runG [0, 1, 4, 5, 9, 23] hX ?_ | refine awp_drawnG [0, 1, 4, 5, 9, 23] hX mixed ?_ | refine awp_ret ?_ | refine awp_skip ?_ | refine awp_exit ?_); (simp [go_sem]; (try simp (disch := omega) only [w64, td, tm]); try (refine ⟨by kernel_rfl, ?_⟩)))))
        refine ⟨n + 1, ⟨by omega, okC_succ hc hk (by simpa using hd)⟩, by omega, ?_⟩
        refine sub_of _ [] (by simp [go_sem]) ?_
        simp [go_sem]
    · have : n = C.length := by simp at hc; omega
      subst this
      rw [List.take_length] at hk
      have e : rightC C h = okH C h := by rw [rightC, hk]; rfl
      rw [e]
      (repeat (first | refine awp_seq ?_ | refine awp_block ?_ | ((first | refine awp_runG [0, 1, 4, 5, 9, 23] hX ?_ | refine awp_drawnG [0, 1, 4, 5, 9, 23] hX mixed ?_ | refine awp_ret ?_ | refine awp_skip ?_ | refine awp_exit ?_); (simp [go_sem]; try (refine ⟨by kernel_rfl, ?_⟩)))))
      simp [okH]

theorem total_m (C : List Int) (hl : C.length ≤ 400) (h : Int) : Means true Try.prog 18 [il C, ii h] (.tup [ii (if okC' C then sumL C else 0), bb (rightC C h)]) := by
  refine means_fn true 37 [.tmp 4, .tmp 5] Try.func18 rfl rfl rfl (by simp) (by decide) rfl fun X hX => ?_
  (repeat (first | refine awp_seq ?_ | refine awp_block ?_ | ((first | refine awp_runG [0, 1, 4, 5, 6, 8, 9, 10, 11, 12, 20] hX ?_ | refine awp_drawnG [0, 1, 4, 5, 6, 8, 9, 10, 11, 12, 20] hX mixed ?_ | refine awp_ret ?_ | refine awp_skip ?_ | refine awp_exit ?_); (simp [go_sem]; try (refine ⟨by kernel_rfl, ?_⟩)))))
  refine awp_loop (fun n : Nat => ⟨mkE [(0, il C), (1, ii h), (6, ii (sumL (C.take n))), (9, il C), (10, ii C.length), (11, ii n)], []⟩) (fun n => n ≤ C.length ∧ okC' (C.take n) = true) (fun n => C.length - n) 0 ?_ ?_ ?_
  · refine sub_of _ [] (by simp [go_sem]) ?_
    simp [go_sem]
  · simp [okC']
  · rintro n ⟨hn, hk⟩
    (repeat (first | refine awp_seq ?_ | refine awp_block ?_ | ((first | refine awp_runG [0, 1, 4, 5, 6, 8, 9, 10, 11, 12, 20] hX ?_ | refine awp_drawnG [0, 1, 4, 5, 6, 8, 9, 10, 11, 12, 20] hX mixed ?_ | refine awp_ret ?_ | refine awp_skip ?_ | refine awp_exit ?_); (simp [go_sem]; try (refine ⟨by kernel_rfl, ?_⟩)))))
    refine awp_cond (b := decide (n < C.length)) (by simp [go_sem]) (fun hc => ?_) (fun hc => ?_)
    · simp at hc
      (repeat (first | refine awp_seq ?_ | refine awp_block ?_ | ((first | refine awp_runG [0, 1, 4, 5, 6, 8, 9, 10, 11, 12, 20] hX ?_ | refine awp_drawnG [0, 1, 4, 5, 6, 8, 9, 10, 11, 12, 20] hX mixed ?_ | refine awp_ret ?_ | refine awp_skip ?_ | refine awp_exit ?_); (simp [go_sem, hc]; try (refine ⟨by kernel_rfl, ?_⟩)))))
      refine awp_cond (b := !inC C[n]) (by simp [go_sem, inC]; rw [Bool.eq_iff_iff]; simp; try omega) (fun hd => ?_) (fun hd => ?_)
      · have e0 := okC_bad hc (by simpa using hd)
        have e : rightC C h = false := by rw [rightC, e0]; rfl
        rw [e, if_neg (by rw [e0]; simp)]
        (repeat (first | refine awp_seq ?_ | refine awp_block ?_ | ((first | refine awp_runG [0, 1, 4, 5, 6, 8, 9, 10, 11, 12, 20] hX ?_ | refine awp_drawnG [0, 1, 4, 5, 6, 8, 9, 10, 11, 12, 20] hX mixed ?_ | refine awp_ret ?_ | refine awp_skip ?_ | refine awp_exit ?_); (simp [go_sem]; try (refine ⟨by kernel_rfl, ?_⟩)))))
      · have hk1 := okC_succ hc hk (by simpa using hd)
        have h1 := sum_bd hk1
        have e := sumL_succ hc
        rw [List.length_take] at h1
        rw [e] at h1
        (repeat (first | refine awp_seq ?_ | refine awp_block ?_ | ((first | refine awp_runG [0, 1, 4, 5, 6, 8, 9, 10, 11, 12, 20] hX ?_ | refine awp_drawnG [0, 1, 4, 5, 6, 8, 9, 10, 11, 12, 20] hX mixed ?_ | refine awp_ret ?_ | refine awp_skip ?_ | refine awp_exit ?_); (simp [go_sem, hc]; (try simp (disch := omega) only [w64, td, tm]); try (refine ⟨by kernel_rfl, ?_⟩)))))
        refine ⟨n + 1, ⟨by omega, hk1⟩, by omega, ?_⟩
        rw [e]
        refine sub_of _ [] (by simp [go_sem]) ?_
        simp [go_sem]
    · have : n = C.length := by simp at hc; omega
      subst this
      rw [List.take_length] at hk ⊢
      have e : rightC C h = okH C h := by rw [rightC, hk]; rfl
      rw [e, if_pos hk]
      (repeat (first | refine awp_seq ?_ | refine awp_block ?_ | ((first | refine awp_runG [0, 1, 4, 5, 6, 8, 9, 10, 11, 12, 20] hX ?_ | refine awp_drawnG [0, 1, 4, 5, 6, 8, 9, 10, 11, 12, 20] hX mixed ?_ | refine awp_ret ?_ | refine awp_skip ?_ | refine awp_exit ?_); (simp [go_sem]; try (refine ⟨by kernel_rfl, ?_⟩)))))
      simp [okH]

theorem filled_m (C : List Int) (hl : C.length ≤ 400) (hok : okC' C = true) (l : Int) (hb : 0 ≤ l ∧ l ≤ 1099511627776) : Means true Try.prog 20 [il C, ii l] (ii (fill C l)) := by
  refine means_fn true 21 [.tmp 4] Try.func20 rfl rfl rfl (by simp) (by decide) rfl fun X hX => ?_
  (repeat (first | refine awp_seq ?_ | refine awp_block ?_ | ((first | refine awp_runG [0, 1, 4, 5, 7, 8, 9, 10, 11] hX ?_ | refine awp_drawnG [0, 1, 4, 5, 7, 8, 9, 10, 11] hX mixed ?_ | refine awp_ret ?_ | refine awp_skip ?_ | refine awp_exit ?_); (simp [go_sem]; try (refine ⟨by kernel_rfl, ?_⟩)))))
  refine awp_loop (fun n : Nat => ⟨mkE [(0, il C), (1, ii l), (5, ii (fill (C.take n) l)), (8, il C), (9, ii C.length), (10, ii n)], []⟩) (fun n => n ≤ C.length) (fun n => C.length - n) 0 ?_ ?_ ?_
  · refine sub_of _ [] (by simp [go_sem, fill]) ?_
    simp [go_sem, fill]
  · omega
  · intro n hn
    (repeat (first | refine awp_seq ?_ | refine awp_block ?_ | ((first | refine awp_runG [0, 1, 4, 5, 7, 8, 9, 10, 11] hX ?_ | refine awp_drawnG [0, 1, 4, 5, 7, 8, 9, 10, 11] hX mixed ?_ | refine awp_ret ?_ | refine awp_skip ?_ | refine awp_exit ?_); (simp [go_sem]; try (refine ⟨by kernel_rfl, ?_⟩)))))
    refine awp_cond (b := decide (n < C.length)) (by simp [go_sem]) (fun hc => ?_) (fun hc => ?_)
    · simp at hc
      have e := fill_succ hc l
      have h1 := fill_bd hb (okC_take hok (n + 1))
      rw [List.length_take, e] at h1
      (repeat (first | refine awp_seq ?_ | refine awp_block ?_ | ((first | refine awp_runG [0, 1, 4, 5, 7, 8, 9, 10, 11] hX ?_ | refine awp_drawnG [0, 1, 4, 5, 7, 8, 9, 10, 11] hX mixed ?_ | refine awp_ret ?_ | refine awp_skip ?_ | refine awp_exit ?_); (simp [go_sem, hc]; (try simp (disch := omega) only [w64, td, tm]); try (refine ⟨by kernel_rfl, ?_⟩)))))
      refine ⟨n + 1, by omega, by omega, ?_⟩
      rw [e]
      refine sub_of _ [] (by simp [go_sem]) ?_
      simp [go_sem]
    · have : n = C.length := by simp at hc; omega
      subst this
      rw [List.take_length]
      (repeat (first | refine awp_seq ?_ | refine awp_block ?_ | ((first | refine awp_runG [0, 1, 4, 5, 7, 8, 9, 10, 11] hX ?_ | refine awp_drawnG [0, 1, 4, 5, 7, 8, 9, 10, 11] hX mixed ?_ | refine awp_ret ?_ | refine awp_skip ?_ | refine awp_exit ?_); (simp [go_sem]; try (refine ⟨by kernel_rfl, ?_⟩)))))

set_option maxHeartbeats 4000000 in
set_option maxRecDepth 20000 in
theorem share_m (C : List Int) (hl : C.length ≤ 400) (h : Int) : Means true Try.prog 8 [il C, ii h] (.tup [il (if rightC C h then share C h else []), ii (if rightC C h then 0 else 1)]) := by
  have ht := total_m C hl h
  cases hr : rightC C h with
  | false =>
    rw [hr] at ht
    rw [if_neg (by simp), if_neg (by simp)]
    refine means_fn true 78 [.tmp 4, .tmp 5] Try.func8 rfl rfl rfl (by simp) (by decide) rfl fun X hX => ?_
    (repeat (first | refine awp_seq ?_ | refine awp_block ?_ | ((first | refine awp_runG [0, 1, 4, 5, 6, 7, 8, 9, 10, 11, 12, 14, 15, 22, 25, 33, 43, 52, 53, 54, 55, 67] hX ?_ | refine awp_drawnG [0, 1, 4, 5, 6, 7, 8, 9, 10, 11, 12, 14, 15, 22, 25, 33, 43, 52, 53, 54, 55, 67] hX mixed ?_ | refine awp_ret ?_ | refine awp_skip ?_ | refine awp_exit ?_); (simp [go_sem]; try (refine ⟨by kernel_rfl, ?_⟩)))))
    first | refine callK_intro (ht) rfl (by simp [go_sem]) rfl ?_ | refine callT_intro (ht) rfl (by simp [go_sem]) rfl ?_
    try (simp [go_sem]; try (refine ⟨by kernel_rfl, ?_⟩))
    (repeat (first | refine awp_seq ?_ | refine awp_block ?_ | ((first | refine awp_runG [0, 1, 4, 5, 6, 7, 8, 9, 10, 11, 12, 14, 15, 22, 25, 33, 43, 52, 53, 54, 55, 67] hX ?_ | refine awp_drawnG [0, 1, 4, 5, 6, 7, 8, 9, 10, 11, 12, 14, 15, 22, 25, 33, 43, 52, 53, 54, 55, 67] hX mixed ?_ | refine awp_ret ?_ | refine awp_skip ?_ | refine awp_exit ?_); (simp [go_sem]; try (refine ⟨by kernel_rfl, ?_⟩)))))
    refine awp_cond (b := true) (by simp [go_sem]) (fun _ => ?_) (fun h => by cases h)
    (repeat (first | refine awp_seq ?_ | refine awp_block ?_ | ((first | refine awp_runG [0, 1, 4, 5, 6, 7, 8, 9, 10, 11, 12, 14, 15, 22, 25, 33, 43, 52, 53, 54, 55, 67] hX ?_ | refine awp_drawnG [0, 1, 4, 5, 6, 7, 8, 9, 10, 11, 12, 14, 15, 22, 25, 33, 43, 52, 53, 54, 55, 67] hX mixed ?_ | refine awp_ret ?_ | refine awp_skip ?_ | refine awp_exit ?_); (simp [go_sem]; try (refine ⟨by kernel_rfl, ?_⟩)))))
  | true =>
    have hr2 := hr
    simp only [rightC, okH, Bool.and_eq_true, decide_eq_true_eq] at hr2
    obtain ⟨hok, ⟨_, hh0⟩, hh1⟩ := hr2
    rw [hr, if_pos hok] at ht
    rw [if_pos rfl, if_pos rfl]
    have hsb := sum_bd hok
    by_cases hs : sumL C ≤ h
    · have e : share C h = C := if_pos hs
      rw [e]
      refine means_fn true 78 [.tmp 4, .tmp 5] Try.func8 rfl rfl rfl (by simp) (by decide) rfl fun X hX => ?_
      (repeat (first | refine awp_seq ?_ | refine awp_block ?_ | ((first | refine awp_runG [0, 1, 4, 5, 6, 7, 8, 9, 10, 11, 12, 14, 15, 22, 25, 33, 43, 52, 53, 54, 55, 67] hX ?_ | refine awp_drawnG [0, 1, 4, 5, 6, 7, 8, 9, 10, 11, 12, 14, 15, 22, 25, 33, 43, 52, 53, 54, 55, 67] hX mixed ?_ | refine awp_ret ?_ | refine awp_skip ?_ | refine awp_exit ?_); (simp [go_sem]; try (refine ⟨by kernel_rfl, ?_⟩)))))
      first | refine callK_intro (ht) rfl (by simp [go_sem]) rfl ?_ | refine callT_intro (ht) rfl (by simp [go_sem]) rfl ?_
      try (simp [go_sem]; try (refine ⟨by kernel_rfl, ?_⟩))
      (repeat (first | refine awp_seq ?_ | refine awp_block ?_ | ((first | refine awp_runG [0, 1, 4, 5, 6, 7, 8, 9, 10, 11, 12, 14, 15, 22, 25, 33, 43, 52, 53, 54, 55, 67] hX ?_ | refine awp_drawnG [0, 1, 4, 5, 6, 7, 8, 9, 10, 11, 12, 14, 15, 22, 25, 33, 43, 52, 53, 54, 55, 67] hX mixed ?_ | refine awp_ret ?_ | refine awp_skip ?_ | refine awp_exit ?_); (simp [go_sem]; try (refine ⟨by kernel_rfl, ?_⟩)))))
      refine awp_cond (b := false) (by simp [go_sem]) (fun h => by cases h) (fun _ => ?_)
      (repeat (first | refine awp_seq ?_ | refine awp_block ?_ | ((first | refine awp_runG [0, 1, 4, 5, 6, 7, 8, 9, 10, 11, 12, 14, 15, 22, 25, 33, 43, 52, 53, 54, 55, 67] hX ?_ | refine awp_drawnG [0, 1, 4, 5, 6, 7, 8, 9, 10, 11, 12, 14, 15, 22, 25, 33, 43, 52, 53, 54, 55, 67] hX mixed ?_ | refine awp_ret ?_ | refine awp_skip ?_ | refine awp_exit ?_); (simp [go_sem]; try (refine ⟨by kernel_rfl, ?_⟩)))))
      refine awp_cond (b := true) (by simp [go_sem, hs]) (fun _ => ?_) (fun h => by cases h)
      (repeat (first | refine awp_seq ?_ | refine awp_block ?_ | ((first | refine awp_runG [0, 1, 4, 5, 6, 7, 8, 9, 10, 11, 12, 14, 15, 22, 25, 33, 43, 52, 53, 54, 55, 67] hX ?_ | refine awp_drawnG [0, 1, 4, 5, 6, 7, 8, 9, 10, 11, 12, 14, 15, 22, 25, 33, 43, 52, 53, 54, 55, 67] hX mixed ?_ | refine awp_ret ?_ | refine awp_skip ?_ | refine awp_exit ?_); (simp [go_sem]; try (refine ⟨by kernel_rfl, ?_⟩)))))
      first | refine callH_intro [] (clone_h C (by omega)) (by simp [go_sem]) ?_ | refine callTQ_intro [] (clone_h C (by omega)) (by simp [go_sem]) ?_ | refine callTE_intro [] (clone_h C (by omega)) (by simp [go_sem]) ?_
      try (simp [go_sem]; try (refine ⟨by kernel_rfl, ?_⟩))
      (repeat (first | refine awp_seq ?_ | refine awp_block ?_ | ((first | refine awp_runG [0, 1, 4, 5, 6, 7, 8, 9, 10, 11, 12, 14, 15, 22, 25, 33, 43, 52, 53, 54, 55, 67] hX ?_ | refine awp_drawnG [0, 1, 4, 5, 6, 7, 8, 9, 10, 11, 12, 14, 15, 22, 25, 33, 43, 52, 53, 54, 55, 67] hX mixed ?_ | refine awp_ret ?_ | refine awp_skip ?_ | refine awp_exit ?_); (simp [go_sem]; try (refine ⟨by kernel_rfl, ?_⟩)))))
    · refine means_fn true 78 [.tmp 4, .tmp 5] Try.func8 rfl rfl rfl (by simp) (by decide) rfl fun X hX => ?_
      (repeat (first | refine awp_seq ?_ | refine awp_block ?_ | ((first | refine awp_runG [0, 1, 4, 5, 6, 7, 8, 9, 10, 11, 12, 14, 15, 22, 25, 33, 43, 52, 53, 54, 55, 67] hX ?_ | refine awp_drawnG [0, 1, 4, 5, 6, 7, 8, 9, 10, 11, 12, 14, 15, 22, 25, 33, 43, 52, 53, 54, 55, 67] hX mixed ?_ | refine awp_ret ?_ | refine awp_skip ?_ | refine awp_exit ?_); (simp [go_sem]; try (refine ⟨by kernel_rfl, ?_⟩)))))
      first | refine callK_intro (ht) rfl (by simp [go_sem]) rfl ?_ | refine callT_intro (ht) rfl (by simp [go_sem]) rfl ?_
      try (simp [go_sem]; try (refine ⟨by kernel_rfl, ?_⟩))
      (repeat (first | refine awp_seq ?_ | refine awp_block ?_ | ((first | refine awp_runG [0, 1, 4, 5, 6, 7, 8, 9, 10, 11, 12, 14, 15, 22, 25, 33, 43, 52, 53, 54, 55, 67] hX ?_ | refine awp_drawnG [0, 1, 4, 5, 6, 7, 8, 9, 10, 11, 12, 14, 15, 22, 25, 33, 43, 52, 53, 54, 55, 67] hX mixed ?_ | refine awp_ret ?_ | refine awp_skip ?_ | refine awp_exit ?_); (simp [go_sem]; try (refine ⟨by kernel_rfl, ?_⟩)))))
      refine awp_cond (b := false) (by simp [go_sem]) (fun h => by cases h) (fun _ => ?_)
      (repeat (first | refine awp_seq ?_ | refine awp_block ?_ | ((first | refine awp_runG [0, 1, 4, 5, 6, 7, 8, 9, 10, 11, 12, 14, 15, 22, 25, 33, 43, 52, 53, 54, 55, 67] hX ?_ | refine awp_drawnG [0, 1, 4, 5, 6, 7, 8, 9, 10, 11, 12, 14, 15, 22, 25, 33, 43, 52, 53, 54, 55, 67] hX mixed ?_ | refine awp_ret ?_ | refine awp_skip ?_ | refine awp_exit ?_); (simp [go_sem]; try (refine ⟨by kernel_rfl, ?_⟩)))))
      refine awp_cond (b := false) (by simp [go_sem]; omega) (fun h => by cases h) (fun _ => ?_)
      (repeat (first | refine awp_seq ?_ | refine awp_block ?_ | ((first | refine awp_runG [0, 1, 4, 5, 6, 7, 8, 9, 10, 11, 12, 14, 15, 22, 25, 33, 43, 52, 53, 54, 55, 67] hX ?_ | refine awp_drawnG [0, 1, 4, 5, 6, 7, 8, 9, 10, 11, 12, 14, 15, 22, 25, 33, 43, 52, 53, 54, 55, 67] hX mixed ?_ | refine awp_ret ?_ | refine awp_skip ?_ | refine awp_exit ?_); (simp [go_sem]; try (refine ⟨by kernel_rfl, ?_⟩)))))
      refine awp_loop (fun x : Int × Int => ⟨mkE [(0, il C), (1, ii h), (8, ii x.1), (9, ii x.2)], []⟩) (fun x => 0 ≤ x.1 ∧ x.1 ≤ x.2 ∧ x.2 ≤ 1099511627776 ∧ fill C x.1 ≤ h ∧ (x.2 < 1099511627776 → h < fill C (x.2 + 1))) (fun x => (x.2 - x.1).toNat) (0, 1099511627776) ?_ ?_ ?_
      · refine sub_of _ [] (by simp [go_sem]) ?_
        simp [go_sem]
      · exact ⟨by omega, by omega, by omega, by rw [fill_zero hok]; omega, fun hx => absurd hx (by omega)⟩
      · rintro ⟨lo, hi⟩ ⟨h1, h2, h3, h4, h5⟩
        simp only [] at h1 h2 h3 h4 h5
        (repeat (first | refine awp_seq ?_ | refine awp_block ?_ | ((first | refine awp_runG [0, 1, 4, 5, 6, 7, 8, 9, 10, 11, 12, 14, 15, 22, 25, 33, 43, 52, 53, 54, 55, 67] hX ?_ | refine awp_drawnG [0, 1, 4, 5, 6, 7, 8, 9, 10, 11, 12, 14, 15, 22, 25, 33, 43, 52, 53, 54, 55, 67] hX mixed ?_ | refine awp_ret ?_ | refine awp_skip ?_ | refine awp_exit ?_); (simp [go_sem]; try (refine ⟨by kernel_rfl, ?_⟩)))))
        refine awp_cond (b := decide (lo < hi)) (by simp [go_sem]) (fun hc => ?_) (fun hc => ?_)
        · simp at hc
          have hm : lo < (lo + hi + 1) / 2 ∧ (lo + hi + 1) / 2 ≤ hi := by omega
          have htd : (lo + hi + 1).tdiv 2 = (lo + hi + 1) / 2 := Int.tdiv_eq_ediv_of_nonneg (by omega)
          obtain ⟨m, hme⟩ : ∃ m, (lo + hi + 1) / 2 = m := ⟨_, rfl⟩
          rw [hme] at hm htd
          (repeat (first | refine awp_seq ?_ | refine awp_block ?_ | ((first | refine awp_runG [0, 1, 4, 5, 6, 7, 8, 9, 10, 11, 12, 14, 15, 22, 25, 33, 43, 52, 53, 54, 55, 67] hX ?_ | refine awp_drawnG [0, 1, 4, 5, 6, 7, 8, 9, 10, 11, 12, 14, 15, 22, 25, 33, 43, 52, 53, 54, 55, 67] hX mixed ?_ | refine awp_ret ?_ | refine awp_skip ?_ | refine awp_exit ?_); (simp [go_sem, htd, hme]; (try simp (disch := omega) only [w64, td, tm]); try (refine ⟨by kernel_rfl, ?_⟩)))))
          try (simp [go_sem, htd, hme]; try (refine ⟨by kernel_rfl, ?_⟩))
          first | refine callK_intro (filled_m C hl hok m (by omega)) rfl (by simp [go_sem]) rfl ?_ | refine callT_intro (filled_m C hl hok m (by omega)) rfl (by simp [go_sem]) rfl ?_
          try (simp [go_sem]; try (refine ⟨by kernel_rfl, ?_⟩))
          refine awp_cond (b := decide (fill C m ≤ h)) (by simp [go_sem]) (fun hd => ?_) (fun hd => ?_)
          · simp at hd
            (repeat (first | refine awp_seq ?_ | refine awp_block ?_ | ((first | refine awp_runG [0, 1, 4, 5, 6, 7, 8, 9, 10, 11, 12, 14, 15, 22, 25, 33, 43, 52, 53, 54, 55, 67] hX ?_ | refine awp_drawnG [0, 1, 4, 5, 6, 7, 8, 9, 10, 11, 12, 14, 15, 22, 25, 33, 43, 52, 53, 54, 55, 67] hX mixed ?_ | refine awp_ret ?_ | refine awp_skip ?_ | refine awp_exit ?_); (simp [go_sem]; (try simp (disch := omega) only [w64, td, tm]); try (refine ⟨by kernel_rfl, ?_⟩)))))
            refine ⟨m, hi, ⟨by omega, by omega, h3, hd, h5⟩, by omega, ?_⟩
            refine sub_of _ [] (by simp [go_sem]) ?_
            simp [go_sem]
          · simp at hd
            (repeat (first | refine awp_seq ?_ | refine awp_block ?_ | ((first | refine awp_runG [0, 1, 4, 5, 6, 7, 8, 9, 10, 11, 12, 14, 15, 22, 25, 33, 43, 52, 53, 54, 55, 67] hX ?_ | refine awp_drawnG [0, 1, 4, 5, 6, 7, 8, 9, 10, 11, 12, 14, 15, 22, 25, 33, 43, 52, 53, 54, 55, 67] hX mixed ?_ | refine awp_ret ?_ | refine awp_skip ?_ | refine awp_exit ?_); (simp [go_sem]; (try simp (disch := omega) only [w64, td, tm]); try (refine ⟨by kernel_rfl, ?_⟩)))))
            refine ⟨lo, m - 1, ⟨h1, by omega, by omega, h4, fun _ => by rw [show m - 1 + 1 = m by omega]; omega⟩, by omega, ?_⟩
            refine sub_of _ [] (by simp [go_sem]) ?_
            simp [go_sem]
        · have hlh : lo = hi := by simp at hc; omega
          subst hlh
          have hlt : lo < 1099511627776 := by
            rcases Int.lt_or_le lo 1099511627776 with q | q
            · exact q
            · exfalso
              have : fill C lo = sumL C := fill_top fun c hc => by have := okC_mem hok hc; omega
              omega
          have hlv : isLv C h lo := ⟨h1, h4, h5 hlt⟩
          have e : share C h = shr lo (h - fill C lo) C := by rw [share, if_neg hs, lvl_eq hlv]
          have hle := isLv_left hlv
          have hfb := fill_bd (C := C) ⟨h1, by omega⟩ hok
          rw [e]
          obtain ⟨q, hq⟩ : ∃ q, h - fill C lo = q := ⟨_, rfl⟩
          rw [hq] at hle ⊢
          have hqb : 0 ≤ q ∧ q ≤ 1125899906842624 := by omega
          have hwq := w64 (x := q) (by omega) (by omega)
          (repeat (first | refine awp_seq ?_ | refine awp_block ?_ | ((first | refine awp_runG [0, 1, 4, 5, 6, 7, 8, 9, 10, 11, 12, 14, 15, 22, 25, 33, 43, 52, 53, 54, 55, 67] hX ?_ | refine awp_drawnG [0, 1, 4, 5, 6, 7, 8, 9, 10, 11, 12, 14, 15, 22, 25, 33, 43, 52, 53, 54, 55, 67] hX mixed ?_ | refine awp_ret ?_ | refine awp_skip ?_ | refine awp_exit ?_); (simp [go_sem]; try (refine ⟨by kernel_rfl, ?_⟩)))))
          first | refine callK_intro (filled_m C hl hok lo ⟨h1, by omega⟩) rfl (by simp [go_sem]) rfl ?_ | refine callT_intro (filled_m C hl hok lo ⟨h1, by omega⟩) rfl (by simp [go_sem]) rfl ?_
          try (simp [go_sem, hq, hwq]; try (refine ⟨by kernel_rfl, ?_⟩))
          (repeat (first | refine awp_seq ?_ | refine awp_block ?_ | ((first | refine awp_runG [0, 1, 4, 5, 6, 7, 8, 9, 10, 11, 12, 14, 15, 22, 25, 33, 43, 52, 53, 54, 55, 67] hX ?_ | refine awp_drawnG [0, 1, 4, 5, 6, 7, 8, 9, 10, 11, 12, 14, 15, 22, 25, 33, 43, 52, 53, 54, 55, 67] hX mixed ?_ | refine awp_ret ?_ | refine awp_skip ?_ | refine awp_exit ?_); (simp [go_sem, hq, hwq]; try (refine ⟨by kernel_rfl, ?_⟩)))))
          refine awp_loop (fun k : Nat => ⟨mkE [(8, ii lo), (11, ii (leftA lo q (C.take k))), (12, .ow 0), (52, il C), (53, ii C.length), (54, ii k)], [rowI (shr lo q (C.take k))]⟩) (fun k => k ≤ C.length) (fun k => C.length - k) 0 ?_ ?_ ?_
          · refine sub_of _ [.birth 3 1] (by simp [go_sem, shr, leftA]) ?_
            simp [go_sem, shr, leftA]
          · omega
          · intro k hk
            have hll := shr_len lo (C.take k) q
            rw [List.length_take] at hll
            have hlb := leftA_bd lo (C.take k) q hqb.1
            (repeat (first | refine awp_seq ?_ | refine awp_block ?_ | ((first | refine awp_runG [0, 1, 4, 5, 6, 7, 8, 9, 10, 11, 12, 14, 15, 22, 25, 33, 43, 52, 53, 54, 55, 67] hX ?_ | refine awp_drawnG [0, 1, 4, 5, 6, 7, 8, 9, 10, 11, 12, 14, 15, 22, 25, 33, 43, 52, 53, 54, 55, 67] hX mixed ?_ | refine awp_ret ?_ | refine awp_skip ?_ | refine awp_exit ?_); (simp [go_sem]; try (refine ⟨by kernel_rfl, ?_⟩)))))
            refine awp_cond (b := decide (k < C.length)) (by simp [go_sem]) (fun hc => ?_) (fun hc => ?_)
            · simp at hc
              have es := shr_succ (l := lo) (left := q) hc
              have el := leftA_succ (l := lo) (left := q) hc
              have hcr := okC_mem hok (List.getElem_mem hc)
              (repeat (first | refine awp_seq ?_ | refine awp_block ?_ | ((first | refine awp_runG [0, 1, 4, 5, 6, 7, 8, 9, 10, 11, 12, 14, 15, 22, 25, 33, 43, 52, 53, 54, 55, 67] hX ?_ | refine awp_drawnG [0, 1, 4, 5, 6, 7, 8, 9, 10, 11, 12, 14, 15, 22, 25, 33, 43, 52, 53, 54, 55, 67] hX mixed ?_ | refine awp_ret ?_ | refine awp_skip ?_ | refine awp_exit ?_); (simp [go_sem, hc]; try (refine ⟨by kernel_rfl, ?_⟩)))))
              refine awp_cond (b := decide (lo < C[k] ∧ 0 < leftA lo q (C.take k))) (by simp [go_sem]) (fun hd => ?_) (fun hd => ?_)
              · simp only [decide_eq_true_eq] at hd
                have e1 : share1 lo (leftA lo q (C.take k)) C[k] = min C[k] lo + 1 := by rw [share1, if_pos hd]; omega
                rw [if_pos hd] at el
                rw [e1] at es
                (repeat (first | refine awp_seq ?_ | refine awp_block ?_ | ((first | refine awp_runG [0, 1, 4, 5, 6, 7, 8, 9, 10, 11, 12, 14, 15, 22, 25, 33, 43, 52, 53, 54, 55, 67] hX ?_ | refine awp_drawnG [0, 1, 4, 5, 6, 7, 8, 9, 10, 11, 12, 14, 15, 22, 25, 33, 43, 52, 53, 54, 55, 67] hX mixed ?_ | refine awp_ret ?_ | refine awp_skip ?_ | refine awp_exit ?_); (simp [go_sem]; (try simp (disch := omega) only [w64, td, tm]); try (refine ⟨by kernel_rfl, ?_⟩)))))
                (repeat refine And.intro (by first | omega | (unfold maxLen; omega) | kernel_rfl | (refine ⟨by first | omega | (unfold maxLen; omega), by first | omega | (unfold maxLen; omega)⟩) | grind) ?_)
                (repeat (first | refine awp_seq ?_ | refine awp_block ?_ | ((first | refine awp_runG [0, 1, 4, 5, 6, 7, 8, 9, 10, 11, 12, 14, 15, 22, 25, 33, 43, 52, 53, 54, 55, 67] hX ?_ | refine awp_drawnG [0, 1, 4, 5, 6, 7, 8, 9, 10, 11, 12, 14, 15, 22, 25, 33, 43, 52, 53, 54, 55, 67] hX mixed ?_ | refine awp_ret ?_ | refine awp_skip ?_ | refine awp_exit ?_); (simp [go_sem]; (try simp (disch := omega) only [w64, td, tm]); try (refine ⟨by kernel_rfl, ?_⟩)))))
                refine ⟨k + 1, by omega, by omega, ?_⟩
                rw [es, el]
                refine sub_of _ [.old 2 ⟨3, 1, (shr lo q (C.take k) ++ [min C[k] lo + 1]).map ii⟩] (by simp [go_sem]) ?_
                simp [go_sem]
              · simp only [decide_eq_false_iff_not] at hd
                have e1 : share1 lo (leftA lo q (C.take k)) C[k] = min C[k] lo := by rw [share1, if_neg hd]
                rw [if_neg hd] at el
                rw [e1] at es
                (repeat (first | refine awp_seq ?_ | refine awp_block ?_ | ((first | refine awp_runG [0, 1, 4, 5, 6, 7, 8, 9, 10, 11, 12, 14, 15, 22, 25, 33, 43, 52, 53, 54, 55, 67] hX ?_ | refine awp_drawnG [0, 1, 4, 5, 6, 7, 8, 9, 10, 11, 12, 14, 15, 22, 25, 33, 43, 52, 53, 54, 55, 67] hX mixed ?_ | refine awp_ret ?_ | refine awp_skip ?_ | refine awp_exit ?_); (simp [go_sem]; (try simp (disch := omega) only [w64, td, tm]); try (refine ⟨by kernel_rfl, ?_⟩)))))
                (repeat refine And.intro (by first | omega | (unfold maxLen; omega) | kernel_rfl | (refine ⟨by first | omega | (unfold maxLen; omega), by first | omega | (unfold maxLen; omega)⟩) | grind) ?_)
                (repeat (first | refine awp_seq ?_ | refine awp_block ?_ | ((first | refine awp_runG [0, 1, 4, 5, 6, 7, 8, 9, 10, 11, 12, 14, 15, 22, 25, 33, 43, 52, 53, 54, 55, 67] hX ?_ | refine awp_drawnG [0, 1, 4, 5, 6, 7, 8, 9, 10, 11, 12, 14, 15, 22, 25, 33, 43, 52, 53, 54, 55, 67] hX mixed ?_ | refine awp_ret ?_ | refine awp_skip ?_ | refine awp_exit ?_); (simp [go_sem]; (try simp (disch := omega) only [w64, td, tm]); try (refine ⟨by kernel_rfl, ?_⟩)))))
                refine ⟨k + 1, by omega, by omega, ?_⟩
                rw [es, el, Int.sub_zero]
                refine sub_of _ [.old 2 ⟨3, 1, (shr lo q (C.take k) ++ [min C[k] lo]).map ii⟩] (by simp [go_sem]) ?_
                simp [go_sem]
            · have : k = C.length := by simp at hc; omega
              subst this
              rw [List.take_length]
              (repeat (first | refine awp_seq ?_ | refine awp_block ?_ | ((first | refine awp_runG [0, 1, 4, 5, 6, 7, 8, 9, 10, 11, 12, 14, 15, 22, 25, 33, 43, 52, 53, 54, 55, 67] hX ?_ | refine awp_drawnG [0, 1, 4, 5, 6, 7, 8, 9, 10, 11, 12, 14, 15, 22, 25, 33, 43, 52, 53, 54, 55, 67] hX mixed ?_ | refine awp_ret ?_ | refine awp_skip ?_ | refine awp_exit ?_); (simp [go_sem]; try (refine ⟨by kernel_rfl, ?_⟩)))))

end Go.Proofs.Ytnifpooobleahaa
