/-
  Layer 24: the reference's places and members.
-/
import Derived.Test.YtjgkjenbgadacaaDoorBidH
set_option linter.all false
namespace Go.Proofs.YtjgkjenbgadacaaDoor
open Go.RowKit Go.Ab
attribute [local irreducible] AWP Go.Ab.Sub Means MeansH CallK CallG CallT CallGT CallU

set_option maxHeartbeats 400000 in
theorem rat_m (M : List Int) (hl : M.length ≤ 9223372036854775806) (x : Int) : Means true Tryd.prog 26 [il M, ii x] (ii (atZ M x)) := by
  refine means_fn true 19 [.tmp 4] Tryd.func26 rfl rfl rfl (by simp) (by decide) rfl fun X hX => ?_
  (repeat (first | refine awp_seq ?_ | refine awp_block ?_ | ((first | refine awp_runG [0, 1, 4, 5, 9, 17] hX ?_ | refine awp_drawnG [0, 1, 4, 5, 9, 17] hX mixed ?_ | refine awp_ret ?_ | refine awp_skip ?_ | refine awp_exit ?_); (simp [go_sem]; try (refine ⟨by kernel_rfl, ?_⟩)))))
  refine awp_loop (fun k : Nat => ⟨mkE [(0, il M), (1, ii x), (5, ii k)], []⟩) (fun k => k ≤ M.length ∧ ∀ j (hj : j < M.length), j < k → M[j] ≠ x) (fun k => M.length - k) 0 ?_ ?_ ?_
  · refine sub_of _ [] (by simp [go_sem]) ?_
    simp [go_sem]
  · exact ⟨by omega, by omega⟩
  · rintro k ⟨hk, hn⟩
    (repeat (first | refine awp_seq ?_ | refine awp_block ?_ | ((first | refine awp_runG [0, 1, 4, 5, 9, 17] hX ?_ | refine awp_drawnG [0, 1, 4, 5, 9, 17] hX mixed ?_ | refine awp_ret ?_ | refine awp_skip ?_ | refine awp_exit ?_); (simp [go_sem]; try (refine ⟨by kernel_rfl, ?_⟩)))))
    refine awp_cond (b := decide (k < M.length)) (by simp [go_sem]) (fun hb => ?_) (fun hb => ?_)
    · simp at hb
      have hq := nth_ii hb
      have wk := w64 (x := (k : Int) + 1) (by omega) (by omega)
      (repeat (first | refine awp_seq ?_ | refine awp_block ?_ | ((first | refine awp_runG [0, 1, 4, 5, 9, 17] hX ?_ | refine awp_drawnG [0, 1, 4, 5, 9, 17] hX mixed ?_ | refine awp_ret ?_ | refine awp_skip ?_ | refine awp_exit ?_); (simp [go_sem, hb, hq]; try (refine ⟨by kernel_rfl, ?_⟩)))))
      refine awp_cond (b := decide (M[k] = x)) (by simp [go_sem]) (fun hc => ?_) (fun hc => ?_)
      · simp at hc
        have e : atZ M x = k := by
          have := atI_eq (x := x) hb hc (fun j hj => hn j (by omega) hj)
          unfold atZ
          rw [this, if_pos hb]
        rw [e]
        (repeat (first | refine awp_seq ?_ | refine awp_block ?_ | ((first | refine awp_runG [0, 1, 4, 5, 9, 17] hX ?_ | refine awp_drawnG [0, 1, 4, 5, 9, 17] hX mixed ?_ | refine awp_ret ?_ | refine awp_skip ?_ | refine awp_exit ?_); (simp [go_sem]; try (refine ⟨by kernel_rfl, ?_⟩)))))
      · simp at hc
        (repeat (first | refine awp_seq ?_ | refine awp_block ?_ | ((first | refine awp_runG [0, 1, 4, 5, 9, 17] hX ?_ | refine awp_drawnG [0, 1, 4, 5, 9, 17] hX mixed ?_ | refine awp_ret ?_ | refine awp_skip ?_ | refine awp_exit ?_); (simp [go_sem, wk]; try (refine ⟨by kernel_rfl, ?_⟩)))))
        refine ⟨k + 1, ⟨by omega, fun j hj hjk => ?_⟩, by omega, ?_⟩
        · by_cases e : j = k
          · subst e; exact hc
          · exact hn j hj (by omega)
        · refine sub_of _ [] (by simp [go_sem]) ?_
          simp [go_sem]
    · simp at hb
      have e : atZ M x = -1 := by
        have : x ∉ M := fun h => by
          obtain ⟨h1, h2⟩ := atI_lt h
          exact hn _ h1 (by omega) h2
        unfold atZ
        rw [atI_ge this, if_neg (by omega)]
      rw [e]
      (repeat (first | refine awp_seq ?_ | refine awp_block ?_ | ((first | refine awp_runG [0, 1, 4, 5, 9, 17] hX ?_ | refine awp_drawnG [0, 1, 4, 5, 9, 17] hX mixed ?_ | refine awp_ret ?_ | refine awp_skip ?_ | refine awp_exit ?_); (simp [go_sem]; try (refine ⟨by kernel_rfl, ?_⟩)))))

theorem okMb_take {M : List Int} {k : Nat} (hk : k < M.length) (h : okMb M = true) : 0 ≤ M[k] ∧ M[k] < 200 ∧ atZ M M[k] = k := by
  obtain ⟨h1, h2, _⟩ := (okMb_iff M).1 h
  have h3 := h1 M[k] (List.getElem_mem hk)
  refine ⟨h3.1, h3.2, ?_⟩
  have : atI M M[k] = k := atI_eq hk rfl fun j hj e => by
    exact List.pairwise_iff_getElem.1 h2 j k (by omega) hk hj e
  unfold atZ
  rw [this, if_pos hk]
set_option maxHeartbeats 4000000 in
theorem rmembers_m (M : List Int) (hl : M.length ≤ 9223372036854775806) : Means true Tryd.prog 25 [il M] (bb (okMb M)) := by
  refine means_fn true 40 [.tmp 2] Tryd.func25 rfl rfl rfl (by simp) (by decide) rfl fun X hX => ?_
  (repeat (first | refine awp_seq ?_ | refine awp_block ?_ | ((first | refine awp_runG [0, 2, 3, 7, 31] hX ?_ | refine awp_drawnG [0, 2, 3, 7, 31] hX mixed ?_ | refine awp_ret ?_ | refine awp_skip ?_ | refine awp_exit ?_); (simp [go_sem]; try (refine ⟨by kernel_rfl, ?_⟩)))))
  refine awp_loop (fun k : Nat => ⟨mkE [(0, il M), (3, ii k)], []⟩) (fun k => k ≤ M.length ∧ ∀ j (hj : j < M.length), j < k → 0 ≤ M[j] ∧ M[j] < 200 ∧ atZ M M[j] = j) (fun k => M.length - k) 0 ?_ ?_ ?_
  · refine sub_of _ [] (by simp [go_sem]) ?_
    simp [go_sem]
  · exact ⟨by omega, by omega⟩
  · rintro k ⟨hk, hn⟩
    (repeat (first | refine awp_seq ?_ | refine awp_block ?_ | ((first | refine awp_runG [0, 2, 3, 7, 31] hX ?_ | refine awp_drawnG [0, 2, 3, 7, 31] hX mixed ?_ | refine awp_ret ?_ | refine awp_skip ?_ | refine awp_exit ?_); (simp [go_sem]; try (refine ⟨by kernel_rfl, ?_⟩)))))
    refine awp_cond (b := decide (k < M.length)) (by simp [go_sem]) (fun hb => ?_) (fun hb => ?_)
    · simp at hb
      have hq := nth_ii hb
      have wk := w64 (x := (k : Int) + 1) (by omega) (by omega)
      have c1 := rat_m M hl M[k]
      have hot := fun h => okMb_take (M := M) hb h
      obtain ⟨x, hx⟩ : ∃ x, M[k] = x := ⟨_, rfl⟩
      rw [hx] at c1 hq hot
      (repeat (first | refine awp_seq ?_ | refine awp_block ?_ | ((first | refine awp_runG [0, 2, 3, 7, 31] hX ?_ | refine awp_drawnG [0, 2, 3, 7, 31] hX mixed ?_ | refine awp_ret ?_ | refine awp_skip ?_ | refine awp_exit ?_); (simp [go_sem, hb, hq]; try (refine ⟨by kernel_rfl, ?_⟩)))))
      first | refine callG_intro (fun hg => c1) rfl (by simp [go_sem]) rfl ?_ | refine callGT_intro (fun hg => c1) rfl (by simp [go_sem]) rfl ?_
      try (simp [go_sem, hb, hq]; try (refine ⟨by kernel_rfl, ?_⟩))
      refine awp_cond (b := !(decide (0 ≤ x) && decide (x < 200) && decide (atZ M x = k))) (by simp [go_sem]; grind) (fun hd => ?_) (fun hd => ?_)
      · have e : okMb M = false := by
          rw [← Bool.not_eq_true]
          intro h
          obtain ⟨h1, h2, h3⟩ := hot h
          simp [h1, h2, h3] at hd
        rw [e]
        (repeat (first | refine awp_seq ?_ | refine awp_block ?_ | ((first | refine awp_runG [0, 2, 3, 7, 31] hX ?_ | refine awp_drawnG [0, 2, 3, 7, 31] hX mixed ?_ | refine awp_ret ?_ | refine awp_skip ?_ | refine awp_exit ?_); (simp [go_sem]; try (refine ⟨by kernel_rfl, ?_⟩)))))
      · simp at hd
        (repeat (first | refine awp_seq ?_ | refine awp_block ?_ | ((first | refine awp_runG [0, 2, 3, 7, 31] hX ?_ | refine awp_drawnG [0, 2, 3, 7, 31] hX mixed ?_ | refine awp_ret ?_ | refine awp_skip ?_ | refine awp_exit ?_); (simp [go_sem, wk]; try (refine ⟨by kernel_rfl, ?_⟩)))))
        refine ⟨k + 1, ⟨by omega, fun j hj hjk => ?_⟩, by omega, ?_⟩
        · by_cases e : j = k
          · subst e; rw [hx]; exact ⟨hd.1.1, hd.1.2, hd.2⟩
          · exact hn j hj (by omega)
        · refine sub_of _ [] (by simp [go_sem]) ?_
          simp [go_sem]
    · have hkl : k = M.length := by simp at hb; omega
      subst hkl
      have e : okMb M = (decide (0 < M.length) && decide (M.length ≤ 60)) := by
        have hall : M.all keyB = true := List.all_eq_true.2 fun x hx => by
          obtain ⟨j, hj, rfl⟩ := List.getElem_of_mem hx
          have := hn j hj hj
          simp [keyB, this.1, this.2.1]
        have hnd : M.Nodup := List.pairwise_iff_getElem.2 fun a b ha hb hab e => by
          have h1 := (hn a ha ha).2.2
          have h2 := (hn b hb hb).2.2
          rw [e, h2] at h1
          omega
        simp [okMb, hall, hnd]
      (repeat (first | refine awp_seq ?_ | refine awp_block ?_ | ((first | refine awp_runG [0, 2, 3, 7, 31] hX ?_ | refine awp_drawnG [0, 2, 3, 7, 31] hX mixed ?_ | refine awp_ret ?_ | refine awp_skip ?_ | refine awp_exit ?_); (simp [go_sem]; try (refine ⟨by kernel_rfl, ?_⟩)))))
      rw [e]
      congr 1
      simp
      try omega

end Go.Proofs.YtjgkjenbgadacaaDoor
