/-
  Lemmas for the statement at the top.
-/
import Derived.Test.YtjgkjenbgadacaaDoorP10
import Derived.Test.YtjgkjenbgadacaaDoorP9
import Derived.Test.YtjgkjenbgadacaaDoorP6
set_option linter.all false
namespace Go.Proofs.YtjgkjenbgadacaaDoor
open Go.RowKit Go.Ab
attribute [local irreducible] AWP Go.Ab.Sub Means MeansH CallK CallG CallT CallGT CallU
set_option maxHeartbeats 400000 in
theorem rat_m (M : List Int) (hl : M.length ≤ 9223372036854775806) (x : Int) : Means true Tryd.prog 26 [il M, ii x] (ii (atZ M x)) := by
  refine means_fn true 19 [.tmp 4] Tryd.func26 rfl rfl rfl (by simp) (by decide) rfl fun X hX => ?_
  (repeat (first | refine awp_seq ?_ | refine awp_block ?_ | ((first | refine awp_runG [0, 1, 4, 5, 9, 17] hX ?_ | refine awp_drawnG [0, 1, 4, 5, 9, 17] hX mixed ?_ | refine awp_ret ?_ | refine awp_skip ?_ | refine awp_exit ?_); (simp [go_sem]; try (refine ⟨by kernel_rfl, ?_⟩)))))
  refine awp_loop (fun k : Nat => ⟨mkE [(0, il M), (1, ii x), (5, ii k)], []⟩) (fun k => k ≤ M.length ∧ ∀ j (hj : j < M.length), j < k → M[j] ≠ x) (fun k => M.length - k) 0 ?_ ?_ ?_
  · refine sub_of _ [] (by simp [go_sem]) ?_
    simp [go_sem]
  · exact ⟨by omega, by omega⟩
  · rintro k ⟨hk, hn⟩
    (repeat (first | refine awp_seq ?_ | refine awp_block ?_ | ((first | refine awp_runG [0, 1, 4, 5, 9, 17] hX ?_ | refine awp_drawnG [0, 1, 4, 5, 9, 17] hX mixed ?_ | refine awp_ret ?_ | refine awp_skip ?_ | refine awp_exit ?_); (simp [go_sem]; try (refine ⟨by kernel_rfl, ?_⟩)))))
    refine awp_cond (b := decide (k < M.length)) (by simp [go_sem]) (fun hb => ?_) (fun hb => ?_)
    · simp at hb
      have hq := nth_ii hb
      have wk := w64 (x := (k : Int) + 1) (by omega) (by omega)
      (repeat (first | refine awp_seq ?_ | refine awp_block ?_ | ((first | refine awp_runG [0, 1, 4, 5, 9, 17] hX ?_ | refine awp_drawnG [0, 1, 4, 5, 9, 17] hX mixed ?_ | refine awp_ret ?_ | refine awp_skip ?_ | refine awp_exit ?_); (simp [go_sem, hb, hq]; try (refine ⟨by kernel_rfl, ?_⟩)))))
      refine awp_cond (b := decide (M[k] = x)) (by simp [go_sem]) (fun hc => ?_) (fun hc => ?_)
      · simp at hc
        have e : atZ M x = k := by
          have := atI_eq (x := x) hb hc (fun j hj => hn j (by omega) hj)
          unfold atZ
          rw [this, if_pos hb]
        rw [e]
        (repeat (first | refine awp_seq ?_ | refine awp_block ?_ | ((first | refine awp_runG [0, 1, 4, 5, 9, 17] hX ?_ | refine awp_drawnG [0, 1, 4, 5, 9, 17] hX mixed ?_ | refine awp_ret ?_ | refine awp_skip ?_ | refine awp_exit ?_); (simp [go_sem]; try (refine ⟨by kernel_rfl, ?_⟩)))))
      · simp at hc
        (repeat (first | refine awp_seq ?_ | refine awp_block ?_ | ((first | refine awp_runG [0, 1, 4, 5, 9, 17] hX ?_ | refine awp_drawnG [0, 1, 4, 5, 9, 17] hX mixed ?_ | refine awp_ret ?_ | refine awp_skip ?_ | refine awp_exit ?_); (simp [go_sem, wk]; try (refine ⟨by kernel_rfl, ?_⟩)))))
        refine ⟨k + 1, ⟨by omega, fun j hj hjk => ?_⟩, by omega, ?_⟩
        · by_cases e : j = k
          · subst e; exact hc
          · exact hn j hj (by omega)
        · refine sub_of _ [] (by simp [go_sem]) ?_
          simp [go_sem]
    · simp at hb
      have e : atZ M x = -1 := by
        have : x ∉ M := fun h => by
          obtain ⟨h1, h2⟩ := atI_lt h
          exact hn _ h1 (by omega) h2
        unfold atZ
        rw [atI_ge this, if_neg (by omega)]
      rw [e]
      (repeat (first | refine awp_seq ?_ | refine awp_block ?_ | ((first | refine awp_runG [0, 1, 4, 5, 9, 17] hX ?_ | refine awp_drawnG [0, 1, 4, 5, 9, 17] hX mixed ?_ | refine awp_ret ?_ | refine awp_skip ?_ | refine awp_exit ?_); (simp [go_sem]; try (refine ⟨by kernel_rfl, ?_⟩)))))
theorem okMb_take {M : List Int} {k : Nat} (hk : k < M.length) (h : okMb M = true) : 0 ≤ M[k] ∧ M[k] < 200 ∧ atZ M M[k] = k := by
  obtain ⟨h1, h2, _⟩ := (okMb_iff M).1 h
  have h3 := h1 M[k] (List.getElem_mem hk)
  refine ⟨h3.1, h3.2, ?_⟩
  have : atI M M[k] = k := atI_eq hk rfl fun j hj e => by
    exact List.pairwise_iff_getElem.1 h2 j k (by omega) hk hj e
  unfold atZ
  rw [this, if_pos hk]
set_option maxHeartbeats 4000000 in
theorem rmembers_m (M : List Int) (hl : M.length ≤ 9223372036854775806) : Means true Tryd.prog 25 [il M] (bb (okMb M)) := by
  refine means_fn true 40 [.tmp 2] Tryd.func25 rfl rfl rfl (by simp) (by decide) rfl fun X hX => ?_
  (repeat (first | refine awp_seq ?_ | refine awp_block ?_ | ((first | refine awp_runG [0, 2, 3, 7, 31] hX ?_ | refine awp_drawnG [0, 2, 3, 7, 31] hX mixed ?_ | refine awp_ret ?_ | refine awp_skip ?_ | refine awp_exit ?_); (simp [go_sem]; try (refine ⟨by kernel_rfl, ?_⟩)))))
  refine awp_loop (fun k : Nat => ⟨mkE [(0, il M), (3, ii k)], []⟩) (fun k => k ≤ M.length ∧ ∀ j (hj : j < M.length), j < k → 0 ≤ M[j] ∧ M[j] < 200 ∧ atZ M M[j] = j) (fun k => M.length - k) 0 ?_ ?_ ?_
  · refine sub_of _ [] (by simp [go_sem]) ?_
    simp [go_sem]
  · exact ⟨by omega, by omega⟩
  · rintro k ⟨hk, hn⟩
    (repeat (first | refine awp_seq ?_ | refine awp_block ?_ | ((first | refine awp_runG [0, 2, 3, 7, 31] hX ?_ | refine awp_drawnG [0, 2, 3, 7, 31] hX mixed ?_ | refine awp_ret ?_ | refine awp_skip ?_ | refine awp_exit ?_); (simp [go_sem]; try (refine ⟨by kernel_rfl, ?_⟩)))))
    refine awp_cond (b := decide (k < M.length)) (by simp [go_sem]) (fun hb => ?_) (fun hb => ?_)
    · simp at hb
      have hq := nth_ii hb
      have wk := w64 (x := (k : Int) + 1) (by omega) (by omega)
      have c1 := rat_m M hl M[k]
      have hot := fun h => okMb_take (M := M) hb h
      obtain ⟨x, hx⟩ : ∃ x, M[k] = x := ⟨_, rfl⟩
      rw [hx] at c1 hq hot
      (repeat (first | refine awp_seq ?_ | refine awp_block ?_ | ((first | refine awp_runG [0, 2, 3, 7, 31] hX ?_ | refine awp_drawnG [0, 2, 3, 7, 31] hX mixed ?_ | refine awp_ret ?_ | refine awp_skip ?_ | refine awp_exit ?_); (simp [go_sem, hb, hq]; try (refine ⟨by kernel_rfl, ?_⟩)))))
      first | refine callG_intro (fun hg => c1) rfl (by simp [go_sem]) rfl ?_ | refine callGT_intro (fun hg => c1) rfl (by simp [go_sem]) rfl ?_
      try (simp [go_sem, hb, hq]; try (refine ⟨by kernel_rfl, ?_⟩))
      refine awp_cond (b := !(decide (0 ≤ x) && decide (x < 200) && decide (atZ M x = k))) (by simp [go_sem]; grind) (fun hd => ?_) (fun hd => ?_)
      · have e : okMb M = false := by
          rw [← Bool.not_eq_true]
          intro h
          obtain ⟨h1, h2, h3⟩ := hot h
          simp [h1, h2, h3] at hd
        rw [e]
        (repeat (first | refine awp_seq ?_ | refine awp_block ?_ | ((first | refine awp_runG [0, 2, 3, 7, 31] hX ?_ | refine awp_drawnG [0, 2, 3, 7, 31] hX mixed ?_ | refine awp_ret ?_ | refine awp_skip ?_ | refine awp_exit ?_); (simp [go_sem]; try (refine ⟨by kernel_rfl, ?_⟩)))))
      · simp at hd
        (repeat (first | refine awp_seq ?_ | refine awp_block ?_ | ((first | refine awp_runG [0, 2, 3, 7, 31] hX ?_ | refine awp_drawnG [0, 2, 3, 7, 31] hX mixed ?_ | refine awp_ret ?_ | refine awp_skip ?_ | refine awp_exit ?_); (simp [go_sem, wk]; try (refine ⟨by kernel_rfl, ?_⟩)))))
        refine ⟨k + 1, ⟨by omega, fun j hj hjk => ?_⟩, by omega, ?_⟩
        · by_cases e : j = k
          · subst e; rw [hx]; exact ⟨hd.1.1, hd.1.2, hd.2⟩
          · exact hn j hj (by omega)
        · refine sub_of _ [] (by simp [go_sem]) ?_
          simp [go_sem]
    · have hkl : k = M.length := by simp at hb; omega
      subst hkl
      have e : okMb M = (decide (0 < M.length) && decide (M.length ≤ 60)) := by
        have hall : M.all keyB = true := List.all_eq_true.2 fun x hx => by
          obtain ⟨j, hj, rfl⟩ := List.getElem_of_mem hx
          have := hn j hj hj
          simp [keyB, this.1, this.2.1]
        have hnd : M.Nodup := List.pairwise_iff_getElem.2 fun a b ha hb hab e => by
          have h1 := (hn a ha ha).2.2
          have h2 := (hn b hb hb).2.2
          rw [e, h2] at h1
          omega
        simp [okMb, hall, hnd]
      (repeat (first | refine awp_seq ?_ | refine awp_block ?_ | ((first | refine awp_runG [0, 2, 3, 7, 31] hX ?_ | refine awp_drawnG [0, 2, 3, 7, 31] hX mixed ?_ | refine awp_ret ?_ | refine awp_skip ?_ | refine awp_exit ?_); (simp [go_sem]; try (refine ⟨by kernel_rfl, ?_⟩)))))
      rw [e]
      congr 1
      simp
      try omega
end Go.Proofs.YtjgkjenbgadacaaDoor

namespace Go.Proofs.YtjgkjenbgadacaaDoor
open Go.RowKit Go.Ab
attribute [local irreducible] AWP Go.Ab.Sub Means MeansH CallK CallG CallT CallGT CallU
set_option maxHeartbeats 4000000 in
theorem rone_m (b : Bd) : Means true Tryd.prog 34 [ob b] (bb (okB b)) := by
  obtain ⟨m, w, n, o⟩ := b
  refine means_fn true 35 [.tmp 2] Tryd.func34 rfl rfl rfl (by simp) (by decide) rfl fun X hX => ?_
  (repeat (first | refine awp_seq ?_ | refine awp_block ?_ | ((first | refine awp_runG [0, 1, 2, 20, 23] hX ?_ | refine awp_drawnG [0, 1, 2, 20, 23] hX mixed ?_ | refine awp_ret ?_ | refine awp_skip ?_ | refine awp_exit ?_); (simp [go_sem]; try (refine ⟨by kernel_rfl, ?_⟩)))))
  refine awp_cond (b := !(decide (0 ≤ m) && decide (m ≤ 1073741824) && keyB w)) (by simp [go_sem, keyB]; grind) (fun hd => ?_) (fun hd => ?_)
  · have e : okB ⟨m, w, n, o⟩ = false := by
      simp only [okB]
      have : (decide (0 ≤ m) && decide (m ≤ 1073741824) && keyB w) = false := by simpa only [Bool.not_eq_true'] using hd
      rw [this]; rfl
    rw [e]
    (repeat (first | refine awp_seq ?_ | refine awp_block ?_ | ((first | refine awp_runG [0, 1, 2, 20, 23] hX ?_ | refine awp_drawnG [0, 1, 2, 20, 23] hX mixed ?_ | refine awp_ret ?_ | refine awp_skip ?_ | refine awp_exit ?_); (simp [go_sem]; try (refine ⟨by kernel_rfl, ?_⟩)))))
  · have e : okB ⟨m, w, n, o⟩ = if o then coinB n else decide (n = -1) := by
      simp only [okB]
      have : (decide (0 ≤ m) && decide (m ≤ 1073741824) && keyB w) = true := by simpa only [Bool.not_eq_false'] using hd
      rw [this]; rfl
    rw [e]
    (repeat (first | refine awp_seq ?_ | refine awp_block ?_ | ((first | refine awp_runG [0, 1, 2, 20, 23] hX ?_ | refine awp_drawnG [0, 1, 2, 20, 23] hX mixed ?_ | refine awp_ret ?_ | refine awp_skip ?_ | refine awp_exit ?_); (simp [go_sem]; try (refine ⟨by kernel_rfl, ?_⟩)))))
    cases o with
    | false =>
      refine awp_cond (b := true) (by simp [go_sem]) (fun _ => ?_) (fun h => by cases h)
      (repeat (first | refine awp_seq ?_ | refine awp_block ?_ | ((first | refine awp_runG [0, 1, 2, 20, 23] hX ?_ | refine awp_drawnG [0, 1, 2, 20, 23] hX mixed ?_ | refine awp_ret ?_ | refine awp_skip ?_ | refine awp_exit ?_); (simp [go_sem]; try (refine ⟨by kernel_rfl, ?_⟩)))))
    | true =>
      refine awp_cond (b := false) (by simp [go_sem]) (fun h => by cases h) (fun _ => ?_)
      (repeat (first | refine awp_seq ?_ | refine awp_block ?_ | ((first | refine awp_runG [0, 1, 2, 20, 23] hX ?_ | refine awp_drawnG [0, 1, 2, 20, 23] hX mixed ?_ | refine awp_ret ?_ | refine awp_skip ?_ | refine awp_exit ?_); (simp [go_sem]; try (refine ⟨by kernel_rfl, ?_⟩)))))
      simp [coinB]
theorem clash_at (L : List Bd) (k : Nat) (b : Bd) (hk : k ≤ L.length) : clashB (L.take k) b = false ↔ ∀ j (hj : j < L.length), j < k → L[j].m ≠ b.m ∧ L[j].w ≠ b.w := by
  rw [← Bool.not_eq_true]
  simp only [clashB, List.any_eq_true, Bool.or_eq_true, decide_eq_true_eq]
  constructor
  · intro h j hj hjk
    refine ⟨fun e => h ⟨L[j], List.mem_take_iff_getElem.2 ⟨j, by omega, rfl⟩, .inl e⟩, fun e => h ⟨L[j], List.mem_take_iff_getElem.2 ⟨j, by omega, rfl⟩, .inr e⟩⟩
  · rintro h ⟨x, hx, e⟩
    obtain ⟨j, hj, rfl⟩ := List.mem_take_iff_getElem.1 hx
    have := h j (by omega) (by omega)
    rcases e with e | e
    · exact this.1 e
    · exact this.2 e
set_option maxHeartbeats 8000000 in
set_option maxRecDepth 20000 in
theorem rright_m (L : List Bd) (hl : L.length ≤ 100000) : Means true Tryd.prog 20 [bl L] (bb (okL L)) := by
  refine means_fn true 46 [.tmp 2] Tryd.func20 rfl rfl rfl (by simp) (by decide) rfl fun X hX => ?_
  (repeat (first | refine awp_seq ?_ | refine awp_block ?_ | ((first | refine awp_runG [0, 2, 3, 4, 8, 16, 19, 45] hX ?_ | refine awp_drawnG [0, 2, 3, 4, 8, 16, 19, 45] hX mixed ?_ | refine awp_ret ?_ | refine awp_skip ?_ | refine awp_exit ?_); (simp [go_sem]; try (refine ⟨by kernel_rfl, ?_⟩)))))
  refine awp_loop (fun k : Nat => ⟨mkE [(0, bl L), (3, ii k)], []⟩) (fun k => k ≤ L.length ∧ okL (L.take k) = true) (fun k => L.length - k) 0 ?_ ?_ ?_
  · refine sub_of _ [] (by simp [go_sem]) ?_
    simp [go_sem]
  · simp [okL_nil]
  · rintro k ⟨hk, h1⟩
    (repeat (first | refine awp_seq ?_ | refine awp_block ?_ | ((first | refine awp_runG [0, 2, 3, 4, 8, 16, 19, 45] hX ?_ | refine awp_drawnG [0, 2, 3, 4, 8, 16, 19, 45] hX mixed ?_ | refine awp_ret ?_ | refine awp_skip ?_ | refine awp_exit ?_); (simp [go_sem]; try (refine ⟨by kernel_rfl, ?_⟩)))))
    refine awp_cond (b := decide (k < L.length)) (by simp [go_sem]) (fun hc => ?_) (fun hc => ?_)
    · simp at hc
      have c1 := rone_m L[k]
      have hq := nth_ob hc
      have hot := okL_take hc
      have hca := clash_at L k L[k] hk
      have hnot := @okL_not L (k + 1)
      have wk := w64 (x := (k : Int) + 1) (by omega) (by omega)
      obtain ⟨x, hx⟩ : ∃ x, L[k] = x := ⟨_, rfl⟩
      rw [hx] at c1 hq hot hca
      (repeat (first | refine awp_seq ?_ | refine awp_block ?_ | ((first | refine awp_runG [0, 2, 3, 4, 8, 16, 19, 45] hX ?_ | refine awp_drawnG [0, 2, 3, 4, 8, 16, 19, 45] hX mixed ?_ | refine awp_ret ?_ | refine awp_skip ?_ | refine awp_exit ?_); (simp [go_sem, hc, hq]; try (refine ⟨by kernel_rfl, ?_⟩)))))
      first | refine callK_intro (c1) rfl (by simp [go_sem]) rfl ?_ | refine callT_intro (c1) rfl (by simp [go_sem]) rfl ?_
      try (simp [go_sem, hc, hq]; try (refine ⟨by kernel_rfl, ?_⟩))
      refine awp_cond (b := !okB x) (by simp [go_sem]) (fun hd => ?_) (fun hd => ?_)
      · have e : okL L = false := by
          refine hnot ?_
          rw [← Bool.not_eq_true, hot]
          rintro ⟨_, q2, _⟩
          rw [q2] at hd; cases hd
        (repeat (first | refine awp_seq ?_ | refine awp_block ?_ | ((first | refine awp_runG [0, 2, 3, 4, 8, 16, 19, 45] hX ?_ | refine awp_drawnG [0, 2, 3, 4, 8, 16, 19, 45] hX mixed ?_ | refine awp_ret ?_ | refine awp_skip ?_ | refine awp_exit ?_); (simp [go_sem, e]; try (refine ⟨by kernel_rfl, ?_⟩)))))
      · simp at hd
        (repeat (first | refine awp_seq ?_ | refine awp_block ?_ | ((first | refine awp_runG [0, 2, 3, 4, 8, 16, 19, 45] hX ?_ | refine awp_drawnG [0, 2, 3, 4, 8, 16, 19, 45] hX mixed ?_ | refine awp_ret ?_ | refine awp_skip ?_ | refine awp_exit ?_); (simp [go_sem]; try (refine ⟨by kernel_rfl, ?_⟩)))))
        refine awp_loop (fun j : Nat => ⟨mkE [(0, bl L), (3, ii k), (4, ii j)], []⟩) (fun j => j ≤ k ∧ ∀ i (hi : i < L.length), i < j → L[i].m ≠ x.m ∧ L[i].w ≠ x.w) (fun j => k - j) 0 ?_ ?_ ?_
        · refine sub_of _ [] (by simp [go_sem]) ?_
          simp [go_sem]
        · exact ⟨by omega, by omega⟩
        · rintro j ⟨hj, hn⟩
          (repeat (first | refine awp_seq ?_ | refine awp_block ?_ | ((first | refine awp_runG [0, 2, 3, 4, 8, 16, 19, 45] hX ?_ | refine awp_drawnG [0, 2, 3, 4, 8, 16, 19, 45] hX mixed ?_ | refine awp_ret ?_ | refine awp_skip ?_ | refine awp_exit ?_); (simp [go_sem]; try (refine ⟨by kernel_rfl, ?_⟩)))))
          refine awp_cond (b := decide (j < k)) (by simp [go_sem]) (fun he => ?_) (fun he => ?_)
          · simp at he
            have hjl : j < L.length := by omega
            have hqj := nth_ob hjl
            have wj := w64 (x := (j : Int) + 1) (by omega) (by omega)
            obtain ⟨y, hy⟩ : ∃ y, L[j] = y := ⟨_, rfl⟩
            rw [hy] at hqj
            (repeat (first | refine awp_seq ?_ | refine awp_block ?_ | ((first | refine awp_runG [0, 2, 3, 4, 8, 16, 19, 45] hX ?_ | refine awp_drawnG [0, 2, 3, 4, 8, 16, 19, 45] hX mixed ?_ | refine awp_ret ?_ | refine awp_skip ?_ | refine awp_exit ?_); (simp [go_sem, hc, hq, hjl, hqj]; try (refine ⟨by kernel_rfl, ?_⟩)))))
            try (simp [go_sem, hc, hq, hjl, hqj]; try (refine ⟨by kernel_rfl, ?_⟩))
            refine awp_cond (b := decide (y.m = x.m) || decide (y.w = x.w)) (by simp [go_sem]) (fun hf => ?_) (fun hf => ?_)
            · have e : okL L = false := by
                refine hnot ?_
                rw [← Bool.not_eq_true, hot]
                rintro ⟨_, _, q3⟩
                have := hca.1 q3 j hjl he
                rw [hy] at this
                simp at hf
                rcases hf with hf | hf
                · exact this.1 hf
                · exact this.2 hf
              (repeat (first | refine awp_seq ?_ | refine awp_block ?_ | ((first | refine awp_runG [0, 2, 3, 4, 8, 16, 19, 45] hX ?_ | refine awp_drawnG [0, 2, 3, 4, 8, 16, 19, 45] hX mixed ?_ | refine awp_ret ?_ | refine awp_skip ?_ | refine awp_exit ?_); (simp [go_sem, e]; try (refine ⟨by kernel_rfl, ?_⟩)))))
            · simp at hf
              (repeat (first | refine awp_seq ?_ | refine awp_block ?_ | ((first | refine awp_runG [0, 2, 3, 4, 8, 16, 19, 45] hX ?_ | refine awp_drawnG [0, 2, 3, 4, 8, 16, 19, 45] hX mixed ?_ | refine awp_ret ?_ | refine awp_skip ?_ | refine awp_exit ?_); (simp [go_sem, wj]; try (refine ⟨by kernel_rfl, ?_⟩)))))
              refine ⟨j + 1, ⟨by omega, fun i hi hij => ?_⟩, by omega, ?_⟩
              · by_cases e : i = j
                · subst e; rw [hy]; exact hf
                · exact hn i hi (by omega)
              · refine sub_of _ [] (by simp [go_sem]) ?_
                simp [go_sem]
          · have hjk : j = k := by simp at he; omega
            subst hjk
            (repeat (first | refine awp_seq ?_ | refine awp_block ?_ | ((first | refine awp_runG [0, 2, 3, 4, 8, 16, 19, 45] hX ?_ | refine awp_drawnG [0, 2, 3, 4, 8, 16, 19, 45] hX mixed ?_ | refine awp_ret ?_ | refine awp_skip ?_ | refine awp_exit ?_); (simp [go_sem, wk]; try (refine ⟨by kernel_rfl, ?_⟩)))))
            refine ⟨j + 1, ⟨by omega, hot.2 ⟨h1, hd, hca.2 hn⟩⟩, by omega, ?_⟩
            refine sub_of _ [] (by simp [go_sem]) ?_
            simp [go_sem]
    · have hkl : k = L.length := by simp at hc; omega
      rw [List.take_of_length_le (by omega)] at h1
      (repeat (first | refine awp_seq ?_ | refine awp_block ?_ | ((first | refine awp_runG [0, 2, 3, 4, 8, 16, 19, 45] hX ?_ | refine awp_drawnG [0, 2, 3, 4, 8, 16, 19, 45] hX mixed ?_ | refine awp_ret ?_ | refine awp_skip ?_ | refine awp_exit ?_); (simp [go_sem]; try (refine ⟨by kernel_rfl, ?_⟩)))))
      rw [h1]
set_option maxHeartbeats 8000000 in
set_option maxRecDepth 20000 in
theorem rput_m (L : List Bd) (b : Bd) (hl : L.length ≤ 1000) : Means true Tryd.prog 10 [bl L, ob b] (.tup [bl (put L b).1, ii (put L b).2]) := by
  have c1 := rright_m L (by omega)
  have c2 := rone_m b
  have c3 := rright_m (L ++ [b]) (by simp; omega)
  have hz := zone_ob L
  refine means_fn true 25 [.tmp 4, .tmp 5] Tryd.func10 rfl rfl rfl (by simp) (by decide) rfl fun X hX => ?_
  (repeat (first | refine awp_seq ?_ | refine awp_block ?_ | ((first | refine awp_runG [0, 1, 3, 4, 5, 6, 14, 23] hX ?_ | refine awp_drawnG [0, 1, 3, 4, 5, 6, 14, 23] hX mixed ?_ | refine awp_ret ?_ | refine awp_skip ?_ | refine awp_exit ?_); (simp [go_sem]; try (refine ⟨by kernel_rfl, ?_⟩)))))
  first | refine callK_intro (c1) rfl (by simp [go_sem]) rfl ?_ | refine callT_intro (c1) rfl (by simp [go_sem]) rfl ?_
  try (simp [go_sem]; try (refine ⟨by kernel_rfl, ?_⟩))
  (repeat (first | refine awp_seq ?_ | refine awp_block ?_ | ((first | refine awp_runG [0, 1, 3, 4, 5, 6, 14, 23] hX ?_ | refine awp_drawnG [0, 1, 3, 4, 5, 6, 14, 23] hX mixed ?_ | refine awp_ret ?_ | refine awp_skip ?_ | refine awp_exit ?_); (simp [go_sem]; try (refine ⟨by kernel_rfl, ?_⟩)))))
  first | refine callG_intro (fun hg => c2) rfl (by simp [go_sem]) rfl ?_ | refine callGT_intro (fun hg => c2) rfl (by simp [go_sem]) rfl ?_
  try (simp [go_sem]; try (refine ⟨by kernel_rfl, ?_⟩))
  (repeat (first | refine awp_seq ?_ | refine awp_block ?_ | ((first | refine awp_runG [0, 1, 3, 4, 5, 6, 14, 23] hX ?_ | refine awp_drawnG [0, 1, 3, 4, 5, 6, 14, 23] hX mixed ?_ | refine awp_ret ?_ | refine awp_skip ?_ | refine awp_exit ?_); (simp [go_sem]; try (refine ⟨by kernel_rfl, ?_⟩)))))
  refine awp_cond (b := !okL L || !okB b) (by simp [go_sem]) (fun hd => ?_) (fun hd => ?_)
  · have e : put L b = ([], 1) := by
      unfold put
      rw [if_neg]
      rintro ⟨q1, q2⟩
      rw [q1, q2] at hd; cases hd
    rw [e]
    (repeat (first | refine awp_seq ?_ | refine awp_block ?_ | ((first | refine awp_runG [0, 1, 3, 4, 5, 6, 14, 23] hX ?_ | refine awp_drawnG [0, 1, 3, 4, 5, 6, 14, 23] hX mixed ?_ | refine awp_ret ?_ | refine awp_skip ?_ | refine awp_exit ?_); (simp [go_sem]; try (refine ⟨by kernel_rfl, ?_⟩)))))
  · simp only [Bool.or_eq_false_iff, Bool.not_eq_false'] at hd
    have e : put L b = if clashB L b = true then ([], 5) else (L ++ [b], 0) := by unfold put; rw [if_pos hd]
    have hok : okL (L ++ [b]) = !clashB L b := by
      rw [Bool.eq_iff_iff, okL_snoc]; simp [hd.1, hd.2]
    rw [hok] at c3
    have hbl : bl (L ++ [b]) = .sl (L.map ob ++ [ob b]) := by simp [bl]
    rw [hbl] at c3
    (repeat (first | refine awp_seq ?_ | refine awp_block ?_ | ((first | refine awp_runG [0, 1, 3, 4, 5, 6, 14, 23] hX ?_ | refine awp_skip ?_ | refine awp_exit ?_); (simp [go_sem]; try (refine ⟨by kernel_rfl, ?_⟩)))))
    refine awp_drawUG [0, 1, 3, 4, 5, 6, 14, 23] 4 hX mixed ?_; (simp [go_sem, hz]; try (refine ⟨by kernel_rfl, ?_⟩))
    (repeat refine And.intro (by first | omega | (unfold maxLen; omega) | kernel_rfl | (refine ⟨by first | omega | (unfold maxLen; omega), by first | omega | (unfold maxLen; omega)⟩) | grind) ?_)
    try (repeat refine And.intro (by first | omega | (unfold maxLen; omega) | kernel_rfl | (refine ⟨by first | omega | (unfold maxLen; omega), by first | omega | (unfold maxLen; omega)⟩) | grind) ?_)
    refine ⟨⟨by kernel_rfl, by kernel_rfl⟩, ?_⟩
    (repeat (first | refine awp_seq ?_ | refine awp_block ?_ | ((first | refine awp_runG [0, 1, 3, 4, 5, 6, 14, 23] hX ?_ | refine awp_drawnG [0, 1, 3, 4, 5, 6, 14, 23] hX mixed ?_ | refine awp_ret ?_ | refine awp_skip ?_ | refine awp_exit ?_); (simp [go_sem]; try (refine ⟨by kernel_rfl, ?_⟩)))))
    first | refine callK_intro (c3) rfl (by simp [go_sem]) rfl ?_ | refine callT_intro (c3) rfl (by simp [go_sem]) rfl ?_
    try (simp [go_sem]; try (refine ⟨by kernel_rfl, ?_⟩))
    cases hq : clashB L b with
    | true =>
      rw [hq] at e
      rw [e, if_pos rfl]
      refine awp_cond (b := true) (by simp [go_sem]) (fun _ => ?_) (fun h => by cases h)
      (repeat (first | refine awp_seq ?_ | refine awp_block ?_ | ((first | refine awp_runG [0, 1, 3, 4, 5, 6, 14, 23] hX ?_ | refine awp_drawnG [0, 1, 3, 4, 5, 6, 14, 23] hX mixed ?_ | refine awp_ret ?_ | refine awp_skip ?_ | refine awp_exit ?_); (simp [go_sem]; try (refine ⟨by kernel_rfl, ?_⟩)))))
    | false =>
      rw [hq] at e
      rw [e, if_neg (by simp)]
      refine awp_cond (b := false) (by simp [go_sem]) (fun h => by cases h) (fun _ => ?_)
      (repeat (first | refine awp_seq ?_ | refine awp_block ?_ | ((first | refine awp_runG [0, 1, 3, 4, 5, 6, 14, 23] hX ?_ | refine awp_drawnG [0, 1, 3, 4, 5, 6, 14, 23] hX mixed ?_ | refine awp_ret ?_ | refine awp_skip ?_ | refine awp_exit ?_); (simp [go_sem]; try (refine ⟨by kernel_rfl, ?_⟩)))))
set_option maxHeartbeats 8000000 in
set_option maxRecDepth 20000 in
theorem ropen_m (L : List Bd) (m n : Int) (hl : L.length ≤ 1000) : Means true Tryd.prog 12 [bl L, ii m, ii n] (.tup [bl (opn L m n).1, ii (opn L m n).2]) := by
  have c1 := rright_m L (by omega)
  have hz := zone_ob L
  refine means_fn true 52 [.tmp 6, .tmp 7] Tryd.func12 rfl rfl rfl (by simp) (by decide) rfl fun X hX => ?_
  (repeat (first | refine awp_seq ?_ | refine awp_block ?_ | ((first | refine awp_runG [0, 1, 2, 6, 7, 8, 9, 20, 24, 33, 38] hX ?_ | refine awp_drawnG [0, 1, 2, 6, 7, 8, 9, 20, 24, 33, 38] hX mixed ?_ | refine awp_ret ?_ | refine awp_skip ?_ | refine awp_exit ?_); (simp [go_sem]; try (refine ⟨by kernel_rfl, ?_⟩)))))
  first | refine callK_intro (c1) rfl (by simp [go_sem]) rfl ?_ | refine callT_intro (c1) rfl (by simp [go_sem]) rfl ?_
  try (simp [go_sem]; try (refine ⟨by kernel_rfl, ?_⟩))
  (repeat (first | refine awp_seq ?_ | refine awp_block ?_ | ((first | refine awp_runG [0, 1, 2, 6, 7, 8, 9, 20, 24, 33, 38] hX ?_ | refine awp_drawnG [0, 1, 2, 6, 7, 8, 9, 20, 24, 33, 38] hX mixed ?_ | refine awp_ret ?_ | refine awp_skip ?_ | refine awp_exit ?_); (simp [go_sem]; try (refine ⟨by kernel_rfl, ?_⟩)))))
  refine awp_cond (b := !(okL L && coinB n)) (by simp [go_sem, coinB]; grind) (fun hd => ?_) (fun hd => ?_)
  · have e : opn L m n = ([], 1) := by
      unfold opn
      rw [if_neg]
      rintro ⟨q1, q2⟩
      rw [q1, q2] at hd; cases hd
    rw [e]
    (repeat (first | refine awp_seq ?_ | refine awp_block ?_ | ((first | refine awp_runG [0, 1, 2, 6, 7, 8, 9, 20, 24, 33, 38] hX ?_ | refine awp_drawnG [0, 1, 2, 6, 7, 8, 9, 20, 24, 33, 38] hX mixed ?_ | refine awp_ret ?_ | refine awp_skip ?_ | refine awp_exit ?_); (simp [go_sem]; try (refine ⟨by kernel_rfl, ?_⟩)))))
  · have hd : okL L = true ∧ coinB n = true := by simpa using hd
    have e := congrArg (fun (f : List Bd × Int) => f) (show opn L m n = _ from by unfold opn; rw [if_pos hd])
    (repeat (first | refine awp_seq ?_ | refine awp_block ?_ | ((first | refine awp_runG [0, 1, 2, 6, 7, 8, 9, 20, 24, 33, 38] hX ?_ | refine awp_drawnG [0, 1, 2, 6, 7, 8, 9, 20, 24, 33, 38] hX mixed ?_ | refine awp_ret ?_ | refine awp_skip ?_ | refine awp_exit ?_); (simp [go_sem]; try (refine ⟨by kernel_rfl, ?_⟩)))))
    refine awp_loop (fun k : Nat => ⟨mkE [(0, bl L), (1, ii m), (2, ii n), (8, ii k)], []⟩) (fun k => k ≤ L.length ∧ k ≤ atM L m) (fun k => L.length - k) 0 ?_ ?_ ?_
    · refine sub_of _ [] (by simp [go_sem]) ?_
      simp [go_sem]
    · omega
    · rintro k ⟨hk, hka⟩
      (repeat (first | refine awp_seq ?_ | refine awp_block ?_ | ((first | refine awp_runG [0, 1, 2, 6, 7, 8, 9, 20, 24, 33, 38] hX ?_ | refine awp_drawnG [0, 1, 2, 6, 7, 8, 9, 20, 24, 33, 38] hX mixed ?_ | refine awp_ret ?_ | refine awp_skip ?_ | refine awp_exit ?_); (simp [go_sem]; try (refine ⟨by kernel_rfl, ?_⟩)))))
      refine awp_cond (b := decide (k < L.length)) (by simp [go_sem]) (fun hc => ?_) (fun hc => ?_)
      · simp at hc
        have hq := nth_ob hc
        have wk := w64 (x := (k : Int) + 1) (by omega) (by omega)
        have hset : ∀ y, nth ((L.map ob).set k y) k = y := fun y => nth_some (by rw [List.getElem?_set_self (by simpa using hc)])
        have hat : L[k].m = m → atM L m = k := fun h => by
          have h1 : ¬ k < atM L m := fun q => atM_not q hc h
          omega
        have hnt : L[k].m ≠ m → k + 1 ≤ atM L m := fun h => by
          by_cases q : atM L m = k
          · have q2 : atM L m < L.length := by omega
            have := atM_lt q2
            simp only [q] at this
            exact absurd this h
          · omega
        have hge := List.getElem?_eq_getElem hc
        obtain ⟨x, hx⟩ : ∃ x, L[k] = x := ⟨_, rfl⟩
        rw [hx] at hq hat hnt hge
        (repeat (first | refine awp_seq ?_ | refine awp_block ?_ | ((first | refine awp_runG [0, 1, 2, 6, 7, 8, 9, 20, 24, 33, 38] hX ?_ | refine awp_drawnG [0, 1, 2, 6, 7, 8, 9, 20, 24, 33, 38] hX mixed ?_ | refine awp_ret ?_ | refine awp_skip ?_ | refine awp_exit ?_); (simp [go_sem, hc, hq]; try (refine ⟨by kernel_rfl, ?_⟩)))))
        refine awp_cond (b := !decide (x.m = m)) (by simp [go_sem]) (fun hf => ?_) (fun hf => ?_)
        · simp at hf
          (repeat (first | refine awp_seq ?_ | refine awp_block ?_ | ((first | refine awp_runG [0, 1, 2, 6, 7, 8, 9, 20, 24, 33, 38] hX ?_ | refine awp_drawnG [0, 1, 2, 6, 7, 8, 9, 20, 24, 33, 38] hX mixed ?_ | refine awp_ret ?_ | refine awp_skip ?_ | refine awp_exit ?_); (simp [go_sem, wk]; try (refine ⟨by kernel_rfl, ?_⟩)))))
          refine ⟨k + 1, ⟨by omega, hnt hf⟩, by omega, ?_⟩
          refine sub_of _ [] (by simp [go_sem]) ?_
          simp [go_sem]
        · simp at hf
          have hak := hat hf
          rw [hak, hge] at e
          simp only [] at e
          (repeat (first | refine awp_seq ?_ | refine awp_block ?_ | ((first | refine awp_runG [0, 1, 2, 6, 7, 8, 9, 20, 24, 33, 38] hX ?_ | refine awp_drawnG [0, 1, 2, 6, 7, 8, 9, 20, 24, 33, 38] hX mixed ?_ | refine awp_ret ?_ | refine awp_skip ?_ | refine awp_exit ?_); (simp [go_sem, hc, hq]; try (refine ⟨by kernel_rfl, ?_⟩)))))
          refine awp_cond (b := x.o) (by simp [go_sem]) (fun hg => ?_) (fun hg => ?_)
          · rw [e, if_pos hg]
            (repeat (first | refine awp_seq ?_ | refine awp_block ?_ | ((first | refine awp_runG [0, 1, 2, 6, 7, 8, 9, 20, 24, 33, 38] hX ?_ | refine awp_drawnG [0, 1, 2, 6, 7, 8, 9, 20, 24, 33, 38] hX mixed ?_ | refine awp_ret ?_ | refine awp_skip ?_ | refine awp_exit ?_); (simp [go_sem]; try (refine ⟨by kernel_rfl, ?_⟩)))))
          · rw [e, if_neg (by rw [hg]; simp)]
            (repeat (first | refine awp_seq ?_ | refine awp_block ?_ | ((first | refine awp_runG [0, 1, 2, 6, 7, 8, 9, 20, 24, 33, 38] hX ?_ | refine awp_drawnG [0, 1, 2, 6, 7, 8, 9, 20, 24, 33, 38] hX mixed ?_ | refine awp_ret ?_ | refine awp_skip ?_ | refine awp_exit ?_); (simp [go_sem, hc, hq, hset]; try (refine ⟨by kernel_rfl, ?_⟩)))))
            try (repeat refine And.intro (by first | omega | (unfold maxLen; omega) | kernel_rfl | (refine ⟨by first | omega | (unfold maxLen; omega), by first | omega | (unfold maxLen; omega)⟩) | grind) ?_)
            try (repeat (first | refine awp_seq ?_ | refine awp_block ?_ | ((first | refine awp_runG [0, 1, 2, 6, 7, 8, 9, 20, 24, 33, 38] hX ?_ | refine awp_drawnG [0, 1, 2, 6, 7, 8, 9, 20, 24, 33, 38] hX mixed ?_ | refine awp_ret ?_ | refine awp_skip ?_ | refine awp_exit ?_); (simp [go_sem, hc, hq, hset]; try (refine ⟨by kernel_rfl, ?_⟩)))))
            refine .inr fun y hy => ?_
            rcases List.mem_or_eq_of_mem_set hy with hy | rfl
            · obtain ⟨b, _, rfl⟩ := List.mem_map.1 hy
              rfl
            · rfl
      · have hkl : k = L.length := by simp at hc; omega
        have hle := atM_le L m
        rw [List.getElem?_eq_none (by omega)] at e
        simp only [] at e
        rw [e]
        (repeat (first | refine awp_seq ?_ | refine awp_block ?_ | ((first | refine awp_runG [0, 1, 2, 6, 7, 8, 9, 20, 24, 33, 38] hX ?_ | refine awp_drawnG [0, 1, 2, 6, 7, 8, 9, 20, 24, 33, 38] hX mixed ?_ | refine awp_ret ?_ | refine awp_skip ?_ | refine awp_exit ?_); (simp [go_sem]; try (refine ⟨by kernel_rfl, ?_⟩)))))
theorem winP_none' {L : List Bd} {P : Int} (h : wins L P = none) : winP L P = (0, false) := by unfold winP; rw [h]
theorem winP_some' {L : List Bd} {P : Int} {w : Nat} (h : wins L P = some w) : winP L P = ((w : Int), true) := by unfold winP; rw [h]
set_option maxHeartbeats 8000000 in
set_option maxRecDepth 20000 in
theorem rwinner_m (L : List Bd) (P : Int) (hl : L.length ≤ 1000) : Means true Tryd.prog 16 [bl L, ii P] (.tup [ii (winP L P).1, bb (winP L P).2]) := by
  have hw := bestTo_wins L P
  have hbs := fun k (hk : k < L.length) => (show bestTo (cntB P) L (k + 1) = if cntB P (L.getD k default) && (decide (bestTo (cntB P) L k < 0) || decide ((L.getD (bestTo (cntB P) L k).toNat default).n < (L.getD k default).n)) then (k : Int) else bestTo (cntB P) L k from rfl)
  have hbl : ∀ k, k ≤ L.length → (bestTo (cntB P) L k = -1 ∨ ∃ a : Nat, a < k ∧ bestTo (cntB P) L k = a) := fun k hk => by
    rcases bestTo_spec (cntB P) L k hk with ⟨h, _⟩ | ⟨a, _, h1, h2, _⟩
    · exact .inl h
    · exact .inr ⟨a, h2, h1⟩
  have h0 : bestTo (cntB P) L 0 = -1 := rfl
  have hwn := @winP_none' L P
  have hws := @winP_some' L P
  obtain ⟨B, hB⟩ : ∃ B : Nat → Int, bestTo (cntB P) L = B := ⟨_, rfl⟩
  rw [hB] at h0 hbl hw
  simp only [hB] at hbs
  clear hB
  refine means_fn true 49 [.tmp 4, .tmp 5] Tryd.func16 rfl rfl rfl (by simp) (by decide) rfl fun X hX => ?_
  (repeat (first | refine awp_seq ?_ | refine awp_block ?_ | ((first | refine awp_runG [0, 1, 4, 5, 6, 7, 8, 12, 45] hX ?_ | refine awp_drawnG [0, 1, 4, 5, 6, 7, 8, 12, 45] hX mixed ?_ | refine awp_ret ?_ | refine awp_skip ?_ | refine awp_exit ?_); (simp [go_sem]; try (refine ⟨by kernel_rfl, ?_⟩)))))
  refine awp_loop (fun k : Nat => ⟨mkE [(0, bl L), (1, ii P), (6, ii (max (B k) 0)), (7, bb (decide (0 ≤ B k))), (8, ii k)], []⟩) (fun k => k ≤ L.length) (fun k => L.length - k) 0 ?_ ?_ ?_
  · rw [h0, show max (-1 : Int) 0 = 0 by decide]
    refine sub_of _ [] (by simp [go_sem]) ?_
    simp [go_sem]
  · omega
  · intro k hk
    have hmm : max (-1 : Int) 0 = 0 := by decide
    (repeat (first | refine awp_seq ?_ | refine awp_block ?_ | ((first | refine awp_runG [0, 1, 4, 5, 6, 7, 8, 12, 45] hX ?_ | refine awp_drawnG [0, 1, 4, 5, 6, 7, 8, 12, 45] hX mixed ?_ | refine awp_ret ?_ | refine awp_skip ?_ | refine awp_exit ?_); (simp [go_sem]; try (refine ⟨by kernel_rfl, ?_⟩)))))
    refine awp_cond (b := decide (k < L.length)) (by simp [go_sem]) (fun hc => ?_) (fun hc => ?_)
    · simp at hc
      have hq := nth_ob hc
      have hs := hbs k hc
      have wk := w64 (x := (k : Int) + 1) (by omega) (by omega)
      rw [gB hc] at hs
      generalize L[k] = x at *
      rcases hbl k hk with hb | ⟨a, ha, hb⟩
      · rw [hb] at hs ⊢
        rw [hmm]
        have hL : 0 < L.length := by omega
        have hq0 := nth_ob hL
        (repeat (first | refine awp_seq ?_ | refine awp_block ?_ | ((first | refine awp_runG [0, 1, 4, 5, 6, 7, 8, 12, 45] hX ?_ | refine awp_drawnG [0, 1, 4, 5, 6, 7, 8, 12, 45] hX mixed ?_ | refine awp_ret ?_ | refine awp_skip ?_ | refine awp_exit ?_); (simp [go_sem, hc, hq, hL, hq0]; try (refine ⟨by kernel_rfl, ?_⟩)))))
        try (simp [go_sem, hc, hq, hL, hq0]; try (refine ⟨by kernel_rfl, ?_⟩))
        refine awp_cond (b := cntB P x) (by simp [go_sem, cntB]) (fun hd => ?_) (fun hd => ?_)
        · rw [hd] at hs
          have hs2 : B (k + 1) = k := by rw [hs]; simp
          (repeat (first | refine awp_seq ?_ | refine awp_block ?_ | ((first | refine awp_runG [0, 1, 4, 5, 6, 7, 8, 12, 45] hX ?_ | refine awp_drawnG [0, 1, 4, 5, 6, 7, 8, 12, 45] hX mixed ?_ | refine awp_ret ?_ | refine awp_skip ?_ | refine awp_exit ?_); (simp [go_sem, wk]; try (refine ⟨by kernel_rfl, ?_⟩)))))
          refine ⟨k + 1, by omega, by omega, ?_⟩
          rw [hs2]
          refine sub_of _ [] (by simp [go_sem]) ?_
          simp [go_sem]
          try omega
        · rw [hd] at hs
          have hs2 : B (k + 1) = -1 := by rw [hs]; simp
          (repeat (first | refine awp_seq ?_ | refine awp_block ?_ | ((first | refine awp_runG [0, 1, 4, 5, 6, 7, 8, 12, 45] hX ?_ | refine awp_drawnG [0, 1, 4, 5, 6, 7, 8, 12, 45] hX mixed ?_ | refine awp_ret ?_ | refine awp_skip ?_ | refine awp_exit ?_); (simp [go_sem, wk]; try (refine ⟨by kernel_rfl, ?_⟩)))))
          refine ⟨k + 1, by omega, by omega, ?_⟩
          rw [hs2, hmm]
          refine sub_of _ [] (by simp [go_sem]) ?_
          simp [go_sem]
      · have haL : a < L.length := by omega
        rw [hb, Int.toNat_natCast, gB haL] at hs
        rw [hb]
        have hqa := nth_ob haL
        generalize L[a] = y at *
        have hm : max (a : Int) 0 = a := by omega
        rw [hm]
        (repeat (first | refine awp_seq ?_ | refine awp_block ?_ | ((first | refine awp_runG [0, 1, 4, 5, 6, 7, 8, 12, 45] hX ?_ | refine awp_drawnG [0, 1, 4, 5, 6, 7, 8, 12, 45] hX mixed ?_ | refine awp_ret ?_ | refine awp_skip ?_ | refine awp_exit ?_); (simp [go_sem, hc, hq, haL, hqa]; try (refine ⟨by kernel_rfl, ?_⟩)))))
        try (simp [go_sem, hc, hq, haL, hqa]; try (refine ⟨by kernel_rfl, ?_⟩))
        refine awp_cond (b := cntB P x && decide (y.n < x.n)) (by simp [go_sem, cntB, Bool.and_assoc]) (fun hd => ?_) (fun hd => ?_)
        · have hs2 : B (k + 1) = k := by
            rw [hs, if_pos]
            simp only [Bool.and_eq_true, decide_eq_true_eq] at hd
            simp [hd.1, hd.2]
          (repeat (first | refine awp_seq ?_ | refine awp_block ?_ | ((first | refine awp_runG [0, 1, 4, 5, 6, 7, 8, 12, 45] hX ?_ | refine awp_drawnG [0, 1, 4, 5, 6, 7, 8, 12, 45] hX mixed ?_ | refine awp_ret ?_ | refine awp_skip ?_ | refine awp_exit ?_); (simp [go_sem, wk]; try (refine ⟨by kernel_rfl, ?_⟩)))))
          refine ⟨k + 1, by omega, by omega, ?_⟩
          rw [hs2]
          refine sub_of _ [] (by simp [go_sem]) ?_
          simp [go_sem]
          try omega
        · have hs2 : B (k + 1) = a := by
            rw [hs, if_neg]
            rw [← Bool.not_eq_true] at hd
            intro h
            apply hd
            simp only [Bool.and_eq_true, Bool.or_eq_true, decide_eq_true_eq] at h ⊢
            refine ⟨h.1, ?_⟩
            rcases h.2 with h2 | h2
            · omega
            · exact h2
          (repeat (first | refine awp_seq ?_ | refine awp_block ?_ | ((first | refine awp_runG [0, 1, 4, 5, 6, 7, 8, 12, 45] hX ?_ | refine awp_drawnG [0, 1, 4, 5, 6, 7, 8, 12, 45] hX mixed ?_ | refine awp_ret ?_ | refine awp_skip ?_ | refine awp_exit ?_); (simp [go_sem, wk]; try (refine ⟨by kernel_rfl, ?_⟩)))))
          refine ⟨k + 1, by omega, by omega, ?_⟩
          rw [hs2, hm]
          refine sub_of _ [] (by simp [go_sem]) ?_
          simp [go_sem]
    · have hkl : k = L.length := by simp at hc; omega
      subst hkl
      rcases hw with ⟨w1, w2⟩ | ⟨a, _, w1, w2⟩
      · rw [hwn w2, w1, show max (-1 : Int) 0 = 0 by decide]
        (repeat (first | refine awp_seq ?_ | refine awp_block ?_ | ((first | refine awp_runG [0, 1, 4, 5, 6, 7, 8, 12, 45] hX ?_ | refine awp_drawnG [0, 1, 4, 5, 6, 7, 8, 12, 45] hX mixed ?_ | refine awp_ret ?_ | refine awp_skip ?_ | refine awp_exit ?_); (simp [go_sem]; try (refine ⟨by kernel_rfl, ?_⟩)))))
      · have hm : max (a : Int) 0 = a := by omega
        rw [hws w2, w1, hm]
        (repeat (first | refine awp_seq ?_ | refine awp_block ?_ | ((first | refine awp_runG [0, 1, 4, 5, 6, 7, 8, 12, 45] hX ?_ | refine awp_drawnG [0, 1, 4, 5, 6, 7, 8, 12, 45] hX mixed ?_ | refine awp_ret ?_ | refine awp_skip ?_ | refine awp_exit ?_); (simp [go_sem]; try (refine ⟨by kernel_rfl, ?_⟩)))))
set_option maxHeartbeats 8000000 in
theorem rsame_t (L : List Bd) (hl : L.length ≤ 100000) : Means true Tryd.prog 17 [bl L, bl L] (bb true) := by
  refine means_fn true 26 [.tmp 4] Tryd.func17 rfl rfl rfl (by simp) (by decide) rfl fun X hX => ?_
  (repeat (first | refine awp_seq ?_ | refine awp_block ?_ | ((first | refine awp_runG [0, 1, 4, 5, 10, 14, 25] hX ?_ | refine awp_drawnG [0, 1, 4, 5, 10, 14, 25] hX mixed ?_ | refine awp_ret ?_ | refine awp_skip ?_ | refine awp_exit ?_); (simp [go_sem]; try (refine ⟨by kernel_rfl, ?_⟩)))))
  refine awp_cond (b := false) (by simp [go_sem]) (fun h => by cases h) (fun _ => ?_)
  (repeat (first | refine awp_seq ?_ | refine awp_block ?_ | ((first | refine awp_runG [0, 1, 4, 5, 10, 14, 25] hX ?_ | refine awp_drawnG [0, 1, 4, 5, 10, 14, 25] hX mixed ?_ | refine awp_ret ?_ | refine awp_skip ?_ | refine awp_exit ?_); (simp [go_sem]; try (refine ⟨by kernel_rfl, ?_⟩)))))
  refine awp_loop (fun k : Nat => ⟨mkE [(0, bl L), (1, bl L), (5, ii k)], []⟩) (fun k => k ≤ L.length) (fun k => L.length - k) 0 ?_ ?_ ?_
  · refine sub_of _ [] (by simp [go_sem]) ?_
    simp [go_sem]
  · omega
  · intro k hk
    (repeat (first | refine awp_seq ?_ | refine awp_block ?_ | ((first | refine awp_runG [0, 1, 4, 5, 10, 14, 25] hX ?_ | refine awp_drawnG [0, 1, 4, 5, 10, 14, 25] hX mixed ?_ | refine awp_ret ?_ | refine awp_skip ?_ | refine awp_exit ?_); (simp [go_sem]; try (refine ⟨by kernel_rfl, ?_⟩)))))
    refine awp_cond (b := decide (k < L.length)) (by simp [go_sem]) (fun hc => ?_) (fun hc => ?_)
    · simp at hc
      have hq := nth_ob hc
      have wk := w64 (x := (k : Int) + 1) (by omega) (by omega)
      generalize L[k] = x at *
      (repeat (first | refine awp_seq ?_ | refine awp_block ?_ | ((first | refine awp_runG [0, 1, 4, 5, 10, 14, 25] hX ?_ | refine awp_drawnG [0, 1, 4, 5, 10, 14, 25] hX mixed ?_ | refine awp_ret ?_ | refine awp_skip ?_ | refine awp_exit ?_); (simp [go_sem, hc, hq]; try (refine ⟨by kernel_rfl, ?_⟩)))))
      try (simp [go_sem, hc, hq]; try (refine ⟨by kernel_rfl, ?_⟩))
      refine awp_cond (b := false) (by simp [go_sem]) (fun h => by cases h) (fun _ => ?_)
      (repeat (first | refine awp_seq ?_ | refine awp_block ?_ | ((first | refine awp_runG [0, 1, 4, 5, 10, 14, 25] hX ?_ | refine awp_drawnG [0, 1, 4, 5, 10, 14, 25] hX mixed ?_ | refine awp_ret ?_ | refine awp_skip ?_ | refine awp_exit ?_); (simp [go_sem, wk]; try (refine ⟨by kernel_rfl, ?_⟩)))))
      refine ⟨k + 1, by omega, by omega, ?_⟩
      refine sub_of _ [] (by simp [go_sem]) ?_
      simp [go_sem]
    · (repeat (first | refine awp_seq ?_ | refine awp_block ?_ | ((first | refine awp_runG [0, 1, 4, 5, 10, 14, 25] hX ?_ | refine awp_drawnG [0, 1, 4, 5, 10, 14, 25] hX mixed ?_ | refine awp_ret ?_ | refine awp_skip ?_ | refine awp_exit ?_); (simp [go_sem]; try (refine ⟨by kernel_rfl, ?_⟩)))))
end Go.Proofs.YtjgkjenbgadacaaDoor

namespace Go.Proofs.YtjgkjenbgadacaaDoor
open Go.Ab
theorem insL_get {α : Type} {A : List α} {t : Nat} {v : α} (ht : t ≤ A.length) (i : Nat) : (insL t v A)[i]? = if i < t then A[i]? else if i = t then some v else A[i - 1]? := by
  unfold insL
  have hl : (A.take t).length = t := by simp; omega
  by_cases h1 : i < t
  · rw [if_pos h1, List.getElem?_append_left (by omega), List.getElem?_take, if_pos h1]
  · rw [if_neg h1, List.getElem?_append_right (by omega), hl]
    by_cases h2 : i = t
    · subst h2; simp
    · rw [if_neg h2]
      obtain ⟨d, hd⟩ : ∃ d, i - t = d + 1 := ⟨i - t - 1, by omega⟩
      rw [hd, List.getElem?_cons_succ, List.getElem?_drop]
      congr 1; omega
theorem sumL_nonneg : ∀ {A : List Int}, (∀ x ∈ A, 0 ≤ x) → 0 ≤ sumL A
  | [], _ => by simp
  | a :: A, h => by
    have h1 := h a (by simp)
    have h2 := sumL_nonneg (A := A) fun x hx => h x (by simp [hx])
    rw [sumL_cons]; omega
theorem sumL_part {A : List Int} (h : ∀ x ∈ A, 0 ≤ x) (k : Nat) : 0 ≤ sumL (A.take k) ∧ sumL (A.take k) ≤ sumL A := by
  have e : sumL A = sumL (A.take k) + sumL (A.drop k) := by rw [← sumL_app, List.take_append_drop]
  have h1 := sumL_nonneg (A := A.take k) fun x hx => h x (List.mem_of_mem_take hx)
  have h2 := sumL_nonneg (A := A.drop k) fun x hx => h x (List.mem_of_mem_drop hx)
  omega
theorem pot_shape {L : List Bd} {P : Int} {M : List Int} {b : Bd} (hok : okL L = true ∧ coinB P = true ∧ okMb M = true) (hw : winB L P M = some b) :
    ∃ (t : Nat) (ht : t < M.length) (v : Int) (A : List Int), (potS L P M).1 = insL t v A ∧ (potS L P M).2 = 0 ∧ M[t] = b.w ∧ A.length + 1 = M.length ∧ (M.length ≠ 1 → v = P - b.n) ∧ v + sumL A = P ∧ 0 ≤ v ∧ v ≤ P ∧
      ∃ q : Int, 0 ≤ q ∧ q ≤ P ∧ (∀ x ∈ A, q ≤ x ∧ x ≤ q + 1 ∧ x ≤ P) ∧ ∀ i j (hi : i < A.length) (hj : j < A.length), i < j → A[j] ≤ A[i] := by
  obtain ⟨hbL, hbM, hbc⟩ := winB_some hw
  obtain ⟨ht, hte⟩ := atI_lt hbM
  obtain ⟨_, _, h0, h60⟩ := (okMb_iff M).1 hok.2.2
  have hP : 0 ≤ P := by have := hok.2.1; simp [coinB] at this; omega
  have hbn : 0 ≤ b.n ∧ b.n ≤ P := by
    have h1 := ((okL_iff L).1 hok.1).1 b hbL
    simp only [cntB, Bool.and_eq_true, decide_eq_true_eq] at hbc
    simp only [okB, Bool.and_eq_true, hbc.1, if_true, coinB, decide_eq_true_eq] at h1
    omega
  by_cases h1 : M.length = 1
  · have hp : potS L P M = ([P], 0) := by unfold potS; rw [if_pos hok, hw]; simp only []; rw [if_pos h1]
    rw [hp]
    have ht0 : atI M b.w = 0 := by omega
    exact ⟨atI M b.w, ht, P, [], by rw [ht0]; rfl, rfl, hte, by simp [h1], fun h => absurd h1 h, by simp, hP, Int.le_refl _, 0, by omega, hP, by simp, by simp⟩
  · have hp : potS L P M = (insL (atI M b.w) (P - b.n) (evens b.n (M.length - 1)), 0) := by unfold potS; rw [if_pos hok, hw]; simp only []; rw [if_neg h1]
    rw [hp]
    have hk : 0 < M.length - 1 := by omega
    obtain ⟨e1, e2, e3⟩ := evens_spec (n := b.n) hk
    have hq0 : 0 ≤ b.n / ((M.length - 1 : Nat) : Int) := Int.ediv_nonneg hbn.1 (by omega)
    have hnn : ∀ x ∈ evens b.n (M.length - 1), 0 ≤ x := fun x hx => by
      obtain ⟨i, hi, rfl⟩ := List.getElem_of_mem hx
      have := e2 i hi
      omega
    have hmx : ∀ x ∈ evens b.n (M.length - 1), x ≤ b.n := fun x hx => by
      obtain ⟨i, hi, rfl⟩ := List.getElem_of_mem hx
      have h3 := sumL_part hnn (i + 1)
      rw [sumL_succ hi, e1] at h3
      have h4 := sumL_part hnn i
      omega
    refine ⟨atI M b.w, ht, P - b.n, _, rfl, rfl, hte, by rw [evens_len]; omega, fun _ => rfl, by rw [e1]; omega, by omega, by omega, b.n / ((M.length - 1 : Nat) : Int), hq0, ?_, fun x hx => ?_, e3⟩
    · have hl := evens_len b.n (M.length - 1)
      have h5 := e2 0 (by omega)
      have h6 := hmx _ (List.getElem_mem (show 0 < (evens b.n (M.length - 1)).length by omega))
      omega
    · have h6 := hmx x hx
      obtain ⟨i, hi, rfl⟩ := List.getElem_of_mem hx
      have := e2 i hi
      omega
end Go.Proofs.YtjgkjenbgadacaaDoor

namespace Go.Proofs.YtjgkjenbgadacaaDoor
def took (n : Nat) (O : List Int) : List Bool := (List.range n).map fun i : Nat => decide ((i : Int) ∈ O)
theorem took_len (n : Nat) (O : List Int) : (took n O).length = n := by simp [took]
theorem took_at {n : Nat} {O : List Int} {i : Nat} (h : i < (took n O).length) : (took n O)[i] = decide ((i : Int) ∈ O) := by simp [took]
theorem took_none (n : Nat) : took n [] = List.replicate n false := by
  apply List.ext_getElem
  · simp [took]
  · intro i h1 h2; rw [took_at h1]; simp
theorem took_succ {n : Nat} {O : List Int} {j b : Nat} (hj : j < O.length) (h : O[j] = (b : Int)) : took n (O.take (j + 1)) = (took n (O.take j)).set b true := by
  apply List.ext_getElem
  · simp [took]
  · intro i h1 h2
    rw [took_at h1, List.getElem_set]
    rw [List.length_set] at h2
    rw [took_at h2, List.take_succ_eq_append_getElem hj, h]
    by_cases e : b = i
    · subst e; simp
    · rw [if_neg e]
      have : ¬ (i : Int) = b := by omega
      simp [this]
theorem next_free {R : List Int} {O : List Int} (hO : O = srt (kR R) (idxI R.length)) {k : Nat} (hk : k < O.length) {b : Nat} (hb : b < R.length) (hnb : ¬ (b : Int) ∈ O.take k)
    (h1 : ∀ j (hj : j < R.length), ¬ (j : Int) ∈ O.take k → R[j] ≤ R[b]) (h2 : ∀ j (hj : j < R.length), j < b → ¬ (j : Int) ∈ O.take k → R[j] < R[b]) : O[k] = (b : Int) := by
  have hp : O.Perm (idxI R.length) := by rw [hO]; exact srt_perm _ _
  have hnd : O.Nodup := hp.symm.nodup (idxI_nodup _)
  have hmem : ∀ x, x ∈ O ↔ 0 ≤ x ∧ x < R.length := fun x => by rw [hp.mem_iff]; exact idxI_mem
  have hsrt : O.Pairwise (bef (kR R)) := by rw [hO]; exact srt_sorted (idxI_nodup _)
  have hx := (hmem O[k]).1 (List.getElem_mem hk)
  obtain ⟨m, hm⟩ : ∃ m, (O[k]).toNat = m := ⟨_, rfl⟩
  have hmx : (m : Int) = O[k] := by omega
  have hmR : m < R.length := by omega
  have hnot : (m : Int) ∉ O.take k := by
    intro q
    obtain ⟨j, hj, e⟩ := List.getElem_of_mem q
    rw [List.getElem_take, hmx] at e
    have hjk : j < k := by rw [List.length_take] at hj; omega
    exact absurd e (List.pairwise_iff_getElem.1 hnd j k (by omega) hk hjk)
  have hle := h1 m hmR hnot
  have hbO : (b : Int) ∈ O := (hmem b).2 ⟨by omega, by omega⟩
  obtain ⟨j, hj, e⟩ := List.getElem_of_mem hbO
  rcases Nat.lt_trichotomy j k with q | q | q
  · exact absurd (by rw [← e]; exact List.mem_take_iff_getElem.2 ⟨j, by omega, rfl⟩) hnb
  · subst q; exact e
  · have hbef := List.pairwise_iff_getElem.1 hsrt k j hk hj q
    rw [e] at hbef
    have k1 : kR R O[k] = R[m] := by unfold kR; rw [hm, List.getD_eq_getElem?_getD, List.getElem?_eq_getElem hmR]; rfl
    have k2 : kR R (b : Int) = R[b] := by unfold kR; rw [Int.toNat_natCast, List.getD_eq_getElem?_getD, List.getElem?_eq_getElem hb]; rfl
    unfold bef at hbef
    rw [k1, k2] at hbef
    rcases hbef with h | ⟨h, h'⟩
    · omega
    · have := h2 m hmR (by omega) hnot
      omega
def isFree (R : List Int) (O : List Int) (k : Nat) (b : Int) : Prop :=
  (b = -1 ∧ ∀ j, j < k → (j : Int) ∈ O) ∨ ∃ p : Nat, b = p ∧ p < k ∧ ∃ hp : p < R.length, ¬ (p : Int) ∈ O ∧ (∀ j (hj : j < R.length), j < k → ¬ (j : Int) ∈ O → R[j] ≤ R[p]) ∧ ∀ j (hj : j < R.length), j < p → ¬ (j : Int) ∈ O → R[j] < R[p]
theorem isFree_taken {R O : List Int} {k : Nat} {b : Int} (h : isFree R O k b) (ht : (k : Int) ∈ O) : isFree R O (k + 1) b := by
  rcases h with ⟨e, h⟩ | ⟨p, e, hp, hpR, h1, h2, h3⟩
  · exact .inl ⟨e, fun j hj => by
      by_cases q : j = k
      · subst q; exact ht
      · exact h j (by omega)⟩
  · exact .inr ⟨p, e, by omega, hpR, h1, fun j hj hjk hn => by
      by_cases q : j = k
      · subst q; exact absurd ht hn
      · exact h2 j hj (by omega) hn, h3⟩
theorem isFree_take {R O : List Int} {k : Nat} {b : Int} (h : isFree R O k b) (hk : k < R.length) (ht : ¬ (k : Int) ∈ O) (hb : b < 0 ∨ ∃ p : Nat, b = p ∧ ∃ hp : p < R.length, R[p] < R[k]) : isFree R O (k + 1) k := by
  refine .inr ⟨k, rfl, by omega, hk, ht, fun j hj hjk hn => ?_, fun j hj hjk hn => ?_⟩ <;> rcases h with ⟨e, h⟩ | ⟨p, e, hp, hpR, h1, h2, h3⟩
  · by_cases q : j = k
    · subst q; exact Int.le_refl _
    · exact absurd (h j (by omega)) hn
  · by_cases q : j = k
    · subst q; exact Int.le_refl _
    · have := h2 j hj (by omega) hn
      rcases hb with hb | ⟨p', e', hp', hb⟩
      · omega
      · have : p = p' := by omega
        subst this; omega
  · exact absurd (h j (by omega)) hn
  · have := h2 j hj (by omega) hn
    rcases hb with hb | ⟨p', e', hp', hb⟩
    · omega
    · have : p = p' := by omega
      subst this; omega
theorem isFree_keep {R O : List Int} {k : Nat} {p : Nat} (h : isFree R O k p) (hk : k < R.length) (hp : p < R.length) (hb : R[k] ≤ R[p]) : isFree R O (k + 1) p := by
  rcases h with ⟨e, h⟩ | ⟨p', e, hp', hpR, h1, h2, h3⟩
  · omega
  · have : p = p' := by omega
    subst this
    exact .inr ⟨p, rfl, by omega, hpR, h1, fun j hj hjk hn => by
      by_cases q : j = k
      · subst q; exact hb
      · exact h2 j hj (by omega) hn, h3⟩
end Go.Proofs.YtjgkjenbgadacaaDoor

namespace Go.Proofs.YtjgkjenbgadacaaDoor
open Go.RowKit Go.Ab
attribute [local irreducible] AWP Go.Ab.Sub Means MeansH CallK CallG CallT CallGT CallU
abbrev rowTF (M : List Bool) : Cell := .row ⟨4, 1, M.map bb⟩
@[go_sem] theorem nth_bb {L : List Bool} {k : Nat} (h : k < L.length) : nth (L.map bb) k = bb L[k] := nth_map bb h
theorem nth_last {L : List Int} {k : Nat} {q : Int} (h : L.length = k) : nth (L.map ii ++ [ii q]) k = ii q := by
  have e : L.map ii ++ [ii q] = (L ++ [q]).map ii := by simp
  rw [e, nth_ii (by simp; omega)]
  simp [← h]
set_option maxHeartbeats 16000000 in
set_option maxRecDepth 20000 in
theorem rweighted_m (n : Int) (W : List Int) (hl : W.length ≤ 9223372036854775807) :
    Means true Tryd.prog 59 [ii n, il W] (.tup [il (if isAm n = true ∧ wsum W ≠ 0 then wtd W n else []), ii (if isAm n = true ∧ wsum W ≠ 0 then 0 else 1)]) := by
  by_cases hc : isAm n = true ∧ wsum W ≠ 0
  · rw [if_pos hc, if_pos hc]
    obtain ⟨hn, hW⟩ := hc
    obtain ⟨hok, hse, hs0⟩ := wsum_pos hW
    have hl60 := okW_len hok
    have hsb := (okW_sum hok).2
    have hn2 : 0 ≤ n ∧ n ≤ 1099511627776 := by simpa [isAm] using hn
    have hlb := left_bd (h := n) hs0
    have hqi := qF_in (n := n) hok hn2.1 hs0
    have hsm := rsum_m W hl
    rw [hse] at hsm
    have hwt : wtd W n = bumps (qF n (sumL W) W) ((srt (kR (rF n (sumL W) W)) (idxI W.length)).take (n - sumL (qF n (sumL W) W)).toNat) := rfl
    rw [hwt]
    have fl := fun i (h : i < W.length) => rfloor_m n W[i] (sumL W) hn2 (okW_mem hok (List.getElem_mem h)) ⟨hs0, hsb⟩
    have rs := fun i (h : i < W.length) => rrest_m n W[i] (sumL W) hn2 (okW_mem hok (List.getElem_mem h)) ⟨hs0, hsb⟩
    generalize sumL W = s at *
    have hql : (qF n s W).length = W.length := qF_len _ _ _
    have hrl : (rF n s W).length = W.length := rF_len _ _ _
    have hqa : ∀ k (hk : k < W.length) (hk' : k < (qF n s W).length), (qF n s W)[k] = n * W[k] / s := fun k hk hk' => by simp [qF]
    have hra : ∀ k (hk : k < W.length) (hk' : k < (rF n s W).length), (rF n s W)[k] = n * W[k] % s := fun k hk hk' => by simp [rF]
    obtain ⟨m, hm⟩ : ∃ m : Nat, (m : Int) = n - sumL (qF n s W) := ⟨(n - sumL (qF n s W)).toNat, by omega⟩
    have hmt : (n - sumL (qF n s W)).toNat = m := by omega
    rw [hmt]
    have hmW : m ≤ W.length := by omega
    obtain ⟨O, hO⟩ : ∃ O, srt (kR (rF n s W)) (idxI W.length) = O := ⟨_, rfl⟩
    have hnf := fun k hk b hb hnb h1 h2 => next_free (R := rF n s W) (O := O) (by rw [hrl]; exact hO.symm) (k := k) hk (b := b) hb hnb h1 h2
    rw [hO]
    have hOl : O.length = W.length := by rw [← hO, srt_len, idxI_len]
    have hOp : O.Perm (idxI W.length) := by rw [← hO]; exact srt_perm _ _
    have hOn : O.Nodup := hOp.symm.nodup (idxI_nodup _)
    have hlm := fun k hk => left_m (q := qF n s W) hqi hn2.1 k hk
    have hsc : ∀ k (hk : k < W.length) (hk' : k < (qF n s W).length), sumL ((qF n s W).take (k + 1)) = sumL ((qF n s W).take k) + (qF n s W)[k] := fun k _ hk' => sumL_succ hk'
    have hqt : ∀ k (hk : k < (qF n s W).length), (qF n s W).take (k + 1) = (qF n s W).take k ++ [(qF n s W)[k]] := fun k hk => List.take_succ_eq_append_getElem hk
    clear hO hwt
    generalize hQ : qF n s W = Q at *
    generalize hR : rF n s W = R at *
    refine means_fn true 96 [.tmp 4, .tmp 5] Tryd.func59 rfl rfl rfl (by simp) (by decide) rfl fun X hX => ?_
    (repeat (first | refine awp_seq ?_ | refine awp_block ?_ | ((first | refine awp_runG [0, 1, 4, 5, 6, 7, 8, 9, 10, 11, 12, 21, 26, 49, 53, 82] hX ?_ | refine awp_drawnG [0, 1, 4, 5, 6, 7, 8, 9, 10, 11, 12, 21, 26, 49, 53, 82] hX mixed ?_ | refine awp_ret ?_ | refine awp_skip ?_ | refine awp_exit ?_); (simp [go_sem]; try (refine ⟨by kernel_rfl, ?_⟩)))))
    first | refine callK_intro (hsm) rfl (by simp [go_sem]) rfl ?_ | refine callT_intro (hsm) rfl (by simp [go_sem]) rfl ?_
    try (simp [go_sem]; try (refine ⟨by kernel_rfl, ?_⟩))
    (repeat (first | refine awp_seq ?_ | refine awp_block ?_ | ((first | refine awp_runG [0, 1, 4, 5, 6, 7, 8, 9, 10, 11, 12, 21, 26, 49, 53, 82] hX ?_ | refine awp_drawnG [0, 1, 4, 5, 6, 7, 8, 9, 10, 11, 12, 21, 26, 49, 53, 82] hX mixed ?_ | refine awp_ret ?_ | refine awp_skip ?_ | refine awp_exit ?_); (simp [go_sem]; try (refine ⟨by kernel_rfl, ?_⟩)))))
    first | refine callK_intro (ramount_m n) rfl (by simp [go_sem]) rfl ?_ | refine callT_intro (ramount_m n) rfl (by simp [go_sem]) rfl ?_
    try (simp [go_sem]; try (refine ⟨by kernel_rfl, ?_⟩))
    have hs1 : s ≠ 0 := by omega
    refine awp_cond (b := false) (by simp [go_sem, hn, hs1]) (fun h => by cases h) (fun _ => ?_)
    (repeat (first | refine awp_seq ?_ | refine awp_block ?_ | ((first | refine awp_runG [0, 1, 4, 5, 6, 7, 8, 9, 10, 11, 12, 21, 26, 49, 53, 82] hX ?_ | refine awp_drawnG [0, 1, 4, 5, 6, 7, 8, 9, 10, 11, 12, 21, 26, 49, 53, 82] hX mixed ?_ | refine awp_ret ?_ | refine awp_skip ?_ | refine awp_exit ?_); (simp [go_sem]; try (refine ⟨by kernel_rfl, ?_⟩)))))
    refine awp_loop (fun k : Nat => ⟨mkE [(0, ii n), (1, il W), (6, ii s), (7, .ow 0), (8, .ow 1), (9, ii (n - sumL (Q.take k))), (10, ii k)], [rowI (Q.take k), rowTF (List.replicate k false)]⟩) (fun k => k ≤ W.length) (fun k => W.length - k) 0 ?_ ?_ ?_
    · refine sub_of _ [.birth 3 1, .birth 4 1] (by simp [go_sem]) ?_
      simp [go_sem]
    · omega
    · intro k hk
      have lb := hlm k (by omega)
      have hll : (Q.take k).length = k := by rw [List.length_take]; omega
      have hbl : (List.replicate k false).length = k := by simp
      have hbs : List.replicate (k + 1) false = List.replicate k false ++ [false] := List.replicate_succ'
      (repeat (first | refine awp_seq ?_ | refine awp_block ?_ | ((first | refine awp_runG [0, 1, 4, 5, 6, 7, 8, 9, 10, 11, 12, 21, 26, 49, 53, 82] hX ?_ | refine awp_drawnG [0, 1, 4, 5, 6, 7, 8, 9, 10, 11, 12, 21, 26, 49, 53, 82] hX mixed ?_ | refine awp_ret ?_ | refine awp_skip ?_ | refine awp_exit ?_); (simp [go_sem]; try (refine ⟨by kernel_rfl, ?_⟩)))))
      refine awp_cond (b := decide (k < W.length)) (by simp [go_sem]) (fun hc => ?_) (fun hc => ?_)
      · simp at hc
        have cf := fl k hc
        have b1 := hqa k hc (by omega)
        have sc := hsc k hc (by omega)
        have qt := hqt k (by omega)
        have lb2 := hlm (k + 1) (by omega)
        rw [sc] at lb2
        rw [← b1] at cf
        have hqk := hqi Q[k] (List.getElem_mem (by omega))
        obtain ⟨q, hqe⟩ : ∃ q, Q[k]'(by omega) = q := ⟨_, rfl⟩
        rw [hqe] at cf sc qt lb2 hqk
        have hse2 : n - (sumL (Q.take k) + q) = n - sumL (Q.take k) - q := by omega
        have w1 := w64 (x := n - sumL (Q.take k) - q) (by omega) (by omega)
        have w2 := w64 (x := (k : Int) + 1) (by omega) (by omega)
        have hnl := nth_last (L := Q.take k) (k := k) (q := q) hll
        obtain ⟨z, hz⟩ : ∃ z, n - sumL (Q.take k) = z := ⟨_, rfl⟩
        rw [hz] at w1 hse2 ⊢
        clear hqe b1 hQ
        generalize Q.take k = D at *
        generalize List.replicate k false = E at *
        (repeat (first | refine awp_seq ?_ | refine awp_block ?_ | ((first | refine awp_runG [0, 1, 4, 5, 6, 7, 8, 9, 10, 11, 12, 21, 26, 49, 53, 82] hX ?_ | refine awp_drawnG [0, 1, 4, 5, 6, 7, 8, 9, 10, 11, 12, 21, 26, 49, 53, 82] hX mixed ?_ | refine awp_ret ?_ | refine awp_skip ?_ | refine awp_exit ?_); (simp [go_sem, hc]; try (refine ⟨by kernel_rfl, ?_⟩)))))
        first | refine callK_intro (cf) rfl (by simp [go_sem]) rfl ?_ | refine callT_intro (cf) rfl (by simp [go_sem]) rfl ?_
        try (simp [go_sem, hll, hbl, hnl, w1]; try (refine ⟨by kernel_rfl, ?_⟩))
        try (repeat refine And.intro (by first | omega | (unfold maxLen; omega) | kernel_rfl | (refine ⟨by first | omega | (unfold maxLen; omega), by first | omega | (unfold maxLen; omega)⟩) | grind) ?_)
        try (repeat (first | refine awp_seq ?_ | refine awp_block ?_ | ((first | refine awp_runG [0, 1, 4, 5, 6, 7, 8, 9, 10, 11, 12, 21, 26, 49, 53, 82] hX ?_ | refine awp_drawnG [0, 1, 4, 5, 6, 7, 8, 9, 10, 11, 12, 21, 26, 49, 53, 82] hX mixed ?_ | refine awp_ret ?_ | refine awp_skip ?_ | refine awp_exit ?_); (simp [go_sem, hll, hbl, hnl, w1, w2]; try (refine ⟨by kernel_rfl, ?_⟩)))))
        try (repeat refine And.intro (by first | omega | (unfold maxLen; omega) | kernel_rfl | (refine ⟨by first | omega | (unfold maxLen; omega), by first | omega | (unfold maxLen; omega)⟩) | grind) ?_)
        try (repeat (first | refine awp_seq ?_ | refine awp_block ?_ | ((first | refine awp_runG [0, 1, 4, 5, 6, 7, 8, 9, 10, 11, 12, 21, 26, 49, 53, 82] hX ?_ | refine awp_drawnG [0, 1, 4, 5, 6, 7, 8, 9, 10, 11, 12, 21, 26, 49, 53, 82] hX mixed ?_ | refine awp_ret ?_ | refine awp_skip ?_ | refine awp_exit ?_); (simp [go_sem, hll, hbl, hnl, w1, w2]; try (refine ⟨by kernel_rfl, ?_⟩)))))
        try (repeat refine And.intro (by first | omega | (unfold maxLen; omega) | kernel_rfl | (refine ⟨by first | omega | (unfold maxLen; omega), by first | omega | (unfold maxLen; omega)⟩) | grind) ?_)
        try (repeat (first | refine awp_seq ?_ | refine awp_block ?_ | ((first | refine awp_runG [0, 1, 4, 5, 6, 7, 8, 9, 10, 11, 12, 21, 26, 49, 53, 82] hX ?_ | refine awp_drawnG [0, 1, 4, 5, 6, 7, 8, 9, 10, 11, 12, 21, 26, 49, 53, 82] hX mixed ?_ | refine awp_ret ?_ | refine awp_skip ?_ | refine awp_exit ?_); (simp [go_sem, hll, hbl, hnl, w1, w2]; try (refine ⟨by kernel_rfl, ?_⟩)))))
        refine ⟨k + 1, by omega, by omega, ?_⟩
        rw [sc, qt, hbs, hse2]
        refine sub_of _ [.old 3 ⟨3, 1, (D ++ [q]).map ii⟩, .old 5 ⟨4, 1, (E ++ [false]).map bb⟩] (by simp [go_sem]) ?_
        simp [go_sem]
        try omega
      · have hkl : k = Q.length := by simp at hc; omega
        have hkW : k = W.length := by omega
        have e4 : Q.take k = Q := List.take_of_length_le (by omega)
        have e5 : List.replicate k false = took W.length (O.take 0) := by rw [List.take_zero, took_none, hkW]
        rw [e4, e5, ← hm]
        have hoz : bumps Q (O.take 0) = Q := rfl
        have hbd := fun O' => bumps_bd O' hqi
        have hbs := fun j hj => bumps_succ (L := Q) (O := O) (k := j) hj
        have hbl2 := fun O' => bumps_len O' Q
        have hts := fun j b hj h => took_succ (n := W.length) (O := O) (j := j) (b := b) hj h
        have hOR : ∀ j, j < W.length → ∃ p : Nat, p < W.length ∧ ¬ (p : Int) ∈ O.take j := fun j hj => by
          have hx := (idxI_mem (n := W.length) (x := O[j]'(by omega))).1 (by
            have := hOp.mem_iff.1 (List.getElem_mem (l := O) (n := j) (by omega)); exact this)
          refine ⟨(O[j]'(by omega)).toNat, by omega, fun q => ?_⟩
          obtain ⟨i, hi, e⟩ := List.getElem_of_mem q
          rw [List.getElem_take] at e
          have hij : i < j := by rw [List.length_take] at hi; omega
          have := List.pairwise_iff_getElem.1 hOn i j (by omega) (by omega) hij
          exact this (by omega)
        (repeat (first | refine awp_seq ?_ | refine awp_block ?_ | ((first | refine awp_runG [0, 1, 4, 5, 6, 7, 8, 9, 10, 11, 12, 21, 26, 49, 53, 82] hX ?_ | refine awp_drawnG [0, 1, 4, 5, 6, 7, 8, 9, 10, 11, 12, 21, 26, 49, 53, 82] hX mixed ?_ | refine awp_ret ?_ | refine awp_skip ?_ | refine awp_exit ?_); (simp [go_sem]; try (refine ⟨by kernel_rfl, ?_⟩)))))
        refine awp_loop (fun j : Nat => ⟨mkE [(0, ii n), (1, il W), (6, ii s), (7, .ow 0), (8, .ow 1), (9, ii ((m : Int) - j))], [rowI (bumps Q (O.take j)), rowTF (took W.length (O.take j))]⟩) (fun j => j ≤ m) (fun j => m - j) 0 ?_ ?_ ?_
        · rw [hoz]
          refine sub_of _ [.old 0 ⟨3, 1, Q.map ii⟩, .old 1 ⟨4, 1, (took W.length (O.take 0)).map bb⟩] (by simp [go_sem]) ?_
          simp [go_sem]
        · omega
        · intro j hj
          have wj := w64 (x := (m : Int) - j - 1) (by omega) (by omega)
          (repeat (first | refine awp_seq ?_ | refine awp_block ?_ | ((first | refine awp_runG [0, 1, 4, 5, 6, 7, 8, 9, 10, 11, 12, 21, 26, 49, 53, 82] hX ?_ | refine awp_drawnG [0, 1, 4, 5, 6, 7, 8, 9, 10, 11, 12, 21, 26, 49, 53, 82] hX mixed ?_ | refine awp_ret ?_ | refine awp_skip ?_ | refine awp_exit ?_); (simp [go_sem]; try (refine ⟨by kernel_rfl, ?_⟩)))))
          refine awp_cond (b := decide (j < m)) (by simp [go_sem]; try omega) (fun hd => ?_) (fun hd => ?_)
          · simp at hd
            have hjO : j < O.length := by omega
            have n1 := fun b hb hnb h1 h2 => hnf j hjO b hb hnb h1 h2
            have n3 := hbs j hjO
            have n4 := hbd (O.take j)
            have n5 := hbl2 (O.take j)
            have n6 := hOR j (by omega)
            have n7 := fun b h => hts j b hjO h
            have n8 : (O.take j).length ≤ 60 := by rw [List.length_take]; omega
            have tl := took_len W.length (O.take j)
            have ta := fun i h => took_at (n := W.length) (O := O.take j) (i := i) h
            generalize O.take j = T at *
            generalize bumps Q T = B at *
            generalize hTM : took W.length T = M at *
            (repeat (first | refine awp_seq ?_ | refine awp_block ?_ | ((first | refine awp_runG [0, 1, 4, 5, 6, 7, 8, 9, 10, 11, 12, 21, 26, 49, 53, 82] hX ?_ | refine awp_drawnG [0, 1, 4, 5, 6, 7, 8, 9, 10, 11, 12, 21, 26, 49, 53, 82] hX mixed ?_ | refine awp_ret ?_ | refine awp_skip ?_ | refine awp_exit ?_); (simp [go_sem]; try (refine ⟨by kernel_rfl, ?_⟩)))))
            refine awp_loop (fun x : Nat × Int => ⟨mkE [(0, ii n), (1, il W), (6, ii s), (7, .ow 0), (8, .ow 1), (9, ii ((m : Int) - j)), (11, ii x.2), (12, ii x.1)], [rowI B, rowTF M]⟩) (fun x => x.1 ≤ W.length ∧ isFree R T x.1 x.2) (fun x => W.length - x.1) (0, -1) ?_ ?_ ?_
            · refine sub_of _ [.old 0 ⟨3, 1, B.map ii⟩, .old 1 ⟨4, 1, M.map bb⟩] (by simp [go_sem]) ?_
              simp [go_sem]
            · exact ⟨Nat.zero_le _, .inl ⟨rfl, fun j hj => absurd hj (Nat.not_lt_zero _)⟩⟩
            · rintro ⟨k, b⟩ ⟨g1, g2⟩
              simp only [] at g1 g2
              have wk := w64 (x := (k : Int) + 1) (by omega) (by omega)
              (repeat (first | refine awp_seq ?_ | refine awp_block ?_ | ((first | refine awp_runG [0, 1, 4, 5, 6, 7, 8, 9, 10, 11, 12, 21, 26, 49, 53, 82] hX ?_ | refine awp_drawnG [0, 1, 4, 5, 6, 7, 8, 9, 10, 11, 12, 21, 26, 49, 53, 82] hX mixed ?_ | refine awp_ret ?_ | refine awp_skip ?_ | refine awp_exit ?_); (simp [go_sem]; try (refine ⟨by kernel_rfl, ?_⟩)))))
              refine awp_cond (b := decide (k < W.length)) (by simp [go_sem]) (fun he => ?_) (fun he => ?_)
              · simp at he
                have hkM : k < M.length := by omega
                have hkR : k < R.length := by omega
                have tk := ta k hkM
                have crk := rs k he
                have rk := hra k he hkR
                have h0W : 0 < W.length := by omega
                have hmx : max (-1 : Int) 0 = 0 := by decide
                by_cases ht : (k : Int) ∈ T
                · have hMk : M[k] = true := by rw [tk]; exact decide_eq_true ht
                  have nx := isFree_taken g2 ht
                  have hb : b = -1 ∨ ∃ p : Nat, b = p ∧ p < W.length := by
                    rcases g2 with ⟨e, _⟩ | ⟨p, e, hp, _⟩
                    · exact .inl e
                    · exact .inr ⟨p, e, by omega⟩
                  rcases hb with hb | ⟨p, hb, hpW⟩
                  · subst hb
                    (repeat (first | refine awp_seq ?_ | refine awp_block ?_ | ((first | refine awp_runG [0, 1, 4, 5, 6, 7, 8, 9, 10, 11, 12, 21, 26, 49, 53, 82] hX ?_ | refine awp_drawnG [0, 1, 4, 5, 6, 7, 8, 9, 10, 11, 12, 21, 26, 49, 53, 82] hX mixed ?_ | refine awp_ret ?_ | refine awp_skip ?_ | refine awp_exit ?_); (simp [go_sem, hkM, hMk, he]; try (refine ⟨by kernel_rfl, ?_⟩)))))
                    first | refine callG_skip rfl ?_ | refine callGT_skip rfl ?_
                    try (simp [go_sem, he, h0W, hmx]; try (refine ⟨by kernel_rfl, ?_⟩))
                    first | refine callG_skip rfl ?_ | refine callGT_skip rfl ?_
                    try (simp [go_sem]; try (refine ⟨by kernel_rfl, ?_⟩))
                    try (repeat refine And.intro (by first | omega | (unfold maxLen; omega) | kernel_rfl | (refine ⟨by first | omega | (unfold maxLen; omega), by first | omega | (unfold maxLen; omega)⟩) | grind) ?_)
                    refine awp_cond (b := false) (by simp [go_sem]) (fun h => by cases h) (fun _ => ?_)
                    (repeat (first | refine awp_seq ?_ | refine awp_block ?_ | ((first | refine awp_runG [0, 1, 4, 5, 6, 7, 8, 9, 10, 11, 12, 21, 26, 49, 53, 82] hX ?_ | refine awp_drawnG [0, 1, 4, 5, 6, 7, 8, 9, 10, 11, 12, 21, 26, 49, 53, 82] hX mixed ?_ | refine awp_ret ?_ | refine awp_skip ?_ | refine awp_exit ?_); (simp [go_sem, wk]; try (refine ⟨by kernel_rfl, ?_⟩)))))
                    refine ⟨k + 1, -1, ⟨by omega, nx⟩, by omega, ?_⟩
                    refine sub_of _ [.old 0 ⟨3, 1, B.map ii⟩, .old 1 ⟨4, 1, M.map bb⟩] (by simp [go_sem]) ?_
                    simp [go_sem]
                  · subst hb
                    have hpm : max (p : Int) 0 = p := by omega
                    have hpm2 : max 0 (p : Int) = p := by omega
                    (repeat (first | refine awp_seq ?_ | refine awp_block ?_ | ((first | refine awp_runG [0, 1, 4, 5, 6, 7, 8, 9, 10, 11, 12, 21, 26, 49, 53, 82] hX ?_ | refine awp_drawnG [0, 1, 4, 5, 6, 7, 8, 9, 10, 11, 12, 21, 26, 49, 53, 82] hX mixed ?_ | refine awp_ret ?_ | refine awp_skip ?_ | refine awp_exit ?_); (simp [go_sem, hkM, hMk, he]; try (refine ⟨by kernel_rfl, ?_⟩)))))
                    first | refine callG_skip rfl ?_ | refine callGT_skip rfl ?_
                    try (simp [go_sem, he, hpW, hpm, hpm2]; try (refine ⟨by kernel_rfl, ?_⟩))
                    first | refine callG_skip rfl ?_ | refine callGT_skip rfl ?_
                    try (simp [go_sem]; try (refine ⟨by kernel_rfl, ?_⟩))
                    try (repeat refine And.intro (by first | omega | (unfold maxLen; omega) | kernel_rfl | (refine ⟨by first | omega | (unfold maxLen; omega), by first | omega | (unfold maxLen; omega)⟩) | grind) ?_)
                    refine awp_cond (b := false) (by simp [go_sem]) (fun h => by cases h) (fun _ => ?_)
                    (repeat (first | refine awp_seq ?_ | refine awp_block ?_ | ((first | refine awp_runG [0, 1, 4, 5, 6, 7, 8, 9, 10, 11, 12, 21, 26, 49, 53, 82] hX ?_ | refine awp_drawnG [0, 1, 4, 5, 6, 7, 8, 9, 10, 11, 12, 21, 26, 49, 53, 82] hX mixed ?_ | refine awp_ret ?_ | refine awp_skip ?_ | refine awp_exit ?_); (simp [go_sem, wk]; try (refine ⟨by kernel_rfl, ?_⟩)))))
                    refine ⟨k + 1, p, ⟨by omega, nx⟩, by omega, ?_⟩
                    refine sub_of _ [.old 0 ⟨3, 1, B.map ii⟩, .old 1 ⟨4, 1, M.map bb⟩] (by simp [go_sem]) ?_
                    simp [go_sem]
                · have hMk : M[k] = false := by rw [tk]; exact decide_eq_false ht
                  by_cases hb : b < 0
                  · have nx := isFree_take g2 hkR ht (.inl hb)
                    have hb1 : b = -1 := by
                      rcases g2 with ⟨e, _⟩ | ⟨p, e, _⟩ <;> omega
                    subst hb1
                    (repeat (first | refine awp_seq ?_ | refine awp_block ?_ | ((first | refine awp_runG [0, 1, 4, 5, 6, 7, 8, 9, 10, 11, 12, 21, 26, 49, 53, 82] hX ?_ | refine awp_drawnG [0, 1, 4, 5, 6, 7, 8, 9, 10, 11, 12, 21, 26, 49, 53, 82] hX mixed ?_ | refine awp_ret ?_ | refine awp_skip ?_ | refine awp_exit ?_); (simp [go_sem, hkM, hMk, he]; try (refine ⟨by kernel_rfl, ?_⟩)))))
                    first | refine callG_skip rfl ?_ | refine callGT_skip rfl ?_
                    try (simp [go_sem, he, h0W, hmx]; try (refine ⟨by kernel_rfl, ?_⟩))
                    first | refine callG_skip rfl ?_ | refine callGT_skip rfl ?_
                    try (simp [go_sem]; try (refine ⟨by kernel_rfl, ?_⟩))
                    try (repeat refine And.intro (by first | omega | (unfold maxLen; omega) | kernel_rfl | (refine ⟨by first | omega | (unfold maxLen; omega), by first | omega | (unfold maxLen; omega)⟩) | grind) ?_)
                    refine awp_cond (b := true) (by simp [go_sem]) (fun _ => ?_) (fun h => by cases h)
                    (repeat (first | refine awp_seq ?_ | refine awp_block ?_ | ((first | refine awp_runG [0, 1, 4, 5, 6, 7, 8, 9, 10, 11, 12, 21, 26, 49, 53, 82] hX ?_ | refine awp_drawnG [0, 1, 4, 5, 6, 7, 8, 9, 10, 11, 12, 21, 26, 49, 53, 82] hX mixed ?_ | refine awp_ret ?_ | refine awp_skip ?_ | refine awp_exit ?_); (simp [go_sem, wk]; try (refine ⟨by kernel_rfl, ?_⟩)))))
                    refine ⟨k + 1, k, ⟨by omega, nx⟩, by omega, ?_⟩
                    refine sub_of _ [.old 0 ⟨3, 1, B.map ii⟩, .old 1 ⟨4, 1, M.map bb⟩] (by simp [go_sem]) ?_
                    simp [go_sem]
                  · obtain ⟨p, hp, hpk, hpR, hpT, _, _⟩ : ∃ p : Nat, b = p ∧ p < k ∧ ∃ hp : p < R.length, ¬ (p : Int) ∈ T ∧ (∀ j (hj : j < R.length), j < k → ¬ (j : Int) ∈ T → R[j] ≤ R[p]) ∧ ∀ j (hj : j < R.length), j < p → ¬ (j : Int) ∈ T → R[j] < R[p] := by
                      rcases g2 with ⟨e, _⟩ | h
                      · omega
                      · exact h
                    subst hp
                    have hpW : p < W.length := by omega
                    have crp := rs p hpW
                    have rp := hra p hpW hpR
                    have hpn : ¬ (p : Int) < 0 := by omega
                    have hpm : max (p : Int) 0 = p := by omega
                    have hpm2 : max 0 (p : Int) = p := by omega
                    have nx1 := fun h => isFree_take g2 hkR ht (.inr ⟨p, rfl, hpR, h⟩)
                    have nx2 := fun h => isFree_keep g2 hkR hpR h
                    rw [rk, rp] at nx1 nx2
                    obtain ⟨x, hx⟩ : ∃ x, n * W[k] % s = x := ⟨_, rfl⟩
                    obtain ⟨y, hy⟩ : ∃ y, n * W[p] % s = y := ⟨_, rfl⟩
                    rw [hx] at crk nx1 nx2
                    rw [hy] at crp nx1 nx2
                    (repeat (first | refine awp_seq ?_ | refine awp_block ?_ | ((first | refine awp_runG [0, 1, 4, 5, 6, 7, 8, 9, 10, 11, 12, 21, 26, 49, 53, 82] hX ?_ | refine awp_drawnG [0, 1, 4, 5, 6, 7, 8, 9, 10, 11, 12, 21, 26, 49, 53, 82] hX mixed ?_ | refine awp_ret ?_ | refine awp_skip ?_ | refine awp_exit ?_); (simp [go_sem, hkM, hMk, he, hpn]; try (refine ⟨by kernel_rfl, ?_⟩)))))
                    first | refine callG_intro (fun hg => crk) rfl (by simp [go_sem]) rfl ?_ | refine callGT_intro (fun hg => crk) rfl (by simp [go_sem]) rfl ?_
                    try (simp [go_sem, he, hpW, hpm, hpm2]; try (refine ⟨by kernel_rfl, ?_⟩))
                    first | refine callG_intro (fun hg => crp) rfl (by simp [go_sem]) rfl ?_ | refine callGT_intro (fun hg => crp) rfl (by simp [go_sem]) rfl ?_
                    try (simp [go_sem]; try (refine ⟨by kernel_rfl, ?_⟩))
                    try (repeat refine And.intro (by first | omega | (unfold maxLen; omega) | kernel_rfl | (refine ⟨by first | omega | (unfold maxLen; omega), by first | omega | (unfold maxLen; omega)⟩) | grind) ?_)
                    refine awp_cond (b := decide (y < x)) (by simp [go_sem]) (fun hf => ?_) (fun hf => ?_)
                    · simp only [decide_eq_true_eq] at hf
                      (repeat (first | refine awp_seq ?_ | refine awp_block ?_ | ((first | refine awp_runG [0, 1, 4, 5, 6, 7, 8, 9, 10, 11, 12, 21, 26, 49, 53, 82] hX ?_ | refine awp_drawnG [0, 1, 4, 5, 6, 7, 8, 9, 10, 11, 12, 21, 26, 49, 53, 82] hX mixed ?_ | refine awp_ret ?_ | refine awp_skip ?_ | refine awp_exit ?_); (simp [go_sem, wk]; try (refine ⟨by kernel_rfl, ?_⟩)))))
                      refine ⟨k + 1, k, ⟨by omega, nx1 hf⟩, by omega, ?_⟩
                      refine sub_of _ [.old 0 ⟨3, 1, B.map ii⟩, .old 1 ⟨4, 1, M.map bb⟩] (by simp [go_sem]) ?_
                      simp [go_sem]
                    · simp only [decide_eq_false_iff_not] at hf
                      (repeat (first | refine awp_seq ?_ | refine awp_block ?_ | ((first | refine awp_runG [0, 1, 4, 5, 6, 7, 8, 9, 10, 11, 12, 21, 26, 49, 53, 82] hX ?_ | refine awp_drawnG [0, 1, 4, 5, 6, 7, 8, 9, 10, 11, 12, 21, 26, 49, 53, 82] hX mixed ?_ | refine awp_ret ?_ | refine awp_skip ?_ | refine awp_exit ?_); (simp [go_sem, wk]; try (refine ⟨by kernel_rfl, ?_⟩)))))
                      refine ⟨k + 1, p, ⟨by omega, nx2 (by omega)⟩, by omega, ?_⟩
                      refine sub_of _ [.old 0 ⟨3, 1, B.map ii⟩, .old 1 ⟨4, 1, M.map bb⟩] (by simp [go_sem]) ?_
                      simp [go_sem]
              · have hkl : k = W.length := by simp at he; omega
                obtain ⟨p0, hp0, hp0T⟩ := n6
                obtain ⟨p, hp, hpk, hpR, hpT, h1, h2⟩ : ∃ p : Nat, b = p ∧ p < k ∧ ∃ hp : p < R.length, ¬ (p : Int) ∈ T ∧ (∀ j (hj : j < R.length), j < k → ¬ (j : Int) ∈ T → R[j] ≤ R[p]) ∧ ∀ j (hj : j < R.length), j < p → ¬ (j : Int) ∈ T → R[j] < R[p] := by
                  rcases g2 with ⟨_, h⟩ | h
                  · exact absurd (h p0 (by omega)) hp0T
                  · exact h
                subst hp
                have e := n1 p hpR hpT (fun i hi hn => h1 i hi (by omega) hn) (fun i hi hip hn => h2 i hi hip hn)
                rw [e] at n3
                have n7 := n7 p e
                have hpB : p < B.length := by omega
                have hpM : p < M.length := by omega
                have hv := n4 B[p] (List.getElem_mem hpB)
                have wv := w64 (x := B[p] + 1) (by omega) (by omega)
                have hbe : bump B (p : Int) = B.set p (B[p] + 1) := by
                  unfold bump
                  rw [Int.toNat_natCast, List.getD_eq_getElem?_getD, List.getElem?_eq_getElem hpB]; rfl
                rw [hbe] at n3
                (repeat (first | refine awp_seq ?_ | refine awp_block ?_ | ((first | refine awp_runG [0, 1, 4, 5, 6, 7, 8, 9, 10, 11, 12, 21, 26, 49, 53, 82] hX ?_ | refine awp_drawnG [0, 1, 4, 5, 6, 7, 8, 9, 10, 11, 12, 21, 26, 49, 53, 82] hX mixed ?_ | refine awp_ret ?_ | refine awp_skip ?_ | refine awp_exit ?_); (simp [go_sem, hpB, hpM, wv, wj]; try (refine ⟨by kernel_rfl, ?_⟩)))))
                try (repeat refine And.intro (by first | omega | (unfold maxLen; omega) | kernel_rfl | (refine ⟨by first | omega | (unfold maxLen; omega), by first | omega | (unfold maxLen; omega)⟩) | grind) ?_)
                try (repeat (first | refine awp_seq ?_ | refine awp_block ?_ | ((first | refine awp_runG [0, 1, 4, 5, 6, 7, 8, 9, 10, 11, 12, 21, 26, 49, 53, 82] hX ?_ | refine awp_drawnG [0, 1, 4, 5, 6, 7, 8, 9, 10, 11, 12, 21, 26, 49, 53, 82] hX mixed ?_ | refine awp_ret ?_ | refine awp_skip ?_ | refine awp_exit ?_); (simp [go_sem, hpB, hpM, wv, wj]; try (refine ⟨by kernel_rfl, ?_⟩)))))
                try (repeat refine And.intro (by first | omega | (unfold maxLen; omega) | kernel_rfl | (refine ⟨by first | omega | (unfold maxLen; omega), by first | omega | (unfold maxLen; omega)⟩) | grind) ?_)
                try (repeat (first | refine awp_seq ?_ | refine awp_block ?_ | ((first | refine awp_runG [0, 1, 4, 5, 6, 7, 8, 9, 10, 11, 12, 21, 26, 49, 53, 82] hX ?_ | refine awp_drawnG [0, 1, 4, 5, 6, 7, 8, 9, 10, 11, 12, 21, 26, 49, 53, 82] hX mixed ?_ | refine awp_ret ?_ | refine awp_skip ?_ | refine awp_exit ?_); (simp [go_sem, hpB, hpM, wv, wj]; try (refine ⟨by kernel_rfl, ?_⟩)))))
                refine ⟨j + 1, by omega, by omega, ?_⟩
                rw [n3, n7]
                refine sub_of _ [.old 0 ⟨3, 1, (B.set p (B[p] + 1)).map ii⟩, .old 1 ⟨4, 1, (M.set p true).map bb⟩] (by simp [go_sem]) ?_
                simp [go_sem]
                try omega
          · have : j = m := by simp at hd; omega
            subst this
            (repeat (first | refine awp_seq ?_ | refine awp_block ?_ | ((first | refine awp_runG [0, 1, 4, 5, 6, 7, 8, 9, 10, 11, 12, 21, 26, 49, 53, 82] hX ?_ | refine awp_drawnG [0, 1, 4, 5, 6, 7, 8, 9, 10, 11, 12, 21, 26, 49, 53, 82] hX mixed ?_ | refine awp_ret ?_ | refine awp_skip ?_ | refine awp_exit ?_); (simp [go_sem]; try (refine ⟨by kernel_rfl, ?_⟩)))))
  · rw [if_neg hc, if_neg hc]
    have hsm := rsum_m W hl
    refine means_fn true 96 [.tmp 4, .tmp 5] Tryd.func59 rfl rfl rfl (by simp) (by decide) rfl fun X hX => ?_
    (repeat (first | refine awp_seq ?_ | refine awp_block ?_ | ((first | refine awp_runG [0, 1, 4, 5, 6, 7, 8, 9, 10, 11, 12, 21, 26, 49, 53, 82] hX ?_ | refine awp_drawnG [0, 1, 4, 5, 6, 7, 8, 9, 10, 11, 12, 21, 26, 49, 53, 82] hX mixed ?_ | refine awp_ret ?_ | refine awp_skip ?_ | refine awp_exit ?_); (simp [go_sem]; try (refine ⟨by kernel_rfl, ?_⟩)))))
    first | refine callK_intro (hsm) rfl (by simp [go_sem]) rfl ?_ | refine callT_intro (hsm) rfl (by simp [go_sem]) rfl ?_
    try (simp [go_sem]; try (refine ⟨by kernel_rfl, ?_⟩))
    (repeat (first | refine awp_seq ?_ | refine awp_block ?_ | ((first | refine awp_runG [0, 1, 4, 5, 6, 7, 8, 9, 10, 11, 12, 21, 26, 49, 53, 82] hX ?_ | refine awp_drawnG [0, 1, 4, 5, 6, 7, 8, 9, 10, 11, 12, 21, 26, 49, 53, 82] hX mixed ?_ | refine awp_ret ?_ | refine awp_skip ?_ | refine awp_exit ?_); (simp [go_sem]; try (refine ⟨by kernel_rfl, ?_⟩)))))
    first | refine callK_intro (ramount_m n) rfl (by simp [go_sem]) rfl ?_ | refine callT_intro (ramount_m n) rfl (by simp [go_sem]) rfl ?_
    try (simp [go_sem]; try (refine ⟨by kernel_rfl, ?_⟩))
    refine awp_cond (b := true) (by
      cases h1 : isAm n with
      | false => simp [go_sem, h1]
      | true =>
        have h2 : wsum W = 0 := by
          rw [h1] at hc; simpa using hc
        simp [go_sem, h1, h2]) (fun _ => ?_) (fun h => by cases h)
    (repeat (first | refine awp_seq ?_ | refine awp_block ?_ | ((first | refine awp_runG [0, 1, 4, 5, 6, 7, 8, 9, 10, 11, 12, 21, 26, 49, 53, 82] hX ?_ | refine awp_drawnG [0, 1, 4, 5, 6, 7, 8, 9, 10, 11, 12, 21, 26, 49, 53, 82] hX mixed ?_ | refine awp_ret ?_ | refine awp_skip ?_ | refine awp_exit ?_); (simp [go_sem]; try (refine ⟨by kernel_rfl, ?_⟩)))))
end Go.Proofs.YtjgkjenbgadacaaDoor

namespace Go.Proofs.YtjgkjenbgadacaaDoor
open Go.RowKit Go.Ab
attribute [local irreducible] AWP Go.Ab.Sub Means MeansH CallK CallG CallT CallGT CallU
theorem wsum_ones (k : Nat) : wsum (List.replicate k 1) = if k ≤ 60 then (k : Int) else 0 := by
  have : ∀ q : Nat, sumL (List.replicate q 1) = q := fun q => by
    induction q with
    | zero => rfl
    | succ q ih => rw [List.replicate_succ, sumL_cons, ih]; push_cast; omega
  unfold wsum
  by_cases h : k ≤ 60
  · have hk : okW (List.replicate k 1) = true := by
      simp only [okW, Bool.and_eq_true, List.all_eq_true, decide_eq_true_eq, List.length_replicate]
      exact ⟨fun x hx => by rw [List.eq_of_mem_replicate hx]; rfl, by omega⟩
    rw [if_pos hk, if_pos h, this]
  · have hk : ¬ okW (List.replicate k 1) = true := fun q => by have := okW_len q; simp at this; omega
    rw [if_neg hk, if_neg h]
set_option maxHeartbeats 4000000 in
set_option maxRecDepth 20000 in
theorem reven_m (n p : Int) : Means false Tryd.prog 45 [ii n, ii p] (.tup [il (if isAm n = true ∧ 1 ≤ p ∧ p ≤ 60 then wtd (List.replicate p.toNat 1) n else []), ii (if isAm n = true ∧ 1 ≤ p ∧ p ≤ 60 then 0 else 1)]) := by
  refine means_fn false 30 [.tmp 4, .tmp 5] Tryd.func45 rfl rfl rfl (by simp) (by decide) rfl fun X hX => ?_
  (repeat (first | refine awp_seq ?_ | refine awp_block ?_ | ((first | refine awp_runG [0, 1, 4, 5, 6, 7, 8, 9, 16] hX ?_ | refine awp_drawnG [0, 1, 4, 5, 6, 7, 8, 9, 16] hX mixed ?_ | refine awp_ret ?_ | refine awp_skip ?_ | refine awp_exit ?_); (simp [go_sem]; try (refine ⟨by kernel_rfl, ?_⟩)))))
  refine awp_loop (fun k : Nat => ⟨mkE [(0, ii n), (1, ii p), (6, .ow 0), (7, ii k)], [rowI (List.replicate k 1)]⟩) (fun k => k ≤ 61 ∧ (k : Int) ≤ max p 0) (fun k => 61 - k) 0 ?_ ?_ ?_
  · refine sub_of _ [.birth 3 1] (by simp [go_sem]) ?_
    simp [go_sem]
  · omega
  · rintro k ⟨h1, h2⟩
    have wk := w64 (x := (k : Int) + 1) (by omega) (by omega)
    (repeat (first | refine awp_seq ?_ | refine awp_block ?_ | ((first | refine awp_runG [0, 1, 4, 5, 6, 7, 8, 9, 16] hX ?_ | refine awp_drawnG [0, 1, 4, 5, 6, 7, 8, 9, 16] hX mixed ?_ | refine awp_ret ?_ | refine awp_skip ?_ | refine awp_exit ?_); (simp [go_sem]; try (refine ⟨by kernel_rfl, ?_⟩)))))
    refine awp_cond (b := decide ((k : Int) < p) && decide ((k : Int) ≤ 60)) (by simp [go_sem]; try omega) (fun hd => ?_) (fun hd => ?_)
    · simp at hd
      have hrs : List.replicate (k + 1) (1 : Int) = List.replicate k 1 ++ [1] := List.replicate_succ'
      have hrl : (List.replicate k (1 : Int)).length = k := by simp
      generalize List.replicate k (1 : Int) = D at *
      (repeat (first | refine awp_seq ?_ | refine awp_block ?_ | ((first | refine awp_runG [0, 1, 4, 5, 6, 7, 8, 9, 16] hX ?_ | refine awp_drawnG [0, 1, 4, 5, 6, 7, 8, 9, 16] hX mixed ?_ | refine awp_ret ?_ | refine awp_skip ?_ | refine awp_exit ?_); (simp [go_sem, hrl]; try (refine ⟨by kernel_rfl, ?_⟩)))))
      try (repeat refine And.intro (by first | omega | (unfold maxLen; omega) | kernel_rfl | (refine ⟨by first | omega | (unfold maxLen; omega), by first | omega | (unfold maxLen; omega)⟩) | grind) ?_)
      try (repeat (first | refine awp_seq ?_ | refine awp_block ?_ | ((first | refine awp_runG [0, 1, 4, 5, 6, 7, 8, 9, 16] hX ?_ | refine awp_drawnG [0, 1, 4, 5, 6, 7, 8, 9, 16] hX mixed ?_ | refine awp_ret ?_ | refine awp_skip ?_ | refine awp_exit ?_); (simp [go_sem, hrl, wk]; try (refine ⟨by kernel_rfl, ?_⟩)))))
      refine ⟨k + 1, ⟨by omega, by omega⟩, by omega, ?_⟩
      rw [hrs]
      refine sub_of _ [.old 2 ⟨3, 1, (D ++ [(1 : Int)]).map ii⟩] (by simp [go_sem]) ?_
      simp [go_sem]
      try omega
    · have hd' : ¬ ((k : Int) < p ∧ (k : Int) ≤ 60) := by simpa using hd
      have cw := rweighted_m n (List.replicate k 1) (by simp; omega)
      have ws := wsum_ones k
      have e : (isAm n = true ∧ wsum (List.replicate k 1) ≠ 0) = (isAm n = true ∧ 1 ≤ p ∧ p ≤ 60) := by
        rw [ws]
        by_cases q : 1 ≤ p ∧ p ≤ 60
        · rw [if_pos (by omega)]
          have : (k : Int) ≠ 0 := by omega
          rw [eq_true this, eq_true q]
        · rw [eq_false q]
          have : ¬ ((if k ≤ 60 then (k : Int) else 0) ≠ 0) := by split <;> omega
          rw [eq_false this]
      have e2 : (if isAm n = true ∧ 1 ≤ p ∧ p ≤ 60 then wtd (List.replicate p.toNat 1) n else []) = (if isAm n = true ∧ 1 ≤ p ∧ p ≤ 60 then wtd (List.replicate k 1) n else []) := by
        split
        · have : p.toNat = k := by omega
          rw [this]
        · rfl
      simp only [e] at cw
      rw [e2]
      clear e e2 ws
      generalize (if isAm n = true ∧ 1 ≤ p ∧ p ≤ 60 then wtd (List.replicate k 1) n else []) = A at *
      generalize (if isAm n = true ∧ 1 ≤ p ∧ p ≤ 60 then (0 : Int) else 1) = E at *
      generalize List.replicate k (1 : Int) = D at *
      (repeat (first | refine awp_seq ?_ | refine awp_block ?_ | ((first | refine awp_runG [0, 1, 4, 5, 6, 7, 8, 9, 16] hX ?_ | refine awp_drawnG [0, 1, 4, 5, 6, 7, 8, 9, 16] hX mixed ?_ | refine awp_ret ?_ | refine awp_skip ?_ | refine awp_exit ?_); (simp [go_sem]; try (refine ⟨by kernel_rfl, ?_⟩)))))
      first | refine callK_intro (cw) rfl (by simp [go_sem]) rfl ?_ | refine callT_intro (cw) rfl (by simp [go_sem]) rfl ?_
      try (simp [go_sem]; try (refine ⟨by kernel_rfl, ?_⟩))
      (repeat (first | refine awp_seq ?_ | refine awp_block ?_ | ((first | refine awp_runG [0, 1, 4, 5, 6, 7, 8, 9, 16] hX ?_ | refine awp_drawnG [0, 1, 4, 5, 6, 7, 8, 9, 16] hX mixed ?_ | refine awp_ret ?_ | refine awp_skip ?_ | refine awp_exit ?_); (simp [go_sem]; try (refine ⟨by kernel_rfl, ?_⟩)))))
end Go.Proofs.YtjgkjenbgadacaaDoor

