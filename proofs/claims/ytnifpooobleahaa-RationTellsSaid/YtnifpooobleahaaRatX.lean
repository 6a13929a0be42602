/-
  Layer 39: the reference's sharing by a level.
-/
import Derived.Test.YtnifpooobleahaaRatH
set_option linter.all false
namespace Go.Proofs.Ytnifpooobleahaa
open Go.RowKit Go.Ab
attribute [local irreducible] AWP Go.Ab.Sub Means MeansH CallK CallG CallT CallGT CallU

theorem min_succ {C : List Int} {k : Nat} (h : k < C.length) (l : Int) : (C.take (k + 1)).map (fun c => min c l) = (C.take k).map (fun c => min c l) ++ [min C[k] l] := by
  rw [List.take_succ_eq_append_getElem h, List.map_append]; rfl
theorem fill_nn {C : List Int} (hok : okC' C = true) {l : Int} (hl : 0 ≤ l) : 0 ≤ fill C l := by
  have := fill_mono hl C
  rw [fill_zero hok] at this; exact this
/-- While those that claim more get their coin. -/
def half2 (l q : Int) (C : List Int) (i : Nat) : List Int := shr l q (C.take i) ++ (C.drop i).map fun c => min c l
theorem half2_len (l q : Int) (C : List Int) (i : Nat) : (half2 l q C i).length = C.length := by
  simp [half2, shr_len]; omega
theorem half2_at (l q : Int) {C : List Int} {i : Nat} (h : i < C.length) (h' : i < (half2 l q C i).length) : (half2 l q C i)[i] = min C[i] l := by
  have hl : (shr l q (C.take i)).length = i := by rw [shr_len, List.length_take]; omega
  simp only [half2]
  rw [List.getElem_append_right (by omega)]
  simp [hl]
theorem half2_succ (l q : Int) {C : List Int} {i : Nat} (h : i < C.length) : half2 l q C (i + 1) = (half2 l q C i).set i (share1 l (leftA l q (C.take i)) C[i]) := by
  have hl : (shr l q (C.take i)).length = i := by rw [shr_len, List.length_take]; omega
  unfold half2
  rw [shr_succ h, List.drop_eq_getElem_cons h, List.map_cons, List.set_append_right _ _ (by omega), hl, Nat.sub_self, List.set_cons_zero, List.append_assoc]
  rfl
theorem half2_done (l q : Int) (C : List Int) (i : Nat) (h : C.length ≤ i ∨ leftA l q (C.take i) = 0) : half2 l q C i = shr l q C := by
  unfold half2
  rcases h with h | h
  · rw [List.take_of_length_le h, List.drop_of_length_le h]; simp
  · conv => rhs; rw [← List.take_append_drop i C]
    rw [shr_app, h, shr_none]
theorem half2_skip (l q : Int) {C : List Int} {i : Nat} (h : i < C.length) (hn : ¬ l < C[i]) : half2 l q C (i + 1) = half2 l q C i := by
  have h' : i < (half2 l q C i).length := by rw [half2_len]; exact h
  have e : share1 l (leftA l q (C.take i)) C[i] = (half2 l q C i)[i] := by
    rw [half2_at l q h h', share1, if_neg (by omega)]
  rw [half2_succ l q h, e, List.set_getElem_self]

set_option maxHeartbeats 4000000 in
set_option maxRecDepth 20000 in
theorem level_m (C : List Int) (hl : C.length ≤ 400) (hok : okC' C = true) (h : Int) (hh : 0 ≤ h) (hs : ¬ sumL C ≤ h) (l0 : Int) (hl0 : isLv C h l0) : Means true Try.prog 21 [il C, ii h] (ii l0) := by
  have hsb := sum_bd hok
  have pw : ∀ j : Nat, j ≤ 41 → (2 : Int) ^ j ≤ 2199023255552 ∧ 0 < (2 : Int) ^ j := fun j hj => by
    have h1 : (2 : Nat) ^ j ≤ 2 ^ 41 := Nat.pow_le_pow_right (by omega) hj
    have h2 : 0 < (2 : Nat) ^ j := Nat.pow_pos (by omega)
    have e : ((2 : Nat) ^ j : Nat) = ((2 : Int) ^ j) := by simp
    have e41 : (2 : Nat) ^ 41 = 2199023255552 := by decide
    omega
  have half : ∀ j : Nat, (2 : Int) ^ (j + 1) / 2 = 2 ^ j ∧ (2 : Int) ^ (j + 1) = 2 * 2 ^ j := fun j => by
    rw [Int.pow_succ]; omega
  refine means_fn true 36 [.tmp 4] Try.func21 rfl rfl rfl (by simp) (by decide) rfl fun X hX => ?_
  (repeat (first | refine awp_seq ?_ | refine awp_block ?_ | ((first | refine awp_runG [0, 1, 4, 5, 6, 7, 8, 10, 16, 31] hX ?_ | refine awp_drawnG [0, 1, 4, 5, 6, 7, 8, 10, 16, 31] hX mixed ?_ | refine awp_ret ?_ | refine awp_skip ?_ | refine awp_exit ?_); (simp [go_sem]; try (refine ⟨by kernel_rfl, ?_⟩)))))
  refine awp_loop (fun z : Int × Nat => ⟨mkE [(0, il C), (1, ii h), (5, ii z.1), (6, ii ((2 : Int) ^ z.2 / 2))], []⟩) (fun z => z.2 ≤ 41 ∧ 0 ≤ z.1 ∧ z.1 + 2 ^ z.2 ≤ 2199023255552 ∧ fill C z.1 ≤ h ∧ h < fill C (z.1 + 2 ^ z.2)) (fun z => z.2) (0, 41) ?_ ?_ ?_
  · refine sub_of _ [] (by simp [go_sem]) ?_
    simp [go_sem]
  · refine ⟨by omega, by simp, by simp, by rw [fill_zero hok]; exact hh, ?_⟩
    simp only []
    rw [fill_top fun c hc => by have := okC_mem hok hc; omega]; omega
  · rintro ⟨l, j⟩ ⟨h1, h2, h3, h4, h5⟩
    simp only [] at h1 h2 h3 h4 h5
    cases j with
    | zero =>
      (repeat (first | refine awp_seq ?_ | refine awp_block ?_ | ((first | refine awp_runG [0, 1, 4, 5, 6, 7, 8, 10, 16, 31] hX ?_ | refine awp_drawnG [0, 1, 4, 5, 6, 7, 8, 10, 16, 31] hX mixed ?_ | refine awp_ret ?_ | refine awp_skip ?_ | refine awp_exit ?_); (simp [go_sem]; try (refine ⟨by kernel_rfl, ?_⟩)))))
      refine awp_cond (b := false) (by simp [go_sem]) (fun h => by cases h) (fun _ => ?_)
      have e : l0 = l := isLv_uniq hl0 ⟨h2, h4, by simpa using h5⟩
      subst e
      (repeat (first | refine awp_seq ?_ | refine awp_block ?_ | ((first | refine awp_runG [0, 1, 4, 5, 6, 7, 8, 10, 16, 31] hX ?_ | refine awp_drawnG [0, 1, 4, 5, 6, 7, 8, 10, 16, 31] hX mixed ?_ | refine awp_ret ?_ | refine awp_skip ?_ | refine awp_exit ?_); (simp [go_sem]; try (refine ⟨by kernel_rfl, ?_⟩)))))
    | succ j =>
      obtain ⟨e1, e2⟩ := half j
      obtain ⟨p1, p2⟩ := pw j (by omega)
      rw [e2] at h3 h5
      simp only [e1]
      have hq2 : ((2 : Int) ^ j).tdiv 2 = 2 ^ j / 2 := Int.tdiv_eq_ediv_of_nonneg (by omega)
      obtain ⟨b, hb⟩ : ∃ b, (2 : Int) ^ j = b := ⟨_, rfl⟩
      rw [hb] at h3 h5 p1 p2 hq2 ⊢
      (repeat (first | refine awp_seq ?_ | refine awp_block ?_ | ((first | refine awp_runG [0, 1, 4, 5, 6, 7, 8, 10, 16, 31] hX ?_ | refine awp_drawnG [0, 1, 4, 5, 6, 7, 8, 10, 16, 31] hX mixed ?_ | refine awp_ret ?_ | refine awp_skip ?_ | refine awp_exit ?_); (simp [go_sem]; try (refine ⟨by kernel_rfl, ?_⟩)))))
      refine awp_cond (b := true) (by simp [go_sem]; omega) (fun _ => ?_) (fun h => by cases h)
      (repeat (first | refine awp_seq ?_ | refine awp_block ?_ | ((first | refine awp_runG [0, 1, 4, 5, 6, 7, 8, 10, 16, 31] hX ?_ | refine awp_drawnG [0, 1, 4, 5, 6, 7, 8, 10, 16, 31] hX mixed ?_ | refine awp_ret ?_ | refine awp_skip ?_ | refine awp_exit ?_); (simp [go_sem]; try (refine ⟨by kernel_rfl, ?_⟩)))))
      have hwb := w64 (x := l + b) (by omega) (by omega)
      refine awp_loop (fun k : Nat => ⟨mkE [(0, il C), (1, ii h), (5, ii l), (6, ii b), (7, ii (fill (C.take k) (l + b))), (8, ii k)], []⟩) (fun k => k ≤ C.length) (fun k => C.length - k) 0 ?_ ?_ ?_
      · refine sub_of _ [] (by simp [go_sem, fill]) ?_
        simp [go_sem, fill]
      · omega
      · intro k hk
        (repeat (first | refine awp_seq ?_ | refine awp_block ?_ | ((first | refine awp_runG [0, 1, 4, 5, 6, 7, 8, 10, 16, 31] hX ?_ | refine awp_drawnG [0, 1, 4, 5, 6, 7, 8, 10, 16, 31] hX mixed ?_ | refine awp_ret ?_ | refine awp_skip ?_ | refine awp_exit ?_); (simp [go_sem]; try (refine ⟨by kernel_rfl, ?_⟩)))))
        refine awp_cond (b := decide (k < C.length)) (by simp [go_sem]) (fun hc => ?_) (fun hc => ?_)
        · simp at hc
          have e := fill_succ hc (l + b)
          have f1 := fill_nn (okC_take hok (k + 1)) (show 0 ≤ l + b by omega)
          have f2 := fill_le (l + b) (C.take (k + 1))
          have f3 := sum_bd (okC_take hok (k + 1))
          rw [List.length_take] at f3
          rw [e] at f1 f2
          (repeat (first | refine awp_seq ?_ | refine awp_block ?_ | ((first | refine awp_runG [0, 1, 4, 5, 6, 7, 8, 10, 16, 31] hX ?_ | refine awp_drawnG [0, 1, 4, 5, 6, 7, 8, 10, 16, 31] hX mixed ?_ | refine awp_ret ?_ | refine awp_skip ?_ | refine awp_exit ?_); (simp [go_sem, hc, hwb]; (try simp (disch := omega) only [w64, td, tm]); try (refine ⟨by kernel_rfl, ?_⟩)))))
          refine ⟨k + 1, by omega, by omega, ?_⟩
          rw [e]
          refine sub_of _ [] (by simp [go_sem]) ?_
          simp [go_sem]
        · have hkl : k = C.length := by simp at hc; omega
          subst hkl
          rw [List.take_length]
          (repeat (first | refine awp_seq ?_ | refine awp_block ?_ | ((first | refine awp_runG [0, 1, 4, 5, 6, 7, 8, 10, 16, 31] hX ?_ | refine awp_drawnG [0, 1, 4, 5, 6, 7, 8, 10, 16, 31] hX mixed ?_ | refine awp_ret ?_ | refine awp_skip ?_ | refine awp_exit ?_); (simp [go_sem]; try (refine ⟨by kernel_rfl, ?_⟩)))))
          refine awp_cond (b := decide (fill C (l + b) ≤ h)) (by simp [go_sem]) (fun hd => ?_) (fun hd => ?_)
          · simp at hd
            (repeat (first | refine awp_seq ?_ | refine awp_block ?_ | ((first | refine awp_runG [0, 1, 4, 5, 6, 7, 8, 10, 16, 31] hX ?_ | refine awp_drawnG [0, 1, 4, 5, 6, 7, 8, 10, 16, 31] hX mixed ?_ | refine awp_ret ?_ | refine awp_skip ?_ | refine awp_exit ?_); (simp [go_sem, hwb, hq2]; (try simp (disch := omega) only [w64, td, tm]); try (refine ⟨by kernel_rfl, ?_⟩)))))
            try (simp [go_sem, hwb, hq2]; try (refine ⟨by kernel_rfl, ?_⟩))
            refine ⟨l + b, j, ⟨by omega, by omega, by rw [hb]; omega, hd, by rw [hb, show l + b + b = l + 2 * b by omega]; exact h5⟩, by omega, ?_⟩
            rw [hb]
            refine sub_of _ [] (by simp [go_sem]) ?_
            simp [go_sem]
          · simp at hd
            (repeat (first | refine awp_seq ?_ | refine awp_block ?_ | ((first | refine awp_runG [0, 1, 4, 5, 6, 7, 8, 10, 16, 31] hX ?_ | refine awp_drawnG [0, 1, 4, 5, 6, 7, 8, 10, 16, 31] hX mixed ?_ | refine awp_ret ?_ | refine awp_skip ?_ | refine awp_exit ?_); (simp [go_sem, hq2]; (try simp (disch := omega) only [w64, td, tm]); try (refine ⟨by kernel_rfl, ?_⟩)))))
            try (simp [go_sem, hq2]; try (refine ⟨by kernel_rfl, ?_⟩))
            refine ⟨l, j, ⟨by omega, h2, by rw [hb]; omega, h4, by rw [hb]; omega⟩, by omega, ?_⟩
            rw [hb]
            refine sub_of _ [] (by simp [go_sem]) ?_
            simp [go_sem]

end Go.Proofs.Ytnifpooobleahaa
