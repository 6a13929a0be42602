/-
  Layer 24: lists that are right: marks and keys that were seen.
-/
import Derived.Test.YtjgkjenbgadacaaDoorBidB
set_option linter.all false
namespace Go.Proofs.YtjgkjenbgadacaaDoor
open Go.RowKit Go.Ab
attribute [local irreducible] AWP Go.Ab.Sub Means MeansH CallK CallG CallT CallGT CallU

/-- Numbers that were seen. -/
def seenE (l : List Int) : List (AV × AV) := l.map fun x => (ii x, bb true)
@[go_sem] theorem seenE_nil : seenE [] = [] := rfl
@[go_sem] theorem keyEq_ii (a b : Int) : keyEq Tryd.prog 3 (ii a) (ii b) = some (decide (a = b)) := by
  simp only [keyEq, tk3, eqV, if_true]
  rw [beqI]
theorem look_seen (x : Int) (l : List Int) : findA Tryd.prog 3 (ii x) (seenE l) = some (if x ∈ l then some (bb true) else none) := by
  induction l with
  | nil => rfl
  | cons v l ih =>
    simp only [seenE] at ih
    simp only [seenE, List.map_cons, findA, keyEq_ii]
    rw [ih]
    by_cases h : x = v
    · simp [h]
    · simp [h]
theorem lookA_seen (x : Int) (l : List Int) : lookA Tryd.prog 3 4 (ii x) (seenE l) false = some (bb (decide (x ∈ l))) := by
  unfold lookA
  rw [look_seen, tk4]
  by_cases h : x ∈ l <;> simp only [h, if_true, if_false, foundA] <;> simp
theorem updA_seen (x : Int) : ∀ (l : List Int), x ∉ l → updA Tryd.prog 3 (ii x) (bb true) (seenE l) = some (seenE (l ++ [x]))
  | [], _ => rfl
  | v :: l, h => by
    simp only [List.mem_cons, not_or] at h
    have := updA_seen x l h.2
    simp only [seenE, List.map_cons, updA, keyEq_ii, h.1, decide_false, List.cons_append]
    simp only [seenE] at this
    rw [this]; rfl

set_option maxHeartbeats 4000000 in
set_option maxRecDepth 20000 in
theorem different_m (M : List Int) (hl : M.length ≤ 9223372036854775807) : Means true Tryd.prog 38 [il M] (bb (okMb M)) := by
  refine means_fn true 32 [.tmp 2] Tryd.func38 rfl rfl rfl (by simp) (by decide) rfl fun X hX => ?_
  (repeat (first | refine awp_seq ?_ | refine awp_block ?_ | ((first | refine awp_runG [0, 2, 3, 5, 7, 8, 9, 10, 20] hX ?_ | refine awp_drawnG [0, 2, 3, 5, 7, 8, 9, 10, 20] hX mixed ?_ | refine awp_ret ?_ | refine awp_skip ?_ | refine awp_exit ?_); (simp [go_sem]; try (refine ⟨by kernel_rfl, ?_⟩)))))
  refine awp_loop (fun k : Nat => ⟨mkE [(0, il M), (3, .ow 0), (7, il M), (8, ii M.length), (9, ii k)], [.map ⟨3, 4, seenE (M.take k)⟩]⟩) (fun k => k ≤ M.length ∧ (∀ x ∈ M.take k, 0 ≤ x ∧ x < 200) ∧ (M.take k).Nodup) (fun k => M.length - k) 0 ?_ ?_ ?_
  · refine sub_of _ [.oldM 0 ⟨3, 4, []⟩] (by simp [go_sem]) ?_
    simp [go_sem]
  · simp
  · rintro k ⟨hk, h1, h2⟩
    (repeat (first | refine awp_seq ?_ | refine awp_block ?_ | ((first | refine awp_runG [0, 2, 3, 5, 7, 8, 9, 10, 20] hX ?_ | refine awp_drawnG [0, 2, 3, 5, 7, 8, 9, 10, 20] hX mixed ?_ | refine awp_ret ?_ | refine awp_skip ?_ | refine awp_exit ?_); (simp [go_sem]; try (refine ⟨by kernel_rfl, ?_⟩)))))
    refine awp_cond (b := decide (k < M.length)) (by simp [go_sem]) (fun hc => ?_) (fun hc => ?_)
    · simp at hc
      have c1 := key_m M[k]
      have hq := nth_ii hc
      have hlo := lookA_seen M[k] (M.take k)
      have hup := updA_seen M[k] (M.take k)
      have htk : M.take (k + 1) = M.take k ++ [M[k]] := List.take_succ_eq_append_getElem hc
      have hnd : M[k] ∈ M.take k → ¬ M.Nodup := fun hm hn => by
        rw [← List.take_append_drop k M, List.nodup_append] at hn
        exact hn.2.2 _ hm M[k] (by rw [List.drop_eq_getElem_cons hc]; exact List.mem_cons_self) rfl
      have hkm : M[k] ∈ M := List.getElem_mem hc
      have wk := w64 (x := (k : Int) + 1) (by omega) (by omega)
      generalize M[k] = x at *
      (repeat (first | refine awp_seq ?_ | refine awp_block ?_ | ((first | refine awp_runG [0, 2, 3, 5, 7, 8, 9, 10, 20] hX ?_ | refine awp_drawnG [0, 2, 3, 5, 7, 8, 9, 10, 20] hX mixed ?_ | refine awp_ret ?_ | refine awp_skip ?_ | refine awp_exit ?_); (simp [go_sem, hc, hq]; try (refine ⟨by kernel_rfl, ?_⟩)))))
      first | refine callK_intro (c1) rfl (by simp [go_sem]) rfl ?_ | refine callT_intro (c1) rfl (by simp [go_sem]) rfl ?_
      try (simp [go_sem]; try (refine ⟨by kernel_rfl, ?_⟩))
      (repeat (first | refine awp_seq ?_ | refine awp_block ?_ | ((first | refine awp_runG [0, 2, 3, 5, 7, 8, 9, 10, 20] hX ?_ | refine awp_drawnG [0, 2, 3, 5, 7, 8, 9, 10, 20] hX mixed ?_ | refine awp_ret ?_ | refine awp_skip ?_ | refine awp_exit ?_); (simp [go_sem, hlo]; try (refine ⟨by kernel_rfl, ?_⟩)))))
      try (simp [go_sem, hlo]; try (refine ⟨by kernel_rfl, ?_⟩))
      refine awp_cond (b := !keyB x || decide (x ∈ M.take k)) (by simp [go_sem]) (fun hd => ?_) (fun hd => ?_)
      · have e : okMb M = false := by
          rw [← Bool.not_eq_true, okMb_iff]
          rintro ⟨q1, q2, _⟩
          simp only [Bool.or_eq_true, Bool.not_eq_true', decide_eq_true_eq] at hd
          rcases hd with hd | hd
          · have := q1 x hkm
            simp [keyB] at hd
            omega
          · exact hnd hd q2
        (repeat (first | refine awp_seq ?_ | refine awp_block ?_ | ((first | refine awp_runG [0, 2, 3, 5, 7, 8, 9, 10, 20] hX ?_ | refine awp_drawnG [0, 2, 3, 5, 7, 8, 9, 10, 20] hX mixed ?_ | refine awp_ret ?_ | refine awp_skip ?_ | refine awp_exit ?_); (simp [go_sem, e]; try (refine ⟨by kernel_rfl, ?_⟩)))))
      · simp only [Bool.or_eq_false_iff, Bool.not_eq_false', decide_eq_false_iff_not] at hd
        have hu := hup hd.2
        (repeat (first | refine awp_seq ?_ | refine awp_block ?_ | ((first | refine awp_runG [0, 2, 3, 5, 7, 8, 9, 10, 20] hX ?_ | refine awp_drawnG [0, 2, 3, 5, 7, 8, 9, 10, 20] hX mixed ?_ | refine awp_ret ?_ | refine awp_skip ?_ | refine awp_exit ?_); (simp [go_sem, hu, wk]; try (refine ⟨by kernel_rfl, ?_⟩)))))
        try (repeat (first | refine awp_seq ?_ | refine awp_block ?_ | ((first | refine awp_runG [0, 2, 3, 5, 7, 8, 9, 10, 20] hX ?_ | refine awp_drawnG [0, 2, 3, 5, 7, 8, 9, 10, 20] hX mixed ?_ | refine awp_ret ?_ | refine awp_skip ?_ | refine awp_exit ?_); (simp [go_sem, wk]; try (refine ⟨by kernel_rfl, ?_⟩)))))
        refine ⟨k + 1, ⟨by omega, ?_, ?_⟩, by omega, ?_⟩
        · rw [htk]
          intro y hy
          rcases List.mem_append.1 hy with hy | hy
          · exact h1 y hy
          · simp at hy
            have := hd.1
            simp [keyB] at this
            rw [hy]; exact this
        · rw [htk, List.nodup_append]
          exact ⟨h2, by simp, fun a ha b hb e => by simp at hb; subst hb; subst e; exact hd.2 ha⟩
        · rw [htk]
          refine sub_of _ [.oldM 0 ⟨3, 4, seenE (M.take k ++ [x])⟩] (by simp [go_sem]) ?_
          simp [go_sem]
    · have hkl : k = M.length := by simp at hc; omega
      rw [List.take_of_length_le (by omega)] at h1 h2
      have e : okMb M = (decide (0 < M.length) && decide (M.length ≤ 60)) := by
        have hall : M.all keyB = true := List.all_eq_true.2 fun x hx => by have := h1 x hx; simp [keyB]; omega
        simp [okMb, hall, h2]
      (repeat (first | refine awp_seq ?_ | refine awp_block ?_ | ((first | refine awp_runG [0, 2, 3, 5, 7, 8, 9, 10, 20] hX ?_ | refine awp_drawnG [0, 2, 3, 5, 7, 8, 9, 10, 20] hX mixed ?_ | refine awp_ret ?_ | refine awp_skip ?_ | refine awp_exit ?_); (simp [go_sem]; try (refine ⟨by kernel_rfl, ?_⟩)))))
      rw [e]
      congr 1
      simp
      try omega

theorem clash_take {L : List Bd} {k : Nat} (b : Bd) : clashB (L.take k) b = (decide (b.m ∈ (L.map Bd.m).take k) || decide (b.w ∈ (L.map Bd.w).take k)) := by
  rw [Bool.eq_iff_iff, clash_iff, List.map_take, List.map_take]
  simp

set_option maxHeartbeats 8000000 in
set_option maxRecDepth 20000 in
theorem rightL_m (L : List Bd) (hl : L.length ≤ 9223372036854775807) : Means true Tryd.prog 19 [bl L] (bb (okL L)) := by
  have hA : (L.map Bd.m).length = L.length := by simp
  have hB : (L.map Bd.w).length = L.length := by simp
  have hct := fun k (b : Bd) => clash_take (L := L) (k := k) b
  have hAk : ∀ k (hk : k < L.length), (L.map Bd.m).take (k + 1) = (L.map Bd.m).take k ++ [L[k].m] := fun k hk => by rw [List.take_succ_eq_append_getElem (by omega)]; simp
  have hBk : ∀ k (hk : k < L.length), (L.map Bd.w).take (k + 1) = (L.map Bd.w).take k ++ [L[k].w] := fun k hk => by rw [List.take_succ_eq_append_getElem (by omega)]; simp
  generalize L.map Bd.m = A at *
  generalize L.map Bd.w = B at *
  refine means_fn true 37 [.tmp 2] Tryd.func19 rfl rfl rfl (by simp) (by decide) rfl fun X hX => ?_
  (repeat (first | refine awp_seq ?_ | refine awp_block ?_ | ((first | refine awp_runG [0, 2, 3, 4, 6, 9, 10, 11, 12, 29] hX ?_ | refine awp_drawnG [0, 2, 3, 4, 6, 9, 10, 11, 12, 29] hX mixed ?_ | refine awp_ret ?_ | refine awp_skip ?_ | refine awp_exit ?_); (simp [go_sem]; try (refine ⟨by kernel_rfl, ?_⟩)))))
  refine awp_loop (fun k : Nat => ⟨mkE [(0, bl L), (3, .ow 0), (4, .ow 1), (9, bl L), (10, ii L.length), (11, ii k)], [.map ⟨3, 4, seenE (A.take k)⟩, .map ⟨3, 4, seenE (B.take k)⟩]⟩) (fun k => k ≤ L.length ∧ okL (L.take k) = true) (fun k => L.length - k) 0 ?_ ?_ ?_
  · refine sub_of _ [.oldM 0 ⟨3, 4, []⟩, .oldM 1 ⟨3, 4, []⟩] (by simp [go_sem]) ?_
    simp [go_sem]
  · simp [okL_nil]
  · rintro k ⟨hk, h1⟩
    (repeat (first | refine awp_seq ?_ | refine awp_block ?_ | ((first | refine awp_runG [0, 2, 3, 4, 6, 9, 10, 11, 12, 29] hX ?_ | refine awp_drawnG [0, 2, 3, 4, 6, 9, 10, 11, 12, 29] hX mixed ?_ | refine awp_ret ?_ | refine awp_skip ?_ | refine awp_exit ?_); (simp [go_sem]; try (refine ⟨by kernel_rfl, ?_⟩)))))
    refine awp_cond (b := decide (k < L.length)) (by simp [go_sem]) (fun hc => ?_) (fun hc => ?_)
    · simp at hc
      have c1 := right_m L[k]
      have hq := nth_ob hc
      have hloA := lookA_seen L[k].m (A.take k)
      have hupA := updA_seen L[k].m (A.take k)
      have hloB := lookA_seen L[k].w (B.take k)
      have hupB := updA_seen L[k].w (B.take k)
      have hot := okL_take hc
      have hck := hct k L[k]
      have hAs := hAk k hc
      have hBs := hBk k hc
      have hnot := @okL_not L (k + 1)
      have wk := w64 (x := (k : Int) + 1) (by omega) (by omega)
      generalize L[k] = x at *
      (repeat (first | refine awp_seq ?_ | refine awp_block ?_ | ((first | refine awp_runG [0, 2, 3, 4, 6, 9, 10, 11, 12, 29] hX ?_ | refine awp_drawnG [0, 2, 3, 4, 6, 9, 10, 11, 12, 29] hX mixed ?_ | refine awp_ret ?_ | refine awp_skip ?_ | refine awp_exit ?_); (simp [go_sem, hc, hq]; try (refine ⟨by kernel_rfl, ?_⟩)))))
      first | refine callK_intro (c1) rfl (by simp [go_sem]) rfl ?_ | refine callT_intro (c1) rfl (by simp [go_sem]) rfl ?_
      try (simp [go_sem]; try (refine ⟨by kernel_rfl, ?_⟩))
      (repeat (first | refine awp_seq ?_ | refine awp_block ?_ | ((first | refine awp_runG [0, 2, 3, 4, 6, 9, 10, 11, 12, 29] hX ?_ | refine awp_drawnG [0, 2, 3, 4, 6, 9, 10, 11, 12, 29] hX mixed ?_ | refine awp_ret ?_ | refine awp_skip ?_ | refine awp_exit ?_); (simp [go_sem, hloA, hloB]; try (refine ⟨by kernel_rfl, ?_⟩)))))
      try (simp [go_sem, hloA, hloB]; try (refine ⟨by kernel_rfl, ?_⟩))
      refine awp_cond (b := !okB x || (decide (x.m ∈ A.take k) || decide (x.w ∈ B.take k))) (by simp [go_sem, Bool.or_assoc]) (fun hd => ?_) (fun hd => ?_)
      · have e : okL L = false := by
          refine hnot ?_
          rw [← Bool.not_eq_true, hot, hck]
          rintro ⟨_, q2, q3⟩
          rw [q2, q3] at hd
          simp at hd
        (repeat (first | refine awp_seq ?_ | refine awp_block ?_ | ((first | refine awp_runG [0, 2, 3, 4, 6, 9, 10, 11, 12, 29] hX ?_ | refine awp_drawnG [0, 2, 3, 4, 6, 9, 10, 11, 12, 29] hX mixed ?_ | refine awp_ret ?_ | refine awp_skip ?_ | refine awp_exit ?_); (simp [go_sem, e]; try (refine ⟨by kernel_rfl, ?_⟩)))))
      · simp only [Bool.or_eq_false_iff, Bool.not_eq_false', decide_eq_false_iff_not] at hd
        have huA := hupA hd.2.1
        have huB := hupB hd.2.2
        (repeat (first | refine awp_seq ?_ | refine awp_block ?_ | ((first | refine awp_runG [0, 2, 3, 4, 6, 9, 10, 11, 12, 29] hX ?_ | refine awp_drawnG [0, 2, 3, 4, 6, 9, 10, 11, 12, 29] hX mixed ?_ | refine awp_ret ?_ | refine awp_skip ?_ | refine awp_exit ?_); (simp [go_sem, huA, huB, wk]; try (refine ⟨by kernel_rfl, ?_⟩)))))
        try (repeat (first | refine awp_seq ?_ | refine awp_block ?_ | ((first | refine awp_runG [0, 2, 3, 4, 6, 9, 10, 11, 12, 29] hX ?_ | refine awp_drawnG [0, 2, 3, 4, 6, 9, 10, 11, 12, 29] hX mixed ?_ | refine awp_ret ?_ | refine awp_skip ?_ | refine awp_exit ?_); (simp [go_sem, huA, huB, wk]; try (refine ⟨by kernel_rfl, ?_⟩)))))
        refine ⟨k + 1, ⟨by omega, hot.2 ⟨h1, hd.1, by rw [hck]; simp [hd.2.1, hd.2.2]⟩⟩, by omega, ?_⟩
        rw [hAs, hBs]
        refine sub_of _ [.oldM 0 ⟨3, 4, seenE (A.take k ++ [x.m])⟩, .oldM 1 ⟨3, 4, seenE (B.take k ++ [x.w])⟩] (by simp [go_sem]) ?_
        simp [go_sem]
    · have hkl : k = L.length := by simp at hc; omega
      rw [List.take_of_length_le (by omega)] at h1
      (repeat (first | refine awp_seq ?_ | refine awp_block ?_ | ((first | refine awp_runG [0, 2, 3, 4, 6, 9, 10, 11, 12, 29] hX ?_ | refine awp_drawnG [0, 2, 3, 4, 6, 9, 10, 11, 12, 29] hX mixed ?_ | refine awp_ret ?_ | refine awp_skip ?_ | refine awp_exit ?_); (simp [go_sem]; try (refine ⟨by kernel_rfl, ?_⟩)))))
      rw [h1]

end Go.Proofs.YtjgkjenbgadacaaDoor
