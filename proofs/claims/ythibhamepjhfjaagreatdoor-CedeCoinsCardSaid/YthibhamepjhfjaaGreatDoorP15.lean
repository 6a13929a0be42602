/-
  Lemmas for the statement at the top.
-/
import Derived.Test.YthibhamepjhfjaaGreatDoorP14
import Derived.Test.YthibhamepjhfjaaGreatDoorRows
import Derived.Test.YthibhamepjhfjaaGreatDoorFw5
import Derived.Test.YthibhamepjhfjaaGreatDoorP12
set_option linter.all false
namespace Go.Proofs.YthibhamepjhfjaaGreatDoor
open Go.RowKit Go.Ab
attribute [local irreducible] AWP Go.Ab.Sub Means MeansH MeansX CallK CallG CallT CallGT CallU
def fewTo (S : List (List Int)) (i : Nat) : Prop := ∀ k, k < i → (S.getD k []).length ≤ 14
def fewP (own : List Int) (S : List (List Int)) : Prop := own.length ≤ 6 ∧ S.length ≤ 6 ∧ fewTo S S.length
noncomputable instance (own : List Int) (S : List (List Int)) : Decidable (fewP own S) := Classical.propDecidable _
theorem getL_lt {S : List (List Int)} {k : Nat} (h : k < S.length) : S.getD k [] = S[k] := by rw [List.getD_eq_getElem?_getD, List.getElem?_eq_getElem h]; rfl
set_option maxHeartbeats 4000000 in
theorem few_m (own : List Int) (S : List (List Int)) : Means false Tryz.prog 8 [il own, ill S] (bb (decide (fewP own S))) := by
  refine means_fn false 30 [.tmp 4] Tryz.func8 rfl rfl rfl (by simp) (by decide) rfl fun X hX => ?_
  (repeat (first | refine awp_seq ?_ | refine awp_block ?_ | ((first | refine awp_runG [0, 1, 4, 5, 13, 21] hX ?_ | refine awp_drawnG [0, 1, 4, 5, 13, 21] hX mixed ?_ | refine awp_ret ?_ | refine awp_skip ?_ | refine awp_exit ?_); (simp [go_sem]; try (refine ⟨by kernel_rfl, ?_⟩)))))
  refine awp_loop (fun i : Nat => ⟨mkE [(0, il own), (1, ill S), (5, ii i)], []⟩) (fun i => i ≤ S.length ∧ i ≤ 7 ∧ fewTo S i) (fun i => 7 - i) 0 ?_ ?_ ?_
  · refine sub_of _ [] (by simp [go_sem]) ?_
    simp [go_sem]
  · exact ⟨by omega, by omega, fun k hk => by omega⟩
  · rintro i ⟨h1, h2, h3⟩
    have wi := w64 (x := (i : Int) + 1) (by omega) (by omega)
    (repeat (first | refine awp_seq ?_ | refine awp_block ?_ | ((first | refine awp_runG [0, 1, 4, 5, 13, 21] hX ?_ | refine awp_drawnG [0, 1, 4, 5, 13, 21] hX mixed ?_ | refine awp_ret ?_ | refine awp_skip ?_ | refine awp_exit ?_); (simp [go_sem]; try (refine ⟨by kernel_rfl, ?_⟩)))))
    refine awp_cond (b := decide (i < S.length) && decide ((i : Int) < 7)) (by simp [go_sem]) (fun hb => ?_) (fun hb => ?_)
    · simp only [Bool.and_eq_true, decide_eq_true_eq] at hb
      obtain ⟨hb, h7⟩ := hb
      have q1 := nthE_L (L := S) hb
      have hg := getL_lt hb
      (repeat (first | refine awp_seq ?_ | refine awp_block ?_ | ((first | refine awp_runG [0, 1, 4, 5, 13, 21] hX ?_ | refine awp_drawnG [0, 1, 4, 5, 13, 21] hX mixed ?_ | refine awp_ret ?_ | refine awp_skip ?_ | refine awp_exit ?_); (simp [go_sem, hb, q1]; try (refine ⟨by kernel_rfl, ?_⟩)))))
      refine awp_cond (b := decide (14 < S[i].length)) (by simp [go_sem, hb, q1]; try omega) (fun hd => ?_) (fun hd => ?_)
      · simp only [decide_eq_true_eq] at hd
        have e : ¬ fewP own S := fun h => by
          have := h.2.2 i hb
          rw [hg] at this; omega
        (repeat (first | refine awp_seq ?_ | refine awp_block ?_ | ((first | refine awp_runG [0, 1, 4, 5, 13, 21] hX ?_ | refine awp_drawnG [0, 1, 4, 5, 13, 21] hX mixed ?_ | refine awp_ret ?_ | refine awp_skip ?_ | refine awp_exit ?_); (simp [go_sem, e]; try (refine ⟨by kernel_rfl, ?_⟩)))))
      · simp only [decide_eq_false_iff_not] at hd
        (repeat (first | refine awp_seq ?_ | refine awp_block ?_ | ((first | refine awp_runG [0, 1, 4, 5, 13, 21] hX ?_ | refine awp_drawnG [0, 1, 4, 5, 13, 21] hX mixed ?_ | refine awp_ret ?_ | refine awp_skip ?_ | refine awp_exit ?_); (simp [go_sem, wi]; try (refine ⟨by kernel_rfl, ?_⟩)))))
        refine ⟨i + 1, ⟨by omega, by omega, fun k hk => ?_⟩, by omega, ?_⟩
        · by_cases e : k = i
          · subst e; rw [hg]; omega
          · exact h3 k (by omega)
        · refine sub_of _ [] (by simp [go_sem]) ?_
          simp [go_sem]
    · simp only [Bool.and_eq_false_iff, decide_eq_false_iff_not] at hb
      (repeat (first | refine awp_seq ?_ | refine awp_block ?_ | ((first | refine awp_runG [0, 1, 4, 5, 13, 21] hX ?_ | refine awp_drawnG [0, 1, 4, 5, 13, 21] hX mixed ?_ | refine awp_ret ?_ | refine awp_skip ?_ | refine awp_exit ?_); (simp [go_sem]; try (refine ⟨by kernel_rfl, ?_⟩)))))
      have e : decide (fewP own S) = (decide ((own.length : Int) ≤ 6) && decide ((S.length : Int) ≤ 6)) := by
        rw [Bool.eq_iff_iff]
        simp only [Bool.and_eq_true, decide_eq_true_eq]
        constructor
        · rintro ⟨h4, h5, _⟩
          omega
        · rintro ⟨h4, h5⟩
          refine ⟨by omega, by omega, ?_⟩
          have : i = S.length := by omega
          rw [← this]; exact h3
      rw [e]
theorem rgiven_m (l : List Int) (hl : l.length ≤ 1000) (h : ∀ x ∈ l, 0 ≤ x ∧ x ≤ 1000) : Means false Tryz.prog 40 [il l] (ii (sumI l)) := by
  refine means_fn false 18 [.tmp 2] Tryz.func40 rfl rfl rfl (by simp) (by decide) rfl fun X hX => ?_
  (repeat (first | refine awp_seq ?_ | refine awp_block ?_ | ((first | refine awp_runG [0, 2, 3, 4, 8] hX ?_ | refine awp_drawnG [0, 2, 3, 4, 8] hX mixed ?_ | refine awp_ret ?_ | refine awp_skip ?_ | refine awp_exit ?_); (simp [go_sem]; try (refine ⟨by kernel_rfl, ?_⟩)))))
  refine awp_loop (fun k : Nat => ⟨mkE [(0, il l), (3, ii (sumI (l.take k))), (4, ii k)], []⟩) (fun k => k ≤ l.length) (fun k => l.length - k) 0 ?_ ?_ ?_
  · refine sub_of _ [] (by simp [go_sem]) ?_
    simp [go_sem, sumI]
  · omega
  · intro k hk
    (repeat (first | refine awp_seq ?_ | refine awp_block ?_ | ((first | refine awp_runG [0, 2, 3, 4, 8] hX ?_ | refine awp_drawnG [0, 2, 3, 4, 8] hX mixed ?_ | refine awp_ret ?_ | refine awp_skip ?_ | refine awp_exit ?_); (simp [go_sem]; try (refine ⟨by kernel_rfl, ?_⟩)))))
    refine awp_cond (b := decide (k < l.length)) (by simp [go_sem]) (fun hb => ?_) (fun hb => ?_)
    · simp only [decide_eq_true_eq] at hb
      have q1 := nth_ii hb
      have b1 := csum_bd l k h
      have b2 := csum_bd l (k + 1) h
      have e : sumI (l.take (k + 1)) = sumI (l.take k) + l[k] := by rw [List.take_succ_eq_append_getElem hb, sumI_snoc]
      rw [e] at b2
      have w1 := w64 (x := sumI (l.take k) + l[k]) (by omega) (by omega)
      have w2 := w64 (x := (k : Int) + 1) (by omega) (by omega)
      (repeat (first | refine awp_seq ?_ | refine awp_block ?_ | ((first | refine awp_runG [0, 2, 3, 4, 8] hX ?_ | refine awp_drawnG [0, 2, 3, 4, 8] hX mixed ?_ | refine awp_ret ?_ | refine awp_skip ?_ | refine awp_exit ?_); (simp [go_sem, hb, q1, w1, w2]; try (refine ⟨by kernel_rfl, ?_⟩)))))
      refine ⟨k + 1, by omega, by omega, ?_⟩
      rw [e]
      refine sub_of _ [] (by simp [go_sem]) ?_
      simp [go_sem]
    · simp only [decide_eq_false_iff_not] at hb
      have hk2 : k = l.length := by omega
      subst hk2
      rw [List.take_length]
      (repeat (first | refine awp_seq ?_ | refine awp_block ?_ | ((first | refine awp_runG [0, 2, 3, 4, 8] hX ?_ | refine awp_drawnG [0, 2, 3, 4, 8] hX mixed ?_ | refine awp_ret ?_ | refine awp_skip ?_ | refine awp_exit ?_); (simp [go_sem]; try (refine ⟨by kernel_rfl, ?_⟩)))))
def cellOk (S : List (List Int)) (k j : Nat) : Prop := 0 ≤ sO S k j ∧ sO S k j ≤ 1000 ∧ (k = j → sO S k j = 0)
noncomputable instance (S : List (List Int)) (k j : Nat) : Decidable (cellOk S k j) := Classical.propDecidable _
def cellsTo (S : List (List Int)) (k j : Nat) : Prop := ∀ t, t < j → cellOk S k t
def rowsTo (own : List Int) (S : List (List Int)) (i : Nat) : Prop := ∀ k, k < i → rowOk own S k
theorem row_cells {own : List Int} {S : List (List Int)} {k : Nat} (hk : k < own.length) : rowOk own S k ↔ (0 ≤ wO own k ∧ wO own k ≤ 1099511627776) ∧ (S.getD k []).length = own.length ∧ cellsTo S k own.length := by
  unfold rowOk cellsTo cellOk
  constructor
  · rintro ⟨h1, h2, h3, h4⟩
    refine ⟨h1, h2, fun t ht => ?_⟩
    have ht' : t < (S.getD k []).length := by omega
    have : sO S k t = (S.getD k [])[t] := by unfold sO; exact getD_at ht'
    have h5 := h3 _ (List.getElem_mem ht')
    rw [← this] at h5
    exact ⟨h5.1, h5.2, fun e => e ▸ h4⟩
  · rintro ⟨h1, h2, h3⟩
    refine ⟨h1, h2, fun x hx => ?_, (h3 k hk).2.2 rfl⟩
    obtain ⟨t, ht, rfl⟩ := List.getElem_of_mem hx
    have : sO S k t = (S.getD k [])[t] := by unfold sO; exact getD_at ht
    have := h3 t (by omega)
    omega
set_option maxHeartbeats 8000000 in
set_option maxRecDepth 20000 in
theorem rRight38 (own : List Int) (S : List (List Int)) (hl : own.length ≤ 9223372036854775807) (hS : S.length ≤ 9223372036854775807) : Means false Tryz.prog 17 [il own, ill S] (bb (decide (PR own S))) := by
  by_cases h0 : 0 < own.length ∧ own.length ≤ 12 ∧ S.length = own.length
  · refine means_fn false 89 [.tmp 4] Tryz.func17 rfl rfl rfl (by simp) (by decide) rfl fun X hX => ?_
    (repeat (first | refine awp_seq ?_ | refine awp_block ?_ | ((first | refine awp_runG [0, 1, 4, 5, 6, 21, 25, 49, 53, 88] hX ?_ | refine awp_drawnG [0, 1, 4, 5, 6, 21, 25, 49, 53, 88] hX mixed ?_ | refine awp_ret ?_ | refine awp_skip ?_ | refine awp_exit ?_); (simp [go_sem]; try (refine ⟨by kernel_rfl, ?_⟩)))))
    refine awp_cond (b := false) (by simp [go_sem, h0.2.2]; omega) (fun h => by cases h) (fun _ => ?_)
    (repeat (first | refine awp_seq ?_ | refine awp_block ?_ | ((first | refine awp_runG [0, 1, 4, 5, 6, 21, 25, 49, 53, 88] hX ?_ | refine awp_drawnG [0, 1, 4, 5, 6, 21, 25, 49, 53, 88] hX mixed ?_ | refine awp_ret ?_ | refine awp_skip ?_ | refine awp_exit ?_); (simp [go_sem]; try (refine ⟨by kernel_rfl, ?_⟩)))))
    refine awp_loop (fun k : Nat => ⟨mkE [(0, il own), (1, ill S), (5, ii k)], []⟩) (fun k => k ≤ own.length ∧ rowsTo own S k) (fun k => own.length - k) 0 ?_ ?_ ?_
    · refine sub_of _ [] (by simp [go_sem]) ?_
      simp [go_sem]
    · exact ⟨by omega, fun j hj => by omega⟩
    · rintro k ⟨hk, hp⟩
      have wk := w64 (x := (k : Int) + 1) (by omega) (by omega)
      (repeat (first | refine awp_seq ?_ | refine awp_block ?_ | ((first | refine awp_runG [0, 1, 4, 5, 6, 21, 25, 49, 53, 88] hX ?_ | refine awp_drawnG [0, 1, 4, 5, 6, 21, 25, 49, 53, 88] hX mixed ?_ | refine awp_ret ?_ | refine awp_skip ?_ | refine awp_exit ?_); (simp [go_sem]; try (refine ⟨by kernel_rfl, ?_⟩)))))
      refine awp_cond (b := decide (k < own.length)) (by simp [go_sem]) (fun hb => ?_) (fun hb => ?_)
      · simp only [decide_eq_true_eq] at hb
        have hkS : k < S.length := by omega
        have q1 := nth_ii hb
        have q2 := nthE_L (L := S) hkS
        have hg := getL_lt hkS
        have hro := row_cells (S := S) hb
        rw [hg, show wO own k = own[k] from getD_at hb] at hro
        (repeat (first | refine awp_seq ?_ | refine awp_block ?_ | ((first | refine awp_runG [0, 1, 4, 5, 6, 21, 25, 49, 53, 88] hX ?_ | refine awp_drawnG [0, 1, 4, 5, 6, 21, 25, 49, 53, 88] hX mixed ?_ | refine awp_ret ?_ | refine awp_skip ?_ | refine awp_exit ?_); (simp [go_sem, hb, hkS, q1, q2]; try (refine ⟨by kernel_rfl, ?_⟩)))))
        refine awp_cond (b := decide (¬ ((0 ≤ own[k] ∧ own[k] ≤ 1099511627776) ∧ S[k].length = own.length))) (by simp [go_sem, hb, hkS, q1, q2]; try grind) (fun hd => ?_) (fun hd => ?_)
        · have e : ¬ PR own S := fun h => by
            have := ((PR_iff own S).1 h).2 k hb
            have := hro.1 this
            simp [this.1, this.2.1] at hd
          (repeat (first | refine awp_seq ?_ | refine awp_block ?_ | ((first | refine awp_runG [0, 1, 4, 5, 6, 21, 25, 49, 53, 88] hX ?_ | refine awp_drawnG [0, 1, 4, 5, 6, 21, 25, 49, 53, 88] hX mixed ?_ | refine awp_ret ?_ | refine awp_skip ?_ | refine awp_exit ?_); (simp [go_sem, e]; try (refine ⟨by kernel_rfl, ?_⟩)))))
        · have hd : 0 ≤ own[k] ∧ own[k] ≤ 1099511627776 ∧ S[k].length = own.length := by simpa using hd
          (repeat (first | refine awp_seq ?_ | refine awp_block ?_ | ((first | refine awp_runG [0, 1, 4, 5, 6, 21, 25, 49, 53, 88] hX ?_ | refine awp_drawnG [0, 1, 4, 5, 6, 21, 25, 49, 53, 88] hX mixed ?_ | refine awp_ret ?_ | refine awp_skip ?_ | refine awp_exit ?_); (simp [go_sem]; try (refine ⟨by kernel_rfl, ?_⟩)))))
          refine awp_loop (fun j : Nat => ⟨mkE [(0, il own), (1, ill S), (5, ii k), (6, ii j)], []⟩) (fun j => j ≤ own.length ∧ cellsTo S k j) (fun j => own.length - j) 0 ?_ ?_ ?_
          · refine sub_of _ [] (by simp [go_sem]) ?_
            simp [go_sem]
          · exact ⟨by omega, fun j hj => by omega⟩
          · rintro j ⟨hj, hc⟩
            have wj := w64 (x := (j : Int) + 1) (by omega) (by omega)
            (repeat (first | refine awp_seq ?_ | refine awp_block ?_ | ((first | refine awp_runG [0, 1, 4, 5, 6, 21, 25, 49, 53, 88] hX ?_ | refine awp_drawnG [0, 1, 4, 5, 6, 21, 25, 49, 53, 88] hX mixed ?_ | refine awp_ret ?_ | refine awp_skip ?_ | refine awp_exit ?_); (simp [go_sem]; try (refine ⟨by kernel_rfl, ?_⟩)))))
            refine awp_cond (b := decide (j < own.length)) (by simp [go_sem]) (fun hb2 => ?_) (fun hb2 => ?_)
            · simp only [decide_eq_true_eq] at hb2
              have hjS : j < S[k].length := by omega
              have q3 := nth_ii hjS
              have hso : S[k][j] = sO S k j := by unfold sO; rw [hg]; exact (getD_at hjS).symm
              rw [hso] at q3
              have hco : cellOk S k j ↔ 0 ≤ sO S k j ∧ sO S k j ≤ 1000 ∧ (k = j → sO S k j = 0) := Iff.rfl
              generalize sO S k j = v at *
              (repeat (first | refine awp_seq ?_ | refine awp_block ?_ | ((first | refine awp_runG [0, 1, 4, 5, 6, 21, 25, 49, 53, 88] hX ?_ | refine awp_drawnG [0, 1, 4, 5, 6, 21, 25, 49, 53, 88] hX mixed ?_ | refine awp_ret ?_ | refine awp_skip ?_ | refine awp_exit ?_); (simp [go_sem, hb2, hkS, hjS, q2, q3]; try (refine ⟨by kernel_rfl, ?_⟩)))))
              refine ⟨fun h1 h2 h3 => ⟨⟨h1, h2⟩, h3⟩, ?_⟩
              refine awp_cond (b := decide (v < 0) || decide (1000 < v) || decide ((k : Int) = (j : Int)) && !decide (v = 0)) (by simp [go_sem]) (fun hd2 => ?_) (fun hd2 => ?_)
              · simp only [Bool.or_eq_true, Bool.and_eq_true, Bool.not_eq_true', decide_eq_true_eq, decide_eq_false_iff_not] at hd2
                have e : ¬ PR own S := fun h => by
                  have := ((PR_iff own S).1 h).2 k hb
                  have := hco.1 ((hro.1 this).2.2 j hb2)
                  omega
                (repeat (first | refine awp_seq ?_ | refine awp_block ?_ | ((first | refine awp_runG [0, 1, 4, 5, 6, 21, 25, 49, 53, 88] hX ?_ | refine awp_drawnG [0, 1, 4, 5, 6, 21, 25, 49, 53, 88] hX mixed ?_ | refine awp_ret ?_ | refine awp_skip ?_ | refine awp_exit ?_); (simp [go_sem, e]; try (refine ⟨by kernel_rfl, ?_⟩)))))
              · simp only [Bool.or_eq_false_iff, Bool.and_eq_false_iff, Bool.not_eq_false', decide_eq_true_eq, decide_eq_false_iff_not] at hd2
                have hd2 : cellOk S k j := hco.2 (by omega)
                (repeat (first | refine awp_seq ?_ | refine awp_block ?_ | ((first | refine awp_runG [0, 1, 4, 5, 6, 21, 25, 49, 53, 88] hX ?_ | refine awp_drawnG [0, 1, 4, 5, 6, 21, 25, 49, 53, 88] hX mixed ?_ | refine awp_ret ?_ | refine awp_skip ?_ | refine awp_exit ?_); (simp [go_sem, wj]; try (refine ⟨by kernel_rfl, ?_⟩)))))
                refine ⟨j + 1, ⟨by omega, fun t ht => ?_⟩, by omega, ?_⟩
                · by_cases e : t = j
                  · subst e; exact hd2
                  · exact hc t (by omega)
                · refine sub_of _ [] (by simp [go_sem]) ?_
                  simp [go_sem]
            · simp only [decide_eq_false_iff_not] at hb2
              have : j = own.length := by omega
              subst this
              (repeat (first | refine awp_seq ?_ | refine awp_block ?_ | ((first | refine awp_runG [0, 1, 4, 5, 6, 21, 25, 49, 53, 88] hX ?_ | refine awp_drawnG [0, 1, 4, 5, 6, 21, 25, 49, 53, 88] hX mixed ?_ | refine awp_ret ?_ | refine awp_skip ?_ | refine awp_exit ?_); (simp [go_sem, wk]; try (refine ⟨by kernel_rfl, ?_⟩)))))
              refine ⟨k + 1, ⟨by omega, fun t ht => ?_⟩, by omega, ?_⟩
              · by_cases e : t = k
                · subst e; exact hro.2 ⟨⟨hd.1, hd.2.1⟩, hd.2.2, hc⟩
                · exact hp t (by omega)
              · refine sub_of _ [] (by simp [go_sem]) ?_
                simp [go_sem]
      · simp only [decide_eq_false_iff_not] at hb
        have hk2 : k = own.length := by omega
        subst hk2
        have e : PR own S := (PR_iff own S).2 ⟨h0, hp⟩
        (repeat (first | refine awp_seq ?_ | refine awp_block ?_ | ((first | refine awp_runG [0, 1, 4, 5, 6, 21, 25, 49, 53, 88] hX ?_ | refine awp_drawnG [0, 1, 4, 5, 6, 21, 25, 49, 53, 88] hX mixed ?_ | refine awp_ret ?_ | refine awp_skip ?_ | refine awp_exit ?_); (simp [go_sem, e]; try (refine ⟨by kernel_rfl, ?_⟩)))))
  · have e : ¬ PR own S := fun h => h0 ⟨h.pos, h.most, h.len⟩
    refine means_fn false 89 [.tmp 4] Tryz.func17 rfl rfl rfl (by simp) (by decide) rfl fun X hX => ?_
    (repeat (first | refine awp_seq ?_ | refine awp_block ?_ | ((first | refine awp_runG [0, 1, 4, 5, 6, 21, 25, 49, 53, 88] hX ?_ | refine awp_drawnG [0, 1, 4, 5, 6, 21, 25, 49, 53, 88] hX mixed ?_ | refine awp_ret ?_ | refine awp_skip ?_ | refine awp_exit ?_); (simp [go_sem]; try (refine ⟨by kernel_rfl, ?_⟩)))))
    refine awp_cond (b := true) (by simp [go_sem]; omega) (fun _ => ?_) (fun h => by cases h)
    (repeat (first | refine awp_seq ?_ | refine awp_block ?_ | ((first | refine awp_runG [0, 1, 4, 5, 6, 21, 25, 49, 53, 88] hX ?_ | refine awp_drawnG [0, 1, 4, 5, 6, 21, 25, 49, 53, 88] hX mixed ?_ | refine awp_ret ?_ | refine awp_skip ?_ | refine awp_exit ?_); (simp [go_sem, e]; try (refine ⟨by kernel_rfl, ?_⟩)))))
theorem rBad_m (own : List Int) (S : List (List Int)) (hl : own.length ≤ 9223372036854775807) (hS : S.length ≤ 9223372036854775807) : Means false Tryz.prog 20 [il own, ill S] (ii (badP own S)) := by
  have c1 := rRight38 own S hl hS
  refine means_fn false 22 [.tmp 4] Tryz.func20 rfl rfl rfl (by simp) (by decide) rfl fun X hX => ?_
  (repeat (first | refine awp_seq ?_ | refine awp_block ?_ | ((first | refine awp_runG [0, 1, 4, 5, 9, 13, 21] hX ?_ | refine awp_drawnG [0, 1, 4, 5, 9, 13, 21] hX mixed ?_ | refine awp_ret ?_ | refine awp_skip ?_ | refine awp_exit ?_); (simp [go_sem]; try (refine ⟨by kernel_rfl, ?_⟩)))))
  first | refine callK_intro (c1) rfl (by simp [go_sem]) rfl ?_ | refine callT_intro (c1) rfl (by simp [go_sem]) rfl ?_
  try (simp [go_sem]; try (refine ⟨by kernel_rfl, ?_⟩))
  by_cases h : PR own S
  · refine awp_cond (b := false) (by simp [go_sem, h]) (fun h => by cases h) (fun _ => ?_)
    (repeat (first | refine awp_seq ?_ | refine awp_block ?_ | ((first | refine awp_runG [0, 1, 4, 5, 9, 13, 21] hX ?_ | refine awp_drawnG [0, 1, 4, 5, 9, 13, 21] hX mixed ?_ | refine awp_ret ?_ | refine awp_skip ?_ | refine awp_exit ?_); (simp [go_sem]; try (refine ⟨by kernel_rfl, ?_⟩)))))
    refine awp_loop (fun k : Nat => ⟨mkE [(1, ill S), (5, ii k)], []⟩) (fun k => k ≤ S.length ∧ ∀ l ∈ S.take k, sumI l < 1000) (fun k => S.length - k) 0 ?_ ?_ ?_
    · refine sub_of _ [] (by simp [go_sem]) ?_
      simp [go_sem]
    · exact ⟨by omega, by simp⟩
    · rintro k ⟨hk, hp⟩
      have hsl := h.len
      have hmo := h.most
      have wk := w64 (x := (k : Int) + 1) (by omega) (by omega)
      (repeat (first | refine awp_seq ?_ | refine awp_block ?_ | ((first | refine awp_runG [0, 1, 4, 5, 9, 13, 21] hX ?_ | refine awp_drawnG [0, 1, 4, 5, 9, 13, 21] hX mixed ?_ | refine awp_ret ?_ | refine awp_skip ?_ | refine awp_exit ?_); (simp [go_sem]; try (refine ⟨by kernel_rfl, ?_⟩)))))
      refine awp_cond (b := decide (k < S.length)) (by simp [go_sem]) (fun hb => ?_) (fun hb => ?_)
      · simp only [decide_eq_true_eq] at hb
        have q2 := nthE_L (L := S) hb
        have hpr := PR_row h (List.getElem_mem hb)
        have c2 := rgiven_m S[k] (by omega) hpr.2
        (repeat (first | refine awp_seq ?_ | refine awp_block ?_ | ((first | refine awp_runG [0, 1, 4, 5, 9, 13, 21] hX ?_ | refine awp_drawnG [0, 1, 4, 5, 9, 13, 21] hX mixed ?_ | refine awp_ret ?_ | refine awp_skip ?_ | refine awp_exit ?_); (simp [go_sem, hb, q2]; try (refine ⟨by kernel_rfl, ?_⟩)))))
        first | refine callK_intro (c2) rfl (by simp [go_sem]) rfl ?_ | refine callT_intro (c2) rfl (by simp [go_sem]) rfl ?_
        try (simp [go_sem]; try (refine ⟨by kernel_rfl, ?_⟩))
        refine awp_cond (b := decide (1000 ≤ sumI S[k])) (by simp [go_sem]) (fun hd => ?_) (fun hd => ?_)
        · simp only [decide_eq_true_eq] at hd
          have e : badP own S = 23 := by
            unfold badP
            rw [if_pos h, if_neg fun hv => by have := hv.lt _ (List.getElem_mem hb); omega]
          (repeat (first | refine awp_seq ?_ | refine awp_block ?_ | ((first | refine awp_runG [0, 1, 4, 5, 9, 13, 21] hX ?_ | refine awp_drawnG [0, 1, 4, 5, 9, 13, 21] hX mixed ?_ | refine awp_ret ?_ | refine awp_skip ?_ | refine awp_exit ?_); (simp [go_sem, e]; try (refine ⟨by kernel_rfl, ?_⟩)))))
        · simp only [decide_eq_false_iff_not] at hd
          (repeat (first | refine awp_seq ?_ | refine awp_block ?_ | ((first | refine awp_runG [0, 1, 4, 5, 9, 13, 21] hX ?_ | refine awp_drawnG [0, 1, 4, 5, 9, 13, 21] hX mixed ?_ | refine awp_ret ?_ | refine awp_skip ?_ | refine awp_exit ?_); (simp [go_sem, wk]; try (refine ⟨by kernel_rfl, ?_⟩)))))
          refine ⟨k + 1, ⟨by omega, fun l hl => ?_⟩, by omega, ?_⟩
          · rw [List.take_succ_eq_append_getElem hb] at hl
            rcases List.mem_append.1 hl with hl | hl
            · exact hp l hl
            · simp at hl; subst hl; omega
          · refine sub_of _ [] (by simp [go_sem]) ?_
            simp [go_sem]
      · simp only [decide_eq_false_iff_not] at hb
        rw [List.take_of_length_le (by omega)] at hp
        have e : badP own S = 0 := by unfold badP; rw [if_pos h, if_pos ⟨h, hp⟩]
        (repeat (first | refine awp_seq ?_ | refine awp_block ?_ | ((first | refine awp_runG [0, 1, 4, 5, 9, 13, 21] hX ?_ | refine awp_drawnG [0, 1, 4, 5, 9, 13, 21] hX mixed ?_ | refine awp_ret ?_ | refine awp_skip ?_ | refine awp_exit ?_); (simp [go_sem, e]; try (refine ⟨by kernel_rfl, ?_⟩)))))
  · have e : badP own S = 1 := by unfold badP; rw [if_neg h]
    rw [e]
    refine awp_cond (b := true) (by simp [go_sem, h]) (fun _ => ?_) (fun h => by cases h)
    (repeat (first | refine awp_seq ?_ | refine awp_block ?_ | ((first | refine awp_runG [0, 1, 4, 5, 9, 13, 21] hX ?_ | refine awp_drawnG [0, 1, 4, 5, 9, 13, 21] hX mixed ?_ | refine awp_ret ?_ | refine awp_skip ?_ | refine awp_exit ?_); (simp [go_sem]; try (refine ⟨by kernel_rfl, ?_⟩)))))
end Go.Proofs.YthibhamepjhfjaaGreatDoor

namespace Go.Proofs.YthibhamepjhfjaaGreatDoor
open Go.RowKit Go.Ab
theorem cast_nn {z : Int} (h : 0 ≤ z) : (0 : Rat) ≤ (z : Rat) := show ((0 : Int) : Rat) ≤ _ from Rat.intCast_le_intCast.2 h
theorem sumR_add (f g : Nat → Rat) (n : Nat) : sumR (fun k => f k + g k) n = sumR f n + sumR g n := by
  have := sumR_lin f g 1 1 n
  have e : (fun k => f k + g k) = fun k => 1 * f k + 1 * g k := by funext k; grind
  rw [e, this]; grind
theorem sumR_mul (f : Nat → Rat) (c : Rat) (n : Nat) : sumR (fun k => c * f k) n = c * sumR f n := by
  have := sumR_lin f (fun _ => 0) c 0 n
  have e : (fun k => c * f k) = fun k => c * f k + 0 * 0 := by funext k; grind
  rw [e, this]; grind
theorem sumR_swap (f : Nat → Nat → Rat) (n : Nat) : ∀ m, sumR (fun i => sumR (fun t => f i t) m) n = sumR (fun t => sumR (fun i => f i t) n) m
  | 0 => by simp only [sumR]; exact sumR_zero fun _ _ => rfl
  | m + 1 => by
    simp only [sumR]
    rw [sumR_add, sumR_swap f n m]
variable {own : List Int} {S : List (List Int)}
theorem kept_eq (h : PV own S) {t : Nat} (ht : t < own.length) : keptX own S t = allX own S t - sumR (fun i => allX own S t * (((sO S t i : Int) : Rat) / 1000)) own.length := by
  obtain ⟨l, hl, hS, hs⟩ := row_sum h.toPR ht
  have hg : S.getD t [] = l := by rw [List.getD_eq_getElem?_getD, hS]; rfl
  have e : sumR (fun i => allX own S t * (((sO S t i : Int) : Rat) / 1000)) own.length = allX own S t * (((sumI l : Int) : Rat) / 1000) := by
    rw [← hs]
    have e2 : (fun i => allX own S t * (((sO S t i : Int) : Rat) / 1000)) = fun i => (allX own S t / 1000) * ((sO S t i : Int) : Rat) := by funext i; grind
    rw [e2, sumR_mul]; grind
  unfold keptX
  rw [e, hg, Rat.intCast_sub]
  have : ((1000 : Int) : Rat) = 1000 := rfl
  rw [this]; grind
theorem kept_sum (h : PV own S) : sumR (keptX own S) own.length = ((sumI own : Int) : Rat) := by
  have e1 : sumR (keptX own S) own.length = sumR (fun t => allX own S t + (-1) * sumR (fun i => allX own S t * (((sO S t i : Int) : Rat) / 1000)) own.length) own.length := sumR_congr fun t ht => by rw [kept_eq h ht]; grind
  have e2 : sumR (allX own S) own.length = sumR (fun i => ((wO own i : Int) : Rat) + sumR (fun t => allX own S t * (((sO S t i : Int) : Rat) / 1000)) own.length) own.length := sumR_congr fun i hi => all_eq h hi
  rw [sumR_add, own_sum, sumR_swap] at e2
  rw [e1, sumR_add, sumR_mul, e2]; grind
theorem kept_nonneg (h : PV own S) {k : Nat} (hk : k < own.length) : 0 ≤ keptX own S k := by
  have h1 := all_nonneg h hk
  have h2 := part_bd h hk
  unfold keptX
  refine Rat.mul_nonneg h1 ?_
  have h3 : (0 : Rat) ≤ ((1000 - sumI (S.getD k []) : Int) : Rat) := cast_nn (by omega)
  have h4 : ((1000 : Int) : Rat) = 1000 := rfl
  rw [h4]
  grind
theorem sumR_item {f : Nat → Rat} : ∀ {n : Nat} {k : Nat}, k < n → (∀ j, j < n → 0 ≤ f j) → f k ≤ sumR f n
  | n + 1, k, hk, h => by
    simp only [sumR]
    by_cases e : k = n
    · subst e
      have := sumR_nonneg (f := f) (n := k) fun j hj => h j (by omega)
      grind
    · have := sumR_item (f := f) (n := n) (k := k) (by omega) fun j hj => h j (by omega)
      have := h n (by omega)
      grind
theorem sumI_bd {B : Int} (hB : 0 ≤ B) : ∀ (l : List Int), (∀ x ∈ l, 0 ≤ x ∧ x ≤ B) → 0 ≤ sumI l ∧ sumI l ≤ B * l.length
  | [], _ => by simp [sumI]
  | x :: l, h => by
    have h1 := h x (by simp)
    have h2 := sumI_bd hB l fun y hy => h y (by simp [hy])
    simp only [sumI, List.length_cons]
    have : B * ((l.length + 1 : Nat) : Int) = B * l.length + B := by rw [Int.natCast_add, Int.mul_add]; simp
    omega
theorem own_bd (h : PV own S) (h6 : own.length ≤ 6) : 0 ≤ sumI own ∧ sumI own ≤ 6597069766656 := by
  have := sumI_bd (B := 1099511627776) (by decide) own fun x hx => by
    obtain ⟨k, hk, rfl⟩ := List.getElem_of_mem hx
    have := h.w k hk
    rwa [show wO own k = own[k] from getD_at hk] at this
  omega
theorem kept_most (h : PV own S) (h6 : own.length ≤ 6) {k : Nat} (hk : k < own.length) : keptX own S k ≤ ((6597069766656 : Int) : Rat) := by
  have h1 := sumR_item (f := keptX own S) hk fun j hj => kept_nonneg h hj
  rw [kept_sum h] at h1
  have h2 : ((sumI own : Int) : Rat) ≤ ((6597069766656 : Int) : Rat) := Rat.intCast_le_intCast.2 (own_bd h h6).2
  grind
theorem fl_int (z : Int) : fl ((z : Int) : Rat) = z := by
  unfold fl; rw [Rat.num_intCast, Rat.den_intCast]; simp
theorem rsum_eq (ks : List Rat) : ∀ n, rsum ks n = sumR (fun t => ks.getD t 0) n - sumR (fun t => ((fl (ks.getD t 0) : Int) : Rat)) n
  | 0 => by show (0 : Rat) = 0 - 0; grind
  | n + 1 => by rw [rsum_succ, rsum_eq ks n]; simp only [sumR]; unfold rs; grind
theorem sumI_map (ks : List Rat) : sumR (fun t => ((fl (ks.getD t 0) : Int) : Rat)) ks.length = ((sumI (ks.map fl) : Int) : Rat) := by
  have := sumR_list (f := fun t => fl (ks.getD t 0)) (l := ks.map fl) (fun j hj => by
    rw [List.length_map] at hj
    simp [List.getD_eq_getElem?_getD, hj]) ks.length (by simp)
  rw [this, List.take_of_length_le (by simp)]
theorem rsum_int {ks : List Rat} {Z : Int} (h : sumR (fun t => ks.getD t 0) ks.length = ((Z : Int) : Rat)) : rsum ks ks.length = ((Z - sumI (ks.map fl) : Int) : Rat) := by
  rw [rsum_eq, h, sumI_map, Rat.intCast_sub]
theorem sumI_L (l : List Int) : sumI l = sumL l := by
  induction l with
  | nil => rfl
  | cons x l ih => simp only [sumI, sumL_cons, ih]
theorem coin_spec {ks : List Rat} {m : Nat} (hs : rsum ks ks.length = (((m : Nat) : Int) : Rat)) : (coinL ks).length = ks.length ∧ sumI (coinL ks) = sumI (ks.map fl) + m ∧
    ∀ (i : Nat) (hi : i < ks.length) (hi' : i < (coinL ks).length), (coinL ks)[i] = fl ks[i] ∨ ((coinL ks)[i] = fl ks[i] + 1 ∧ 0 < rs ks[i]) := by
  have hml : m ≤ ks.length := by
    have := (rsum_bd ks ks.length).2
    rw [hs] at this
    have := Rat.intCast_le_intCast.1 this
    omega
  have hm : (fl (rsum ks ks.length)).toNat = m := by rw [hs, fl_int]; simp
  obtain ⟨O, hO⟩ : ∃ O, srt (B.kf (ks.map rs)) (idxI ks.length) = O := ⟨_, rfl⟩
  have hc : coinL ks = bumps (ks.map fl) (O.take m) := by unfold coinL; rw [hm, hO]
  have hp : O.Perm (idxI ks.length) := by rw [← hO]; exact srt_perm _ _
  have hOn : O.Nodup := hp.nodup_iff.2 (idxI_nodup _)
  have hOm : ∀ x ∈ O, 0 ≤ x ∧ x < ks.length := fun x hx => idxI_mem.1 (hp.mem_iff.1 hx)
  have hOl : O.length = ks.length := by rw [hp.length_eq, idxI_len]
  rw [hc]
  refine ⟨by rw [bumps_len, List.length_map], ?_, fun i hi hi' => ?_⟩
  · rw [sumI_L, sumI_L, bumps_sum _ _ fun x hx => by rw [List.length_map]; exact hOm x (List.mem_of_mem_take hx), List.length_take]
    omega
  · have hi2 : i < (ks.map fl).length := by simpa using hi
    rw [bumps_at _ _ i hi2 hi' (hOn.sublist (List.take_sublist _ _)) fun x hx => (hOm x (List.mem_of_mem_take hx)).1, List.getElem_map]
    by_cases hio : (i : Int) ∈ O.take m
    · rw [if_pos hio]
      refine .inr ⟨rfl, ?_⟩
      let RI : List Int := (ks.map rs).map fun r => (r * (cden (ks.map rs) : Rat)).num
      have hRl : RI.length = ks.length := by simp [RI]
      have hk : ∀ x : Int, kR RI x = B.kf (ks.map rs) x := fun x => by
        unfold kR B.kf
        by_cases hx : x.toNat < ks.length
        · simp [RI, List.getD_eq_getElem?_getD, hx]
        · rw [List.getD_eq_getElem?_getD, List.getElem?_eq_none (by omega), List.getD_eq_getElem?_getD, List.getElem?_eq_none (by rw [List.length_map]; omega)]
          show (0 : Int) = ((0 : Rat) * _).num
          rw [Rat.zero_mul]; rfl
      have hkf : kR RI = B.kf (ks.map rs) := funext hk
      have hD := cden_pos (ks.map rs)
      have hDR : (0 : Rat) < (cden (ks.map rs) : Rat) := Rat.intCast_pos.2 hD
      have hcast : ∀ r ∈ ks.map rs, (((r * (cden (ks.map rs) : Rat)).num : Int) : Rat) = r * (cden (ks.map rs) : Rat) := fun r hr => by
        obtain ⟨z, hz⟩ := cden_int _ r hr
        rw [hz, Rat.num_intCast]
      have hRb : ∀ r ∈ RI, 0 ≤ r ∧ r < cden (ks.map rs) := fun r hr => by
        obtain ⟨q, hq, rfl⟩ := List.mem_map.1 hr
        have hcq := hcast q hq
        obtain ⟨k, _, rfl⟩ := List.mem_map.1 hq
        have h1 := rs_nonneg k
        have h2 := rs_lt k
        constructor
        · refine Rat.intCast_le_intCast.1 ?_
          rw [hcq]
          exact Rat.mul_nonneg h1 (Rat.le_of_lt hDR)
        · refine Rat.intCast_lt_intCast.1 ?_
          rw [hcq]
          have := Rat.mul_lt_mul_of_pos_right h2 hDR
          rwa [Rat.one_mul] at this
      have hsum : sumL RI = cden (ks.map rs) * m := by
        have e1 := sumR_list (f := fun t => RI.getD t 0) (l := RI) (fun j _ => rfl) RI.length (Nat.le_refl _)
        rw [List.take_length, hRl] at e1
        have e2 : sumR (fun t => ((RI.getD t 0 : Int) : Rat)) ks.length = sumR (fun t => (cden (ks.map rs) : Rat) * rs (ks.getD t 0)) ks.length := sumR_congr fun t ht => by
          have hmem : rs ks[t] ∈ ks.map rs := List.mem_map.2 ⟨_, List.getElem_mem ht, rfl⟩
          have h3 : RI.getD t 0 = (rs ks[t] * (cden (ks.map rs) : Rat)).num := by simp [RI, List.getD_eq_getElem?_getD, ht]
          rw [h3, hcast _ hmem, getQ_lt ht, Rat.mul_comm]
        rw [e2, sumR_mul] at e1
        have e3 : sumR (fun t => rs (ks.getD t 0)) ks.length = rsum ks ks.length := rfl
        rw [e3, hs, ← Rat.intCast_mul] at e1
        rw [← sumI_L]
        exact (Rat.intCast_inj.1 e1).symm
      have hx := more_pos (R := RI) (x := (i : Int)) hD hRb hsum (by rw [hkf, hRl, hO]; exact hio)
      rw [hk] at hx
      have h0 := B.kf_eq (ks.map rs) (i : Int)
      rw [Int.toNat_natCast] at h0
      have h4 : (ks.map rs).getD i 0 = rs ks[i] := by simp [List.getD_eq_getElem?_getD, hi]
      rw [h4] at h0
      have h5 : (0 : Rat) < ((B.kf (ks.map rs) (i : Int) : Int) : Rat) := Rat.intCast_pos.2 hx
      rw [h0] at h5
      have h6 := rs_nonneg ks[i]
      rcases Rat.le_iff_lt_or_eq.1 h6 with h7 | h7
      · exact h7
      · rw [← h7, Rat.zero_mul] at h5
        exact absurd h5 (by decide)
    · rw [if_neg hio]
      exact .inl (by omega)
end Go.Proofs.YthibhamepjhfjaaGreatDoor

namespace Go.Proofs.YthibhamepjhfjaaGreatDoor
open Go.RowKit Go.Ab
attribute [local irreducible] AWP Go.Ab.Sub Means MeansH MeansX CallK CallG CallT CallGT CallU
theorem New_q {z : Int} (h : rz z) : Means false Tryz.prog 25 [bigZ z, .agg [ii 1, il [1]]] (.tup [frq ((z : Int) : Rat), ii 0]) := by
  have := New_m z 1 h (rz_i (by decide)) (by decide)
  obtain ⟨h1, h2⟩ := np_rat (p := z) (q := 1) (r := ((z : Int) : Rat)) (by decide) (by show _ * (1 : Rat) = _; grind)
  rwa [h1, h2] at this
structure coinOk (f : Rat) (l : Int) : Prop where
  less : ((l - 1 : Int) : Rat) < f
  more : f < ((l + 1 : Int) : Rat)
  whole : ((fl f : Int) : Rat) = f → ((l : Int) : Rat) = f
  bd : 0 ≤ l ∧ l ≤ 9000000000000
  nn : 0 ≤ f
  top : f ≤ ((6597069766656 : Int) : Rat)
theorem coin_ok {f : Rat} {l : Int} (h0 : 0 ≤ f) (h1 : f ≤ ((6597069766656 : Int) : Rat)) (h : l = fl f ∨ (l = fl f + 1 ∧ 0 < rs f)) : coinOk f l := by
  have a1 := fl_le f
  have a2 := lt_fl f
  obtain ⟨a3, a4⟩ := fl_bd h0 h1
  have e1 : ((l - 1 : Int) : Rat) = (l : Rat) - 1 := by rw [Rat.intCast_sub]; rfl
  have e2 : ((l + 1 : Int) : Rat) = (l : Rat) + 1 := by rw [Rat.intCast_add]; rfl
  rcases h with rfl | ⟨rfl, h2⟩
  · exact ⟨by rw [e1]; grind, by rw [e2]; grind, id, by omega, h0, h1⟩
  · have e3 : ((fl f + 1 : Int) : Rat) = (fl f : Rat) + 1 := by rw [Rat.intCast_add]; rfl
    have h3 : ((fl f : Int) : Rat) < f := by unfold rs at h2; grind
    exact ⟨by rw [e1, e3]; grind, by rw [e2, e3]; grind, fun e => by rw [e] at h3; exact absurd h3 (by grind), by omega, h0, h1⟩
theorem sumI_succ {l : List Int} {i : Nat} (h : i < l.length) : sumI (l.take (i + 1)) = sumI (l.take i) + l[i] := by rw [List.take_succ_eq_append_getElem h, sumI_snoc]
set_option maxHeartbeats 8000000 in
set_option maxRecDepth 20000 in
theorem cedeCoins_m (own : List Int) (hl : own.length ≤ 9223372036854775807) (S : List (List Int)) (hS : S.length ≤ 9223372036854775807) : Means false Tryz.prog 5 [il own, ill S] (bb true) := by
  have cs := small_m
  have cf := few_m own S
  have cb := rBad_m own S hl hS
  refine means_fn false 170 [.tmp 4] Tryz.func5 rfl rfl rfl (by simp) (by decide) rfl fun X hX => ?_
  (repeat (first | refine awp_seq ?_ | refine awp_block ?_ | ((first | refine awp_runG [0, 1, 4, 5, 7, 8, 9, 10, 11, 12, 13, 14, 15, 16, 17, 18, 19, 20, 32, 65, 69, 136, 164] hX ?_ | refine awp_drawnG [0, 1, 4, 5, 7, 8, 9, 10, 11, 12, 13, 14, 15, 16, 17, 18, 19, 20, 32, 65, 69, 136, 164] hX mixed ?_ | refine awp_ret ?_ | refine awp_skip ?_ | refine awp_exit ?_); (simp [go_sem]; try (refine ⟨by kernel_rfl, ?_⟩)))))
  first | refine callK_intro (cs) rfl (by simp [go_sem]) rfl ?_ | refine callT_intro (cs) rfl (by simp [go_sem]) rfl ?_
  try (simp [go_sem]; try (refine ⟨by kernel_rfl, ?_⟩))
  (repeat (first | refine awp_seq ?_ | refine awp_block ?_ | ((first | refine awp_runG [0, 1, 4, 5, 7, 8, 9, 10, 11, 12, 13, 14, 15, 16, 17, 18, 19, 20, 32, 65, 69, 136, 164] hX ?_ | refine awp_drawnG [0, 1, 4, 5, 7, 8, 9, 10, 11, 12, 13, 14, 15, 16, 17, 18, 19, 20, 32, 65, 69, 136, 164] hX mixed ?_ | refine awp_ret ?_ | refine awp_skip ?_ | refine awp_exit ?_); (simp [go_sem]; try (refine ⟨by kernel_rfl, ?_⟩)))))
  first | refine callK_intro (cf) rfl (by simp [go_sem]) rfl ?_ | refine callT_intro (cf) rfl (by simp [go_sem]) rfl ?_
  try (simp [go_sem]; try (refine ⟨by kernel_rfl, ?_⟩))
  first | refine callG_intro (fun hg => cb) rfl (by simp [go_sem]) rfl ?_ | refine callGT_intro (fun hg => cb) rfl (by simp [go_sem]) rfl ?_
  try (simp [go_sem]; try (refine ⟨by kernel_rfl, ?_⟩))
  by_cases hgo : fewP own S ∧ badP own S = 0
  · refine awp_cond (b := false) (by simp [go_sem, hgo.1, hgo.2]) (fun h => by cases h) (fun _ => ?_)
    obtain ⟨hfw, hb0⟩ := hgo
    have hv : PV own S := by
      unfold badP at hb0
      split at hb0
      · split at hb0
        · assumption
        · cases hb0
      · cases hb0
    have h6 := hfw.1
    have c1 := Solve_q hv h6
    have hsum : sumR (fun t => (keptQ own S).getD t 0) (keptQ own S).length = ((sumI own : Int) : Rat) := by
      rw [keptQ_len, ← kept_sum hv]
      exact sumR_congr fun t ht => keptQ_at ht
    have hri := rsum_int hsum
    have hkb := keptQ_mem hv h6
    have hKl : (keptQ own S).length = own.length := keptQ_len _ _
    have hKq : ∀ x ∈ keptQ own S, rq x := fun x hx => bt_rq (hkb x hx) (by decide) (by decide)
    have hK0 : ∀ x ∈ keptQ own S, 0 ≤ x ∧ x ≤ ((6597069766656 : Int) : Rat) := fun x hx => by
      obtain ⟨k, hk, rfl⟩ := List.mem_map.1 hx
      have hk : k < own.length := by simpa using hk
      exact ⟨kept_nonneg hv hk, kept_most hv h6 hk⟩
    have hmost : ((6597069766656 : Int) : Rat) ≤ most := Rat.intCast_le_intCast.2 (by decide)
    have hnn : 0 ≤ sumI own - sumI ((keptQ own S).map fl) := by
      have := (rsum_bd (keptQ own S) (keptQ own S).length).1
      rw [hri] at this
      exact Rat.intCast_le_intCast.1 (show ((0 : Int) : Rat) ≤ _ from this)
    obtain ⟨m, hm⟩ : ∃ m : Nat, (m : Int) = sumI own - sumI ((keptQ own S).map fl) := ⟨(sumI own - sumI ((keptQ own S).map fl)).toNat, by omega⟩
    rw [← hm] at hri
    have c2 := Coins_t (ks := keptQ own S) (fun k hk => ⟨⟨(hK0 k hk).1, Rat.le_trans (hK0 k hk).2 hmost⟩, hkb k hk⟩) (by rw [hKl]; exact hv.pos) (by rw [hKl]; omega) (by rw [hri, fl_int])
    obtain ⟨s1, s2, s3⟩ := coin_spec hri
    have s4 : sumI (coinL (keptQ own S)) = sumI own := by omega
    rw [hKl] at s1
    have hit : ∀ i (hi : i < (keptQ own S).length) (hi' : i < (coinL (keptQ own S)).length), coinOk (keptQ own S)[i] (coinL (keptQ own S))[i] := fun i hi hi' =>
      coin_ok (hK0 _ (List.getElem_mem hi)).1 (hK0 _ (List.getElem_mem hi)).2 (s3 i hi hi')
    have hwb : ∀ x ∈ own, 0 ≤ x ∧ x ≤ 1099511627776 := fun x hx => by
      obtain ⟨k, hk, rfl⟩ := List.getElem_of_mem hx
      have := hv.w k hk
      rwa [show wO own k = own[k] from getD_at hk] at this
    have hLb : ∀ x ∈ coinL (keptQ own S), 0 ≤ x ∧ x ≤ 9000000000000 := fun x hx => by
      obtain ⟨k, hk, rfl⟩ := List.getElem_of_mem hx
      exact (hit k (by omega) hk).bd
    generalize coinL (keptQ own S) = L at *
    generalize keptQ own S = K at *
    clear hri hsum hkb hK0 hnn hm s2 s3 hb0 cb cf
    (repeat (first | refine awp_seq ?_ | refine awp_block ?_ | ((first | refine awp_runG [0, 1, 4, 5, 7, 8, 9, 10, 11, 12, 13, 14, 15, 16, 17, 18, 19, 20, 32, 65, 69, 136, 164] hX ?_ | refine awp_drawnG [0, 1, 4, 5, 7, 8, 9, 10, 11, 12, 13, 14, 15, 16, 17, 18, 19, 20, 32, 65, 69, 136, 164] hX mixed ?_ | refine awp_ret ?_ | refine awp_skip ?_ | refine awp_exit ?_); (simp [go_sem]; try (refine ⟨by kernel_rfl, ?_⟩)))))
    first | refine callK_intro (c1) rfl (by simp [go_sem]) rfl ?_ | refine callT_intro (c1) rfl (by simp [go_sem]) rfl ?_
    try (simp [go_sem]; try (refine ⟨by kernel_rfl, ?_⟩))
    (repeat (first | refine awp_seq ?_ | refine awp_block ?_ | ((first | refine awp_runG [0, 1, 4, 5, 7, 8, 9, 10, 11, 12, 13, 14, 15, 16, 17, 18, 19, 20, 32, 65, 69, 136, 164] hX ?_ | refine awp_drawnG [0, 1, 4, 5, 7, 8, 9, 10, 11, 12, 13, 14, 15, 16, 17, 18, 19, 20, 32, 65, 69, 136, 164] hX mixed ?_ | refine awp_ret ?_ | refine awp_skip ?_ | refine awp_exit ?_); (simp [go_sem]; try (refine ⟨by kernel_rfl, ?_⟩)))))
    first | refine callK_intro (c2) rfl (by simp [go_sem]) rfl ?_ | refine callT_intro (c2) rfl (by simp [go_sem]) rfl ?_
    try (simp [go_sem]; try (refine ⟨by kernel_rfl, ?_⟩))
    (repeat (first | refine awp_seq ?_ | refine awp_block ?_ | ((first | refine awp_runG [0, 1, 4, 5, 7, 8, 9, 10, 11, 12, 13, 14, 15, 16, 17, 18, 19, 20, 32, 65, 69, 136, 164] hX ?_ | refine awp_drawnG [0, 1, 4, 5, 7, 8, 9, 10, 11, 12, 13, 14, 15, 16, 17, 18, 19, 20, 32, 65, 69, 136, 164] hX mixed ?_ | refine awp_ret ?_ | refine awp_skip ?_ | refine awp_exit ?_); (simp [go_sem]; try (refine ⟨by kernel_rfl, ?_⟩)))))
    refine awp_cond (b := false) (by simp [go_sem, s1, hKl]) (fun h => by cases h) (fun _ => ?_)
    (repeat (first | refine awp_seq ?_ | refine awp_block ?_ | ((first | refine awp_runG [0, 1, 4, 5, 7, 8, 9, 10, 11, 12, 13, 14, 15, 16, 17, 18, 19, 20, 32, 65, 69, 136, 164] hX ?_ | refine awp_drawnG [0, 1, 4, 5, 7, 8, 9, 10, 11, 12, 13, 14, 15, 16, 17, 18, 19, 20, 32, 65, 69, 136, 164] hX mixed ?_ | refine awp_ret ?_ | refine awp_skip ?_ | refine awp_exit ?_); (simp [go_sem]; try (refine ⟨by kernel_rfl, ?_⟩)))))
    refine awp_loop (fun i : Nat => ⟨mkE [(0, il own), (5, bb true), (7, fql K), (9, il L), (11, ii (sumI (own.take i) - sumI (L.take i))), (12, ii i)], []⟩) (fun i => i ≤ own.length) (fun i => own.length - i) 0 ?_ ?_ ?_
    · refine sub_of _ [] (by simp [go_sem]) ?_
      simp [go_sem, sumI]
    · omega
    · intro i hi
      have wi := w64 (x := (i : Int) + 1) (by omega) (by omega)
      (repeat (first | refine awp_seq ?_ | refine awp_block ?_ | ((first | refine awp_runG [0, 1, 4, 5, 7, 8, 9, 10, 11, 12, 13, 14, 15, 16, 17, 18, 19, 20, 32, 65, 69, 136, 164] hX ?_ | refine awp_drawnG [0, 1, 4, 5, 7, 8, 9, 10, 11, 12, 13, 14, 15, 16, 17, 18, 19, 20, 32, 65, 69, 136, 164] hX mixed ?_ | refine awp_ret ?_ | refine awp_skip ?_ | refine awp_exit ?_); (simp [go_sem]; try (refine ⟨by kernel_rfl, ?_⟩)))))
      refine awp_cond (b := decide (i < own.length)) (by simp [go_sem]) (fun hb => ?_) (fun hb => ?_)
      · simp only [decide_eq_true_eq] at hb
        have hiL : i < L.length := by omega
        have hiK : i < K.length := by omega
        have q1 := nth_ii hb
        have q2 := nth_ii hiL
        have q3 : nth (K.map frq) i = frq K[i] := nth_map _ hiK
        have hc := hit i hiK hiL
        have hfq := hKq _ (List.getElem_mem hiK)
        have bw := hwb _ (List.getElem_mem hb)
        have t1 := sumI_bd (B := 1099511627776) (by decide) (own.take i) fun x hx => hwb x (List.mem_of_mem_take hx)
        have t2 := sumI_bd (B := 9000000000000) (by decide) (L.take i) fun x hx => hLb x (List.mem_of_mem_take hx)
        rw [List.length_take] at t1 t2
        have e1 := sumI_succ hb
        have e2 := sumI_succ hiL
        generalize sumI (own.take i) = A at *
        generalize sumI (L.take i) = B at *
        generalize own[i] = w at *
        generalize L[i] = l at *
        generalize K[i] = f at *
        have bl := hc.bd
        have w1 := w64 (x := A - B + w) (by omega) (by omega)
        have w2 := w64 (x := A - B + w - l) (by omega) (by omega)
        have w3 := w64 (x := l - 1) (by omega) (by omega)
        have w4 := w64 (x := l + 1) (by omega) (by omega)
        obtain ⟨f1, f2⟩ := fl_bd hc.nn hc.top
        have o1 := Of_q l 1 (by omega) (by decide) (by decide)
        have o2 := Of_q (l - 1) 1 (by omega) (by decide) (by decide)
        have o3 := Of_q (l + 1) 1 (by omega) (by decide) (by decide)
        rw [cast1] at o1 o2 o3
        have r1 := rq_int (z := l) (by omega)
        have r2 := rq_int (z := l - 1) (by omega)
        have r3 := rq_int (z := l + 1) (by omega)
        have r4 := rq_int (z := fl f) (by omega)
        have m2 := Compare_q hfq r2
        have m3 := Compare_q hfq r3
        have m4 := Compare_q r4 hfq
        have m1 := Compare_q r1 hfq
        have z2 : ¬ cmpR f ((l - 1 : Int) : Rat) ≤ 0 := fun h => by
          have := (cmpR_gt f ((l - 1 : Int) : Rat)).2 hc.less
          omega
        have z3 : ¬ 0 ≤ cmpR f ((l + 1 : Int) : Rat) := fun h => by
          have := (cmpR_lt f ((l + 1 : Int) : Rat)).2 hc.more
          omega
        have z4 : cmpR ((fl f : Int) : Rat) f = 0 → cmpR ((l : Int) : Rat) f = 0 := fun h => (cmpR_eq _ _).2 (hc.whole ((cmpR_eq _ _).1 h))
        have c3 : Means false Tryz.prog 24 [frq f] (bigZ (fl f)) := Floor_f f.num f.den (rf_q hfq)
        have c4 := New_q (z := fl f) (rz_i (by omega))
        generalize ((l : Int) : Rat) = n1 at *
        generalize ((l - 1 : Int) : Rat) = n2 at *
        generalize ((l + 1 : Int) : Rat) = n3 at *
        (repeat (first | refine awp_seq ?_ | refine awp_block ?_ | ((first | refine awp_runG [0, 1, 4, 5, 7, 8, 9, 10, 11, 12, 13, 14, 15, 16, 17, 18, 19, 20, 32, 65, 69, 136, 164] hX ?_ | refine awp_drawnG [0, 1, 4, 5, 7, 8, 9, 10, 11, 12, 13, 14, 15, 16, 17, 18, 19, 20, 32, 65, 69, 136, 164] hX mixed ?_ | refine awp_ret ?_ | refine awp_skip ?_ | refine awp_exit ?_); (simp [go_sem, hb, hiL, hiK, q1, q2, q3, w1, w2]; try (refine ⟨by kernel_rfl, ?_⟩)))))
        first | refine callK_intro (o1) rfl (by simp [go_sem]) rfl ?_ | refine callT_intro (o1) rfl (by simp [go_sem]) rfl ?_
        try (simp [go_sem]; try (refine ⟨by kernel_rfl, ?_⟩))
        (repeat (first | refine awp_seq ?_ | refine awp_block ?_ | ((first | refine awp_runG [0, 1, 4, 5, 7, 8, 9, 10, 11, 12, 13, 14, 15, 16, 17, 18, 19, 20, 32, 65, 69, 136, 164] hX ?_ | refine awp_drawnG [0, 1, 4, 5, 7, 8, 9, 10, 11, 12, 13, 14, 15, 16, 17, 18, 19, 20, 32, 65, 69, 136, 164] hX mixed ?_ | refine awp_ret ?_ | refine awp_skip ?_ | refine awp_exit ?_); (simp [go_sem, hb, hiL, hiK, q1, q2, q3, w3]; try (refine ⟨by kernel_rfl, ?_⟩)))))
        first | refine callK_intro (o2) rfl (by simp [go_sem]) rfl ?_ | refine callT_intro (o2) rfl (by simp [go_sem]) rfl ?_
        try (simp [go_sem]; try (refine ⟨by kernel_rfl, ?_⟩))
        (repeat (first | refine awp_seq ?_ | refine awp_block ?_ | ((first | refine awp_runG [0, 1, 4, 5, 7, 8, 9, 10, 11, 12, 13, 14, 15, 16, 17, 18, 19, 20, 32, 65, 69, 136, 164] hX ?_ | refine awp_drawnG [0, 1, 4, 5, 7, 8, 9, 10, 11, 12, 13, 14, 15, 16, 17, 18, 19, 20, 32, 65, 69, 136, 164] hX mixed ?_ | refine awp_ret ?_ | refine awp_skip ?_ | refine awp_exit ?_); (simp [go_sem, hb, hiL, hiK, q1, q2, q3, w4]; try (refine ⟨by kernel_rfl, ?_⟩)))))
        first | refine callK_intro (o3) rfl (by simp [go_sem]) rfl ?_ | refine callT_intro (o3) rfl (by simp [go_sem]) rfl ?_
        try (simp [go_sem]; try (refine ⟨by kernel_rfl, ?_⟩))
        (repeat (first | refine awp_seq ?_ | refine awp_block ?_ | ((first | refine awp_runG [0, 1, 4, 5, 7, 8, 9, 10, 11, 12, 13, 14, 15, 16, 17, 18, 19, 20, 32, 65, 69, 136, 164] hX ?_ | refine awp_drawnG [0, 1, 4, 5, 7, 8, 9, 10, 11, 12, 13, 14, 15, 16, 17, 18, 19, 20, 32, 65, 69, 136, 164] hX mixed ?_ | refine awp_ret ?_ | refine awp_skip ?_ | refine awp_exit ?_); (simp [go_sem, hb, hiK, q3]; try (refine ⟨by kernel_rfl, ?_⟩)))))
        first | refine callG_intro (fun hg => m2) rfl (by simp [go_sem]) rfl ?_ | refine callGT_intro (fun hg => m2) rfl (by simp [go_sem]) rfl ?_
        try (simp [go_sem, hb, hiK, q3]; try (refine ⟨by kernel_rfl, ?_⟩))
        first | refine callG_intro (fun hg => m3) rfl (by simp [go_sem]) rfl ?_ | refine callGT_intro (fun hg => m3) rfl (by simp [go_sem]) rfl ?_
        try (simp [go_sem, hb, hiK, q3]; try (refine ⟨by kernel_rfl, ?_⟩))
        refine awp_cond (b := false) (by simp [go_sem, z2, z3]) (fun h => by cases h) (fun _ => ?_)
        (repeat (first | refine awp_seq ?_ | refine awp_block ?_ | ((first | refine awp_runG [0, 1, 4, 5, 7, 8, 9, 10, 11, 12, 13, 14, 15, 16, 17, 18, 19, 20, 32, 65, 69, 136, 164] hX ?_ | refine awp_drawnG [0, 1, 4, 5, 7, 8, 9, 10, 11, 12, 13, 14, 15, 16, 17, 18, 19, 20, 32, 65, 69, 136, 164] hX mixed ?_ | refine awp_ret ?_ | refine awp_skip ?_ | refine awp_exit ?_); (simp [go_sem, hiK, q3]; try (refine ⟨by kernel_rfl, ?_⟩)))))
        first | refine callK_intro (c3) rfl (by simp [go_sem]) rfl ?_ | refine callT_intro (c3) rfl (by simp [go_sem]) rfl ?_
        try (simp [go_sem]; try (refine ⟨by kernel_rfl, ?_⟩))
        (repeat (first | refine awp_seq ?_ | refine awp_block ?_ | ((first | refine awp_runG [0, 1, 4, 5, 7, 8, 9, 10, 11, 12, 13, 14, 15, 16, 17, 18, 19, 20, 32, 65, 69, 136, 164] hX ?_ | refine awp_drawnG [0, 1, 4, 5, 7, 8, 9, 10, 11, 12, 13, 14, 15, 16, 17, 18, 19, 20, 32, 65, 69, 136, 164] hX mixed ?_ | refine awp_ret ?_ | refine awp_skip ?_ | refine awp_exit ?_); (simp [go_sem]; try (refine ⟨by kernel_rfl, ?_⟩)))))
        refine callKk_intro (c4) rfl rfl ?_
        try (simp [go_sem]; try (refine ⟨by kernel_rfl, ?_⟩))
        (repeat (first | refine awp_seq ?_ | refine awp_block ?_ | ((first | refine awp_runG [0, 1, 4, 5, 7, 8, 9, 10, 11, 12, 13, 14, 15, 16, 17, 18, 19, 20, 32, 65, 69, 136, 164] hX ?_ | refine awp_drawnG [0, 1, 4, 5, 7, 8, 9, 10, 11, 12, 13, 14, 15, 16, 17, 18, 19, 20, 32, 65, 69, 136, 164] hX mixed ?_ | refine awp_ret ?_ | refine awp_skip ?_ | refine awp_exit ?_); (simp [go_sem, hiK, q3]; try (refine ⟨by kernel_rfl, ?_⟩)))))
        first | refine callK_intro (m4) rfl (by simp [go_sem]) rfl ?_ | refine callT_intro (m4) rfl (by simp [go_sem]) rfl ?_
        try (simp [go_sem, hiK, q3]; try (refine ⟨by kernel_rfl, ?_⟩))
        first | refine callG_intro (fun hg => m1) rfl (by simp [go_sem]) rfl ?_ | refine callGT_intro (fun hg => m1) rfl (by simp [go_sem]) rfl ?_
        try (simp [go_sem, hiK, q3]; try (refine ⟨by kernel_rfl, ?_⟩))
        refine awp_cond (b := false) (by simp [go_sem]; try exact z4) (fun h => by cases h) (fun _ => ?_)
        (repeat (first | refine awp_seq ?_ | refine awp_block ?_ | ((first | refine awp_runG [0, 1, 4, 5, 7, 8, 9, 10, 11, 12, 13, 14, 15, 16, 17, 18, 19, 20, 32, 65, 69, 136, 164] hX ?_ | refine awp_drawnG [0, 1, 4, 5, 7, 8, 9, 10, 11, 12, 13, 14, 15, 16, 17, 18, 19, 20, 32, 65, 69, 136, 164] hX mixed ?_ | refine awp_ret ?_ | refine awp_skip ?_ | refine awp_exit ?_); (simp [go_sem, wi]; try (refine ⟨by kernel_rfl, ?_⟩)))))
        refine ⟨i + 1, by omega, by omega, ?_⟩
        rw [e1, e2, show A + w - (B + l) = A - B + w - l by omega]
        refine sub_of _ [] (by simp [go_sem]) ?_
        simp [go_sem]
      · have : i = own.length := by simp at hb; omega
        subst this
        rw [List.take_length, List.take_of_length_le (by omega), s4]
        (repeat (first | refine awp_seq ?_ | refine awp_block ?_ | ((first | refine awp_runG [0, 1, 4, 5, 7, 8, 9, 10, 11, 12, 13, 14, 15, 16, 17, 18, 19, 20, 32, 65, 69, 136, 164] hX ?_ | refine awp_drawnG [0, 1, 4, 5, 7, 8, 9, 10, 11, 12, 13, 14, 15, 16, 17, 18, 19, 20, 32, 65, 69, 136, 164] hX mixed ?_ | refine awp_ret ?_ | refine awp_skip ?_ | refine awp_exit ?_); (simp [go_sem]; try (refine ⟨by kernel_rfl, ?_⟩)))))
  · refine awp_cond (b := true) (by rcases Classical.not_and_iff_not_or_not.1 hgo with h | h <;> simp [go_sem, h]) (fun _ => ?_) (fun h => by cases h)
    (repeat (first | refine awp_seq ?_ | refine awp_block ?_ | ((first | refine awp_runG [0, 1, 4, 5, 7, 8, 9, 10, 11, 12, 13, 14, 15, 16, 17, 18, 19, 20, 32, 65, 69, 136, 164] hX ?_ | refine awp_drawnG [0, 1, 4, 5, 7, 8, 9, 10, 11, 12, 13, 14, 15, 16, 17, 18, 19, 20, 32, 65, 69, 136, 164] hX mixed ?_ | refine awp_ret ?_ | refine awp_skip ?_ | refine awp_exit ?_); (simp [go_sem]; try (refine ⟨by kernel_rfl, ?_⟩)))))
end Go.Proofs.YthibhamepjhfjaaGreatDoor

namespace Go.Proofs.YthibhamepjhfjaaGreatDoor
open Go.ChangeShapes Go.WideShapes Go.ChangeAt Go.RowKit Go.Ab
theorem Tryz.own : ownKnob Tryz.prog.godebug = none := by kernel_rfl
theorem Tryz.laidOut : laidOutB Tryz.prog = true := by kernel_rfl
set_option maxRecDepth 100000 in
theorem rep_is {H : Type} {enc : TypeId × Value → H} {W : World} {base : Nat} {v : Value} {d : DataW H} {p : List MemPlace} {M : Nat → Prop} {r : Go.Reach} {b0 : Nat} (hM : ∀ b, b < W.heap.size → M b)
    (hval : Value.okWide Tryz.prog W r b0 22 v) (h : DataW.Trod enc Tryz.prog W base (fun _ => true) true 22 v d p) : ∃ L : List Int, L.length ≤ maxLen ∧ RepZ W M v (.sl (L.map ii)) :=
  rep_sliceV ii 1 (by decide) (fun _ => rfl) Tryz.underlying22 (by kernel_rfl) hM (el_int Tryz.underlying3) hval h
set_option maxRecDepth 100000 in
theorem el_is {H : Type} {enc : TypeId × Value → H} {W : World} {base : Nat} {M : Nat → Prop} (hM : ∀ b, b < W.heap.size → M b) : ∀ n cs y, DataW.trod enc Tryz.prog W base (fun _ => true) true n 22 cs = some y → cs.length = 1 → ∃ x : List Int, ∀ (j : Nat) (c : Value) (z : AV), cs[j]? = some c → (il x).flat[j]? = some z → RepZ W M c z := by
  intro n cs y h hl
  match cs, hl with
  | [c0], _ =>
    obtain ⟨v, hv, L, hL, hr⟩ := rep_slice (M := M) ii 1 (by decide) (fun _ => rfl) Tryz.underlying22 (by kernel_rfl) hM (el_int Tryz.underlying3) h
    have : v = c0 := by simpa using hv.symm
    subst this
    refine ⟨L, fun j x z hx hz => ?_⟩
    match j with
    | 0 => simp [AV.flat] at hx hz; subst hx; subst hz; exact hr
    | j + 1 => simp at hx
set_option maxRecDepth 100000 in
theorem rep_iis {H : Type} {enc : TypeId × Value → H} {W : World} {base : Nat} {v : Value} {d : DataW H} {p : List MemPlace} {M : Nat → Prop} {r : Go.Reach} {b0 : Nat} (hM : ∀ b, b < W.heap.size → M b)
    (hval : Value.okWide Tryz.prog W r b0 23 v) (h : DataW.Trod enc Tryz.prog W base (fun _ => true) true 23 v d p) : ∃ L : List (List Int), L.length ≤ maxLen ∧ RepZ W M v (ill L) :=
  rep_sliceV il 1 (by decide) (fun _ => rfl) Tryz.underlying23 (by kernel_rfl) hM (el_is hM) hval h
set_option maxRecDepth 100000 in
theorem glob_of_laid {W : World} (h : laidMet Tryz.prog Rows.cedeCoinsRow.laid W) : GlobW W (fun b => b < W.heap.size) :=
  globW_one (g := 0) (cs := Lib.pow10Tab.map fun z => Value.int .u64 z) (by rw [globs]; kernel_rfl)
    (glob_ints (zs := Lib.pow10Tab) h (n := "internal/strconv.uint64pow10") (List.mem_of_getElem? (i := 2) (by kernel_rfl)) (len := 20) (by kernel_rfl) (by kernel_rfl) Tryz.underlying149 Tryz.underlying88 (by kernel_rfl) (by kernel_rfl))
    (fun g hg => by rw [globI] at hg; simp at hg)
noncomputable def laidWorld (os : Os) : World := layAll Tryz.prog (World.holding Tryz.prog os ⟨#[], #[], []⟩) Rows.cedeCoinsRow.laid
set_option maxRecDepth 100000 in
theorem laid_met (os : Os) (args : Array Value) : laidMet Tryz.prog Rows.cedeCoinsRow.laid ((laidWorld os).forCall (fun _ _ => 0) ⟨#[], args, []⟩).memory :=
  laidMet_of_run3 8 (by kernel_rfl) (by kernel_rfl) (by kernel_rfl)
end Go.Proofs.YthibhamepjhfjaaGreatDoor

