/-
  Lemmas for the statement at the top.
-/
import Derived.Test.YthibhamepjhfjaaGreatDoorSvP12
import Derived.Test.YthibhamepjhfjaaGreatDoorSvFw4
import Derived.Test.YthibhamepjhfjaaGreatDoorSvP9
set_option linter.all false
namespace Go.Proofs.YthibhamepjhfjaaGreatDoor
open Go.RowKit Go.Ab
attribute [local irreducible] AWP Go.Ab.Sub Means MeansH MeansX CallK CallG CallT CallGT CallU
noncomputable def badP (own : List Int) (S : List (List Int)) : Int := if PR own S then (if PV own S then 0 else 23) else 1
theorem PR_row {own : List Int} {S : List (List Int)} (h : PR own S) {l : List Int} (hl : l ∈ S) : l.length ≤ 12 ∧ ∀ x ∈ l, 0 ≤ x ∧ x ≤ 1000 := by
  obtain ⟨k, hk, rfl⟩ := List.getElem_of_mem hl
  have hk2 : k < own.length := by rw [← h.len]; exact hk
  have hr := ((PR_iff own S).1 h).2 k hk2
  have hg : S.getD k [] = S[k] := by rw [List.getD_eq_getElem?_getD, List.getElem?_eq_getElem hk]; rfl
  rw [← hg]
  exact ⟨by rw [hr.2.1]; exact h.most, hr.2.2.1⟩
theorem PV_any {own : List Int} {S : List (List Int)} (h : PR own S) : S.any (fun l => decide (1000 ≤ sumI l)) = false ↔ PV own S := by
  rw [List.any_eq_false]
  constructor
  · intro hs
    exact ⟨h, fun l hl => by have := hs l hl; simp at this; omega⟩
  · intro hv l hl
    have := hv.lt l hl
    simp; omega
theorem solv1_m (l : List Int) (hl : l.length ≤ 1000) (h : ∀ x ∈ l, 0 ≤ x ∧ x ≤ 1000) : Means false Tryz.prog 68 [il l] (bb (decide (1000 ≤ sumI l))) := by
  refine means_fn false 6 [.tmp 2] Tryz.func68 rfl rfl rfl (by simp) (by decide) rfl fun X hX => ?_
  (repeat (first | refine awp_seq ?_ | refine awp_block ?_ | ((first | refine awp_runG [0, 2] hX ?_ | refine awp_drawnG [0, 2] hX mixed ?_ | refine awp_ret ?_ | refine awp_skip ?_ | refine awp_exit ?_); (simp [go_sem]; try (refine ⟨by kernel_rfl, ?_⟩)))))
  first | refine callK_intro (given_m l hl h) rfl (by simp [go_sem]) rfl ?_ | refine callT_intro (given_m l hl h) rfl (by simp [go_sem]) rfl ?_
  try (simp [go_sem]; try (refine ⟨by kernel_rfl, ?_⟩))
  (repeat (first | refine awp_seq ?_ | refine awp_block ?_ | ((first | refine awp_runG [0, 2] hX ?_ | refine awp_drawnG [0, 2] hX mixed ?_ | refine awp_ret ?_ | refine awp_skip ?_ | refine awp_exit ?_); (simp [go_sem]; try (refine ⟨by kernel_rfl, ?_⟩)))))
theorem solvable_m (own : List Int) (S : List (List Int)) (hl : own.length ≤ 9223372036854775807) (hS : S.length ≤ 9223372036854775807) (hr : ∀ l ∈ S, l.length ≤ 9223372036854775807) : Means false Tryz.prog 29 [il own, ill S] (ii (badP own S)) := by
  refine means_fn false 11 [.tmp 4] Tryz.func29 rfl rfl rfl (by simp) (by decide) rfl fun X hX => ?_
  (repeat (first | refine awp_seq ?_ | refine awp_block ?_ | ((first | refine awp_runG [0, 1, 4, 8, 10] hX ?_ | refine awp_drawnG [0, 1, 4, 8, 10] hX mixed ?_ | refine awp_ret ?_ | refine awp_skip ?_ | refine awp_exit ?_); (simp [go_sem]; try (refine ⟨by kernel_rfl, ?_⟩)))))
  first | refine callK_intro (Right_p own S hl hS hr) rfl (by simp [go_sem]) rfl ?_ | refine callT_intro (Right_p own S hl hS hr) rfl (by simp [go_sem]) rfl ?_
  try (simp [go_sem]; try (refine ⟨by kernel_rfl, ?_⟩))
  by_cases h : PR own S
  · refine awp_cond (b := false) (by simp [go_sem, h]) (fun h => by cases h) (fun _ => ?_)
    (repeat (first | refine awp_seq ?_ | refine awp_block ?_ | ((first | refine awp_runG [0, 1, 4, 8, 10] hX ?_ | refine awp_drawnG [0, 1, 4, 8, 10] hX mixed ?_ | refine awp_ret ?_ | refine awp_skip ?_ | refine awp_exit ?_); (simp [go_sem]; try (refine ⟨by kernel_rfl, ?_⟩)))))
    first | refine callK_intro (contL_m 68 (fun l => decide (1000 ≤ sumI l)) S hS (fun l hl => solv1_m l (by have := (PR_row h hl).1; omega) (PR_row h hl).2) (by kernel_rfl)) rfl (by simp [go_sem]) rfl ?_ | refine callT_intro (contL_m 68 (fun l => decide (1000 ≤ sumI l)) S hS (fun l hl => solv1_m l (by have := (PR_row h hl).1; omega) (PR_row h hl).2) (by kernel_rfl)) rfl (by simp [go_sem]) rfl ?_
    try (simp [go_sem]; try (refine ⟨by kernel_rfl, ?_⟩))
    by_cases hv : PV own S
    · have e : badP own S = 0 := by unfold badP; rw [if_pos h, if_pos hv]
      rw [e]
      have ha := (PV_any h).2 hv
      refine awp_cond (b := false) (by simp [go_sem, ha]) (fun h => by cases h) (fun _ => ?_)
      (repeat (first | refine awp_seq ?_ | refine awp_block ?_ | ((first | refine awp_runG [0, 1, 4, 8, 10] hX ?_ | refine awp_drawnG [0, 1, 4, 8, 10] hX mixed ?_ | refine awp_ret ?_ | refine awp_skip ?_ | refine awp_exit ?_); (simp [go_sem]; try (refine ⟨by kernel_rfl, ?_⟩)))))
    · have e : badP own S = 23 := by unfold badP; rw [if_pos h, if_neg hv]
      rw [e]
      have ha : S.any (fun l => decide (1000 ≤ sumI l)) = true := by
        cases hq : S.any (fun l => decide (1000 ≤ sumI l)) with
        | true => rfl
        | false => exact absurd ((PV_any h).1 hq) hv
      refine awp_cond (b := true) (by simp [go_sem, ha]) (fun _ => ?_) (fun h => by cases h)
      (repeat (first | refine awp_seq ?_ | refine awp_block ?_ | ((first | refine awp_runG [0, 1, 4, 8, 10] hX ?_ | refine awp_drawnG [0, 1, 4, 8, 10] hX mixed ?_ | refine awp_ret ?_ | refine awp_skip ?_ | refine awp_exit ?_); (simp [go_sem]; try (refine ⟨by kernel_rfl, ?_⟩)))))
  · have e : badP own S = 1 := by unfold badP; rw [if_neg h]
    rw [e]
    refine awp_cond (b := true) (by simp [go_sem, h]) (fun _ => ?_) (fun h => by cases h)
    (repeat (first | refine awp_seq ?_ | refine awp_block ?_ | ((first | refine awp_runG [0, 1, 4, 8, 10] hX ?_ | refine awp_drawnG [0, 1, 4, 8, 10] hX mixed ?_ | refine awp_ret ?_ | refine awp_skip ?_ | refine awp_exit ?_); (simp [go_sem]; try (refine ⟨by kernel_rfl, ?_⟩)))))
theorem cast1 (z : Int) : ((z : Rat) / ((1 : Int) : Rat)) = (z : Rat) := by
  have : ((1 : Int) : Rat) = 1 := rfl
  rw [this]; grind
theorem rq_int {z : Int} (h : -9223372036854775808 ≤ z ∧ z ≤ 9223372036854775807) : rq (z : Rat) := by
  rw [← cast1]; exact of_rq h (by decide) (by decide)
theorem ofi_c {p : Int} (hp : -9223372036854775808 ≤ p ∧ p ≤ 9223372036854775807) : MeansH Tryz.prog 33 [calC 0] [.el 0 1 0 0, ii p, ii 1] (frq (p : Rat)) [calC 0] := by
  have := ofq_c hp (q := 1) (by decide) (by decide)
  rwa [cast1] at this
theorem muli_c {p q : Int} (hp : 0 ≤ p ∧ p ≤ 1099511627776) (hq : 0 ≤ q ∧ q ≤ 1000) : MeansH Tryz.prog 32 [calC 0] [.el 0 1 0 0, frq (p : Rat), frq (q : Rat)] (frq ((p * q : Int) : Rat)) [calC 0] := by
  have := mulq_c (rq_int (z := p) (by omega)) (rq_int (z := q) (by omega)) (by
    refine okMul_bt (k := 40) (m := 0) (k' := 10) (m' := 0) ?_ ?_ ?_ ?_ (by omega) (by omega)
    · rw [Rat.num_intCast]; unfold bt; have : (2 : Nat) ^ 40 = 1099511627776 := by decide
      omega
    · rw [Rat.den_intCast]; show 1 ≤ 2 ^ 0; decide
    · rw [Rat.num_intCast]; unfold bt; have : (2 : Nat) ^ 10 = 1024 := by decide
      omega
    · rw [Rat.den_intCast]; show 1 ≤ 2 ^ 0; decide)
  rwa [← Rat.intCast_mul] at this
set_option maxHeartbeats 8000000 in
set_option maxRecDepth 20000 in
theorem rows_m (own : List Int) (S : List (List Int)) (h : PR own S) : MeansH Tryz.prog 31 [calC 0] [.el 0 1 0 0, il own, ill S] (.ow 1) (calC 0 :: outC 2 own.length :: mxC (poolM own S) own.length) := by
  have hn := h.most
  refine meansH_fn 1 58 [.tmp 6] Tryz.func31 rfl rfl rfl (by simp) (by decide) rfl fun X hX => ?_
  (repeat (first | refine awp_seq ?_ | refine awp_block ?_ | ((first | refine awp_runG [0, 1, 2, 6, 7, 8, 9, 10, 11, 13, 14, 15, 18, 19, 20, 32, 1000000] hX ?_ | refine awp_drawnG [0, 1, 2, 6, 7, 8, 9, 10, 11, 13, 14, 15, 18, 19, 20, 32, 1000000] hX mixed ?_ | refine awp_skip ?_ | refine awp_exit ?_); (simp [go_sem]; try (refine ⟨by kernel_rfl, ?_⟩)))))
  refine awp_loop (fun i : Nat => ⟨mkE [(0, .el 0 1 0 0), (1, il own), (2, ill S), (7, .ow 2), (13, ii own.length), (14, ii i), (1000000, .ow 0)], calC 0 :: .dead :: outC 3 i :: matC 41 4 ((mxL (poolM own S) own.length).take i)⟩) (fun i => i ≤ own.length) (fun i => own.length - i) 0 ?_ ?_ ?_
  · refine sub_of _ [.old 0 ⟨56, 1, [.agg [ii 0]]⟩, .gone 0, .birth 24 1] (by simp [go_sem]) ?_
    simp [go_sem]
  · omega
  · intro i hi
    (repeat (first | refine awp_seq ?_ | refine awp_block ?_ | ((first | refine awp_runG [0, 1, 2, 6, 7, 8, 9, 10, 11, 13, 14, 15, 18, 19, 20, 32, 1000000] hX ?_ | refine awp_drawnG [0, 1, 2, 6, 7, 8, 9, 10, 11, 13, 14, 15, 18, 19, 20, 32, 1000000] hX mixed ?_ | refine awp_skip ?_ | refine awp_exit ?_); (simp [go_sem]; try (refine ⟨by kernel_rfl, ?_⟩)))))
    refine awp_cond (b := decide (i < own.length)) (by simp [go_sem]) (fun hb => ?_) (fun hb => ?_)
    · simp only [decide_eq_true_eq] at hb
      have hMl : ((mxL (poolM own S) own.length).take i).length = i := by rw [List.length_take, mxL_len]; omega
      have hMz : ∀ es ∈ (mxL (poolM own S) own.length).take i, zoneEs es = true := fun es he => by
        obtain ⟨j, hj, rfl⟩ := List.getElem_of_mem (List.mem_of_mem_take he)
        exact mxL_zone (List.getElem?_eq_getElem hj)
      have hMs : (mxL (poolM own S) own.length).take (i + 1) = (mxL (poolM own S) own.length).take i ++ [rowL (poolM own S) own.length i] := by
        have hl : i < (mxL (poolM own S) own.length).length := by rw [mxL_len]; exact hb
        rw [List.take_succ_eq_append_getElem hl]
        have := mxL_get (A := poolM own S) hb
        rw [List.getElem?_eq_getElem hl] at this
        rw [Option.some.inj this]
      have hRs : ∀ j, j < own.length + 1 → (rowL (poolM own S) own.length i).take (j + 1) = (rowL (poolM own S) own.length i).take j ++ [frq (poolM own S i j)] := fun j hj => by
        have hl : j < (rowL (poolM own S) own.length i).length := by rw [rowL_len]; exact hj
        rw [List.take_succ_eq_append_getElem hl]
        have := rowL_nth (A := poolM own S) (n := own.length) (k := i) (t := j) (by omega)
        rw [nth_lt hl] at this
        rw [this]
      have hRl : ∀ j, j ≤ own.length → ((rowL (poolM own S) own.length i).take j).length = j := fun j hj => by rw [List.length_take, rowL_len]; omega
      have hRz : ∀ j, zoneEs ((rowL (poolM own S) own.length i).take j) = true := fun j => zoneEs_take j _ (rowL_zone _ _ _)
      have hRe : (rowL (poolM own S) own.length i).take (own.length + 1) = rowL (poolM own S) own.length i := List.take_of_length_le (by rw [rowL_len]; omega)
      have wi := w64 (x := (i : Int) + 1) (by omega) (by omega)
      obtain ⟨M, hM⟩ : ∃ M, (mxL (poolM own S) own.length).take i = M := ⟨_, rfl⟩
      rw [hM] at hMl hMz hMs ⊢
      clear hM
      (repeat (first | refine awp_seq ?_ | refine awp_block ?_ | ((first | refine awp_runG [0, 1, 2, 6, 7, 8, 9, 10, 11, 13, 14, 15, 18, 19, 20, 32, 1000000] hX ?_ | refine awp_drawnG [0, 1, 2, 6, 7, 8, 9, 10, 11, 13, 14, 15, 18, 19, 20, 32, 1000000] hX mixed ?_ | refine awp_skip ?_ | refine awp_exit ?_); (simp [go_sem]; try (refine ⟨by kernel_rfl, ?_⟩)))))
      refine awp_loop (fun j : Nat => ⟨mkE [(0, .el 0 1 0 0), (1, il own), (2, ill S), (7, .ow 2), (8, ii i), (9, .ow 1), (13, ii own.length), (14, ii i), (18, ii own.length), (19, ii j), (1000000, .ow 0)], calC 0 :: .row ⟨41, 4, (rowL (poolM own S) own.length i).take j⟩ :: outC 3 i :: matC 41 4 M⟩) (fun j => j ≤ own.length) (fun j => own.length - j) 0 ?_ ?_ ?_
      · have := sub_m3 (X := X) (env := mkE [(0, .el 0 1 0 0), (1, il own), (2, ill S), (7, .ow 2), (8, ii i), (9, .nil), (13, ii own.length), (14, ii i), (18, ii own.length), (19, ii (0 : Nat)), (1000000, .ow 0)]) [(0, .el 0 1 0 0), (1, il own), (2, ill S), (7, .ow 2), (8, ii i), (9, .ow 1), (13, ii own.length), (14, ii i), (18, ii own.length), (19, ii (0 : Nat)), (1000000, .ow 0)] (.old 0 ⟨56, 1, [.agg [ii 0]]⟩) (.birth 41 4) (calC 0) .dead (E1 := 24) (E2 := 41) (k2 := 4) M [] i hMl hMz (by simp [go_sem]) (by simp [Src.rid, List.filterMap_cons]) (by simp [Src.rid, List.filterMap_cons]) (by simp [go_sem])
        rw [List.append_nil] at this
        exact sub_trans this (sub_same _ _ rfl (by simp [go_sem]))
      · omega
      · intro j hj
        (repeat (first | refine awp_seq ?_ | refine awp_block ?_ | ((first | refine awp_runG [0, 1, 2, 6, 7, 8, 9, 10, 11, 13, 14, 15, 18, 19, 20, 32, 1000000] hX ?_ | refine awp_drawnG [0, 1, 2, 6, 7, 8, 9, 10, 11, 13, 14, 15, 18, 19, 20, 32, 1000000] hX mixed ?_ | refine awp_skip ?_ | refine awp_exit ?_); (simp [go_sem]; try (refine ⟨by kernel_rfl, ?_⟩)))))
        refine awp_cond (b := decide (j < own.length)) (by simp [go_sem]) (fun hc => ?_) (fun hc => ?_)
        · simp only [decide_eq_true_eq] at hc
          have hjS : j < S.length := by rw [h.len]; exact hc
          have hlr := h.row S[j] (List.getElem_mem hjS)
          have hij2 : i < S[j].length := by omega
          have q1 := nthE_L (L := S) hjS
          have q2 := nth_ii hij2
          have hso : sO S j i = S[j][i] := by
            unfold sO
            rw [List.getD_eq_getElem?_getD (l := S), List.getElem?_eq_getElem hjS]
            exact getD_at hij2
          have hsb := h.s j i hc hb
          rw [hso] at hsb
          have hA := pool_in (S := S) (k := i) hc
          rw [hso] at hA
          have wj := w64 (x := (j : Int) + 1) (by omega) (by omega)
          have wv := w64 (x := -S[j][i]) (by omega) (by omega)
          have wv0 : (0 : Int) - S[j][i] = -S[j][i] := by omega
          have hRj := hRs j (by omega)
          have hlj := hRl j (by omega)
          have hRjz := hRz j
          generalize (rowL (poolM own S) own.length i).take j = R at *
          generalize hsv : S[j][i] = sv at *
          (repeat (first | refine awp_seq ?_ | refine awp_block ?_ | ((first | refine awp_runG [0, 1, 2, 6, 7, 8, 9, 10, 11, 13, 14, 15, 18, 19, 20, 32, 1000000] hX ?_ | refine awp_drawnG [0, 1, 2, 6, 7, 8, 9, 10, 11, 13, 14, 15, 18, 19, 20, 32, 1000000] hX mixed ?_ | refine awp_skip ?_ | refine awp_exit ?_); (simp [go_sem, q1, q2, hjS, hij2, wv, wv0]; try (refine ⟨by kernel_rfl, ?_⟩)))))
          by_cases hij : i = j
          · have hAj : poolM own S i j = ((1000 : Int) : Rat) := by rw [hA, if_pos hij]; rfl
            refine awp_cond (b := true) (by simp [go_sem]; try omega) (fun h => ?_) (fun h => by cases h)
            (repeat (first | refine awp_seq ?_ | refine awp_block ?_ | ((first | refine awp_runG [0, 1, 2, 6, 7, 8, 9, 10, 11, 13, 14, 15, 18, 19, 20, 32, 1000000] hX ?_ | refine awp_drawnG [0, 1, 2, 6, 7, 8, 9, 10, 11, 13, 14, 15, 18, 19, 20, 32, 1000000] hX mixed ?_ | refine awp_skip ?_ | refine awp_exit ?_); (simp [go_sem]; try (refine ⟨by kernel_rfl, ?_⟩)))))
            have c1 := ofi_c (p := 1000) (by omega)
            first | refine callH_intro [0] (c1) (by simp [go_sem]) ?_ | refine callTQ_intro [0] (c1) (by simp [go_sem]) ?_ | refine callTE_intro [0] (c1) (by simp [go_sem]) ?_
            try (simp [go_sem, hlj]; try (refine ⟨by kernel_rfl, ?_⟩))
            (repeat refine And.intro (by first | omega | (unfold maxLen; omega) | (refine ⟨by omega, by omega⟩)) ?_)
            try (repeat (first | refine awp_seq ?_ | refine awp_block ?_ | ((first | refine awp_runG [0, 1, 2, 6, 7, 8, 9, 10, 11, 13, 14, 15, 18, 19, 20, 32, 1000000] hX ?_ | refine awp_drawnG [0, 1, 2, 6, 7, 8, 9, 10, 11, 13, 14, 15, 18, 19, 20, 32, 1000000] hX mixed ?_ | refine awp_skip ?_ | refine awp_exit ?_); (simp [go_sem, wj]; try (refine ⟨by kernel_rfl, ?_⟩)))))
            refine ⟨j + 1, by omega, by omega, ?_⟩
            rw [hRj, hAj]
            have hfb : ∀ x y : Cell, (matC 41 4 M ++ [x, y])[i + 1]? = some y := fun x y => by
              rw [List.getElem?_append_right (by rw [matC_len]; omega), matC_len, hMl, Nat.add_sub_cancel_left]; rfl
            have hMC : (matC 41 4 M).length = i := by rw [matC_len, hMl]
            refine sub_trans ?_ (sub_same [(0, .el 0 1 0 0), (1, il own), (2, ill S), (7, .ow 2), (8, ii i), (9, .ow (i + 4)), (13, ii own.length), (14, ii i), (18, ii own.length), (19, ii ((j + 1 : Nat) : Int)), (1000000, .ow 0)] _ rfl (by simp [go_sem, hMC]))
            exact sub_m3 _ (.old 0 ⟨56, 1, [.agg [ii 0]]⟩) (.old (i + 4) ⟨41, 4, R ++ [frq ((1000 : Int) : Rat)]⟩) (calC 0) .dead (E1 := 24) (E2 := 41) (k2 := 4) M _ i hMl hMz (by simp [go_sem, hfb, hRjz]) (by simp [Src.rid, List.filterMap_cons]) (by simp [Src.rid, List.filterMap_cons]) (by simp [go_sem])
          · have hAj : poolM own S i j = ((-sv : Int) : Rat) := by rw [hA, if_neg hij]
            refine awp_cond (b := false) (by simp [go_sem]; try omega) (fun h => by cases h) (fun h => ?_)
            (repeat (first | refine awp_seq ?_ | refine awp_block ?_ | ((first | refine awp_runG [0, 1, 2, 6, 7, 8, 9, 10, 11, 13, 14, 15, 18, 19, 20, 32, 1000000] hX ?_ | refine awp_drawnG [0, 1, 2, 6, 7, 8, 9, 10, 11, 13, 14, 15, 18, 19, 20, 32, 1000000] hX mixed ?_ | refine awp_skip ?_ | refine awp_exit ?_); (simp [go_sem]; try (refine ⟨by kernel_rfl, ?_⟩)))))
            have c1 := ofi_c (p := -sv) (by omega)
            first | refine callH_intro [0] (c1) (by simp [go_sem]) ?_ | refine callTQ_intro [0] (c1) (by simp [go_sem]) ?_ | refine callTE_intro [0] (c1) (by simp [go_sem]) ?_
            try (simp [go_sem, hlj]; try (refine ⟨by kernel_rfl, ?_⟩))
            (repeat refine And.intro (by first | omega | (unfold maxLen; omega) | (refine ⟨by omega, by omega⟩)) ?_)
            try (repeat (first | refine awp_seq ?_ | refine awp_block ?_ | ((first | refine awp_runG [0, 1, 2, 6, 7, 8, 9, 10, 11, 13, 14, 15, 18, 19, 20, 32, 1000000] hX ?_ | refine awp_drawnG [0, 1, 2, 6, 7, 8, 9, 10, 11, 13, 14, 15, 18, 19, 20, 32, 1000000] hX mixed ?_ | refine awp_skip ?_ | refine awp_exit ?_); (simp [go_sem, wj]; try (refine ⟨by kernel_rfl, ?_⟩)))))
            refine ⟨j + 1, by omega, by omega, ?_⟩
            rw [hRj, hAj]
            have hfb : ∀ x y : Cell, (matC 41 4 M ++ [x, y])[i + 1]? = some y := fun x y => by
              rw [List.getElem?_append_right (by rw [matC_len]; omega), matC_len, hMl, Nat.add_sub_cancel_left]; rfl
            have hMC : (matC 41 4 M).length = i := by rw [matC_len, hMl]
            refine sub_trans ?_ (sub_same [(0, .el 0 1 0 0), (1, il own), (2, ill S), (7, .ow 2), (8, ii i), (9, .ow (i + 4)), (13, ii own.length), (14, ii i), (18, ii own.length), (19, ii ((j + 1 : Nat) : Int)), (1000000, .ow 0)] _ rfl (by simp [go_sem, hMC]))
            exact sub_m3 _ (.old 0 ⟨56, 1, [.agg [ii 0]]⟩) (.old (i + 4) ⟨41, 4, R ++ [frq ((-sv : Int) : Rat)]⟩) (calC 0) .dead (E1 := 24) (E2 := 41) (k2 := 4) M _ i hMl hMz (by simp [go_sem, hfb, hRjz]) (by simp [Src.rid, List.filterMap_cons]) (by simp [Src.rid, List.filterMap_cons]) (by simp [go_sem])
        · simp only [decide_eq_false_iff_not] at hc
          have hj2 : j = own.length := by omega
          subst hj2
          have q1 := nth_ii hb
          have hw := h.w i hb
          rw [show wO own i = own[i] from getD_at hb] at hw
          have hA := pool_rhs (own := own) (S := S) i
          rw [show wO own i = own[i] from getD_at hb] at hA
          have hRj := hRs own.length (by omega)
          have hlj := hRl own.length (by omega)
          rw [hRe, hA] at hRj
          have hRjz := hRz own.length
          generalize (rowL (poolM own S) own.length i).take own.length = R at *
          generalize hov : own[i] = ov at *
          have c1 := ofi_c (p := ov) (by omega)
          have c2 := ofi_c (p := 1000) (by omega)
          have c3 := muli_c (p := ov) (q := 1000) (by omega) (by omega)
          have hMC : (matC 41 4 M).length = i := by rw [matC_len, hMl]
          (repeat (first | refine awp_seq ?_ | refine awp_block ?_ | ((first | refine awp_runG [0, 1, 2, 6, 7, 8, 9, 10, 11, 13, 14, 15, 18, 19, 20, 32, 1000000] hX ?_ | refine awp_drawnG [0, 1, 2, 6, 7, 8, 9, 10, 11, 13, 14, 15, 18, 19, 20, 32, 1000000] hX mixed ?_ | refine awp_skip ?_ | refine awp_exit ?_); (simp [go_sem, q1, hb]; try (refine ⟨by kernel_rfl, ?_⟩)))))
          first | refine callH_intro [0] (c1) (by simp [go_sem]) ?_ | refine callTQ_intro [0] (c1) (by simp [go_sem]) ?_ | refine callTE_intro [0] (c1) (by simp [go_sem]) ?_
          try (simp [go_sem, hlj]; try (refine ⟨by kernel_rfl, ?_⟩))
          first | refine callH_intro [0] (c2) (by simp [go_sem]) ?_ | refine callTQ_intro [0] (c2) (by simp [go_sem]) ?_ | refine callTE_intro [0] (c2) (by simp [go_sem]) ?_
          try (simp [go_sem, hlj]; try (refine ⟨by kernel_rfl, ?_⟩))
          first | refine callH_intro [0] (c3) (by simp [go_sem]) ?_ | refine callTQ_intro [0] (c3) (by simp [go_sem]) ?_ | refine callTE_intro [0] (c3) (by simp [go_sem]) ?_
          try (simp [go_sem, hlj]; try (refine ⟨by kernel_rfl, ?_⟩))
          (repeat refine And.intro (by first | omega | (unfold maxLen; omega) | (refine ⟨by omega, by omega⟩)) ?_)
          refine And.intro (by rw [outN_len]; exact ⟨by omega, by unfold maxLen; omega⟩) ?_
          try (repeat (first | refine awp_seq ?_ | refine awp_block ?_ | ((first | refine awp_runG [0, 1, 2, 6, 7, 8, 9, 10, 11, 13, 14, 15, 18, 19, 20, 32, 1000000] hX ?_ | refine awp_drawnG [0, 1, 2, 6, 7, 8, 9, 10, 11, 13, 14, 15, 18, 19, 20, 32, 1000000] hX mixed ?_ | refine awp_skip ?_ | refine awp_exit ?_); (simp [go_sem, wi]; try (refine ⟨by kernel_rfl, ?_⟩)))))
          refine ⟨i + 1, by omega, by omega, ?_⟩
          have hcast : ((ov * 1000 : Int) : Rat) = (ov : Rat) * 1000 := by rw [Rat.intCast_mul]; rfl
          rw [hMs, hRj, hcast]
          refine sub_trans ?_ (sub_same [(0, .el 0 1 0 0), (1, il own), (2, ill S), (7, .ow (i + 6)), (13, ii own.length), (14, ii ((i + 1 : Nat) : Int)), (1000000, .ow 0)] _ rfl (by simp [go_sem, hMC]))
          rw [hMC]
          exact sub_m3s _ (.old 0 ⟨56, 1, [.agg [ii 0]]⟩) (.gone 0) (calC 0) .dead .dead (E1 := 24) (E2 := 41) (k2 := 4) M _ _ _ i hMl hMz (by simp [go_sem, hRjz]) (by simp [go_sem]) (by simp [Src.rid, List.filterMap_cons]) (by simp [Src.rid, List.filterMap_cons]) (by simp [go_sem])
    · simp only [decide_eq_false_iff_not] at hb
      have hi2 : i = own.length := by omega
      subst hi2
      (repeat (first | refine awp_seq ?_ | refine awp_block ?_ | ((first | refine awp_runG [0, 1, 2, 6, 7, 8, 9, 10, 11, 13, 14, 15, 18, 19, 20, 32, 1000000] hX ?_ | refine awp_drawnG [0, 1, 2, 6, 7, 8, 9, 10, 11, 13, 14, 15, 18, 19, 20, 32, 1000000] hX mixed ?_ | refine awp_skip ?_ | refine awp_exit ?_); (simp [go_sem]; try (refine ⟨by kernel_rfl, ?_⟩)))))
      rw [show (mxL (poolM own S) own.length).take own.length = mxL (poolM own S) own.length from List.take_of_length_le (by rw [mxL_len]; exact Nat.le_refl _)]
      refine awp_ret ?_
      refine retH_ret [(6, .ow 1), (1000000, .ow 0)] ([.old 0 ⟨56, 1, [.agg [ii 0]]⟩] ++ .old 2 ⟨24, 1, outN ([Src.old 0 ⟨56, 1, [.agg [ii 0]]⟩].length + 1) (mxL (poolM own S) own.length).length⟩ :: matS (fun k => k + 3) 41 4 0 (mxL (poolM own S) own.length)) ⟨okS_mat _ 2 (fun k => k + 3) _ (by simp [outN, mxL_len]) (fun j es h => ⟨matC_get h, mxL_zone h⟩) (by simp [go_sem]) (nodup_shift (by simp [Src.rid, List.filterMap_cons]) (by simp [Src.rid, List.filterMap_cons]) (by simp [Src.rid, List.filterMap_cons]) (by simp)), by simp [go_sem], by simp [matS_cell, mxL_len, Src.cell], by simp, by simp [go_sem], .inl ?_⟩
      simp [go_sem, matS_cell]
end Go.Proofs.YthibhamepjhfjaaGreatDoor

namespace Go.Proofs.YthibhamepjhfjaaGreatDoor
open Go.RowKit Go.Ab
attribute [local irreducible] AWP Go.Ab.Sub Means MeansH MeansX CallK CallG CallT CallGT CallU
theorem okRow_mx (A : Mx) (n m : Nat) (h : n + 2 ≤ m) : okRowIds m (calC 0 :: outC 2 n :: mxC A n) := by
  refine ⟨.inl rfl, .inr fun e he => ?_, ?_⟩
  · simp only [outN, List.mem_flatMap, List.mem_map] at he
    obtain ⟨x, ⟨k, hk, rfl⟩, he⟩ := he
    have : k < n := by simpa using hk
    simp only [AV.flat, List.mem_singleton] at he
    subst he
    show k + 2 < m
    omega
  · have : ∀ M : List (List AV), (∀ es ∈ M, zoneEs es = true) → okRowIds m (matC 41 4 M) := by
      intro M
      induction M with
      | nil => intro _; trivial
      | cons es M ih => exact fun hz => ⟨.inl (hz es (by simp)), ih fun e he => hz e (List.mem_cons_of_mem _ he)⟩
    exact this _ fun es he => by
      obtain ⟨j, hj, rfl⟩ := List.getElem_of_mem he
      exact mxL_zone (List.getElem?_eq_getElem hj)
def keptX (own : List Int) (S : List (List Int)) (k : Nat) : Rat := allX own S k * (((1000 - sumI (S.getD k []) : Int) : Rat) / ((1000 : Int) : Rat))
abbrev allL (own : List Int) (S : List (List Int)) : List AV := (List.range own.length).map fun k => frq (allX own S k)
abbrev keptL (own : List Int) (S : List (List Int)) : List AV := (List.range own.length).map fun k => frq (keptX own S k)
theorem allL_zone (own : List Int) (S : List (List Int)) : zoneEs (allL own S) = true := by
  unfold zoneEs
  rw [List.all_eq_true]
  intro e he
  obtain ⟨k, _, rfl⟩ := List.mem_map.1 he
  rfl
set_option maxHeartbeats 8000000 in
set_option maxRecDepth 20000 in
theorem Solve_m (own : List Int) (S : List (List Int)) (hv : PV own S) (hF : Fit (poolM own S) own.length) (hk : ∀ k, k < own.length → okMul (allX own S k) (((1000 - sumI (S.getD k []) : Int) : Rat) / ((1000 : Int) : Rat))) :
    Means false Tryz.prog 10 [il own, ill S] (.tup [.sl (allL own S), .sl (keptL own S), ii 0]) := by
  have hn := hv.most
  have hSl := hv.len
  have hbad : badP own S = 0 := by unfold badP; rw [if_pos hv.toPR, if_pos hv]
  have c1 := solvable_m own S (by omega) (by omega) fun l hl => by have := (PR_row hv.toPR hl).1; omega
  rw [hbad] at c1
  have c2 := rows_m own S hv.toPR
  have c3 := elim_m (poolM own S) own.length (by omega) hF
  have hMC : (mxC (poolM own S) own.length).length = own.length := by rw [matC_len, mxL_len]
  refine means_fn false 60 [.tmp 4, .tmp 5, .tmp 6] Tryz.func10 rfl rfl rfl (by simp) (by decide) rfl fun X hX => ?_
  (repeat (first | refine awp_seq ?_ | refine awp_block ?_ | ((first | refine awp_runG [0, 1, 4, 5, 6, 7, 8, 9, 10, 11, 12, 17, 27, 28, 29, 30, 53] hX ?_ | refine awp_drawnG [0, 1, 4, 5, 6, 7, 8, 9, 10, 11, 12, 17, 27, 28, 29, 30, 53] hX mixed ?_ | refine awp_ret ?_ | refine awp_skip ?_ | refine awp_exit ?_); (simp [go_sem]; try (refine ⟨by kernel_rfl, ?_⟩)))))
  first | refine callK_intro (c1) rfl (by simp [go_sem]) rfl ?_ | refine callT_intro (c1) rfl (by simp [go_sem]) rfl ?_
  try (simp [go_sem]; try (refine ⟨by kernel_rfl, ?_⟩))
  (repeat (first | refine awp_seq ?_ | refine awp_block ?_ | ((first | refine awp_runG [0, 1, 4, 5, 6, 7, 8, 9, 10, 11, 12, 17, 27, 28, 29, 30, 53] hX ?_ | refine awp_drawnG [0, 1, 4, 5, 6, 7, 8, 9, 10, 11, 12, 17, 27, 28, 29, 30, 53] hX mixed ?_ | refine awp_ret ?_ | refine awp_skip ?_ | refine awp_exit ?_); (simp [go_sem]; try (refine ⟨by kernel_rfl, ?_⟩)))))
  refine awp_cond (b := false) (by simp [go_sem]) (fun h => by cases h) (fun _ => ?_)
  (repeat (first | refine awp_seq ?_ | refine awp_block ?_ | ((first | refine awp_runG [0, 1, 4, 5, 6, 7, 8, 9, 10, 11, 12, 17, 27, 28, 29, 30, 53] hX ?_ | refine awp_drawnG [0, 1, 4, 5, 6, 7, 8, 9, 10, 11, 12, 17, 27, 28, 29, 30, 53] hX mixed ?_ | refine awp_ret ?_ | refine awp_skip ?_ | refine awp_exit ?_); (simp [go_sem]; try (refine ⟨by kernel_rfl, ?_⟩)))))
  refine callH_all c2 rfl ?_ ?_ ?_ ?_
  · simp [go_sem]
  · simp [go_sem]
  · simp
  try (simp [go_sem]; try (refine ⟨by kernel_rfl, ?_⟩))
  refine callX_all (c0 := calC 0) (R := outC 2 own.length :: mxC (poolM own S) own.length) c3 rfl (okRow_mx _ _ _ (by rw [List.length_cons, hMC]; omega)) ?_ ?_ (allL_zone own S) fun D hD => ?_
  · simp [go_sem]
  · simp [go_sem]
  try (simp [go_sem]; try (refine ⟨by kernel_rfl, ?_⟩))
  refine And.intro (by rw [hD]; simp) ?_
  have hD2 : D.length = own.length + 1 := by rw [hD, List.length_cons, hMC]
  have hgx : ∀ x : Cell, (D ++ [x])[own.length + 1]? = some x := fun x => by
    rw [List.getElem?_append_right (by omega), hD2, Nat.sub_self]; rfl
  have hXe : (List.range own.length).map (fun k => frq (solx (poolM own S) own.length k)) = allL own S := rfl
  rw [hMC, hXe]
  have hz := allL_zone own S
  refine awp_sub (sub_of [(0, il own), (1, ill S), (8, .el 0 1 0 0), (9, .ow 1)] [.old 0 ⟨56, 1, [.agg [ii 0]]⟩, .old (own.length + 2) ⟨41, 4, allL own S⟩] (by simp [go_sem, hgx, hz]) (by simp [go_sem])) ?_
  simp only [List.map_cons, List.map_nil, Src.cell]
  clear hgx hD hD2 D c2 c3 hMC hbad c1 hXe
  have hal : (allL own S).length = own.length := by simp
  have hag : ∀ k, k < own.length → nth (allL own S) k = frq (allX own S k) := fun k hk => nth_some (by simp [hk])
  have hrx : ∀ k, k < own.length → rq (allX own S k) := fun k hk => by
    have := div_rq (hF.dpos k hk) (hF.fin k hk)
    exact this
  obtain ⟨AL, hAL⟩ : ∃ AL, allL own S = AL := ⟨_, rfl⟩
  rw [hAL] at hal hag hz ⊢
  (repeat (first | refine awp_seq ?_ | refine awp_block ?_ | ((first | refine awp_runG [0, 1, 4, 5, 6, 7, 8, 9, 10, 11, 12, 17, 27, 28, 29, 30, 53] hX ?_ | refine awp_drawnG [0, 1, 4, 5, 6, 7, 8, 9, 10, 11, 12, 17, 27, 28, 29, 30, 53] hX mixed ?_ | refine awp_ret ?_ | refine awp_skip ?_ | refine awp_exit ?_); (simp [go_sem]; try (refine ⟨by kernel_rfl, ?_⟩)))))
  refine awp_loop (fun i : Nat => ⟨mkE [(0, il own), (1, ill S), (8, .el 0 1 0 0), (9, .ow 1), (10, .ow 2), (27, ill S), (28, ii own.length), (29, ii i)], [calC 0, .row ⟨41, 4, AL⟩, .row ⟨41, 4, (List.range i).map fun k => frq (keptX own S k)⟩]⟩) (fun i => i ≤ own.length) (fun i => own.length - i) 0 ?_ ?_ ?_
  · refine sub_of _ [.old 0 ⟨56, 1, [.agg [ii 0]]⟩, .old 1 ⟨41, 4, AL⟩, .birth 41 4] (by simp [go_sem, hz]) ?_
    simp [go_sem, hSl]
  · omega
  · intro i hi
    (repeat (first | refine awp_seq ?_ | refine awp_block ?_ | ((first | refine awp_runG [0, 1, 4, 5, 6, 7, 8, 9, 10, 11, 12, 17, 27, 28, 29, 30, 53] hX ?_ | refine awp_drawnG [0, 1, 4, 5, 6, 7, 8, 9, 10, 11, 12, 17, 27, 28, 29, 30, 53] hX mixed ?_ | refine awp_ret ?_ | refine awp_skip ?_ | refine awp_exit ?_); (simp [go_sem]; try (refine ⟨by kernel_rfl, ?_⟩)))))
    refine awp_cond (b := decide (i < own.length)) (by simp [go_sem]) (fun hb => ?_) (fun hb => ?_)
    · simp only [decide_eq_true_eq] at hb
      have hbS : i < S.length := by omega
      have q1 := nthE_L (L := S) hbS
      have q2 := hag i hb
      have hpr := PR_row hv.toPR (List.getElem_mem hbS)
      have hgv := given_m S[i] (by omega) hpr.2
      have hsb := csum_bd S[i] S[i].length hpr.2
      rw [List.take_length] at hsb
      have hlt := hv.lt S[i] (List.getElem_mem hbS)
      have hgd : S.getD i [] = S[i] := by rw [List.getD_eq_getElem?_getD, List.getElem?_eq_getElem hbS]; rfl
      have hmk := hk i hb
      have hkx : keptX own S i = allX own S i * (((1000 - sumI S[i] : Int) : Rat) / ((1000 : Int) : Rat)) := by unfold keptX; rw [hgd]
      rw [hgd] at hmk
      have c1 := ofq_c (p := 1000 - sumI S[i]) (q := 1000) (by omega) (by decide) (by decide)
      have c2 := mulq_c (hrx i hb) (of_rq (p := 1000 - sumI S[i]) (q := 1000) (by omega) (by decide) (by decide)) hmk
      rw [← hkx] at c2
      have hsn : (List.range (i + 1)).map (fun k => frq (keptX own S k)) = (List.range i).map (fun k => frq (keptX own S k)) ++ [frq (keptX own S i)] := by rw [List.range_succ, List.map_append]; rfl
      have wi := w64 (x := (i : Int) + 1) (by omega) (by omega)
      have ws := w64 (x := 1000 - sumI S[i]) (by omega) (by omega)
      have hail : i < AL.length := by omega
      (repeat (first | refine awp_seq ?_ | refine awp_block ?_ | ((first | refine awp_runG [0, 1, 4, 5, 6, 7, 8, 9, 10, 11, 12, 17, 27, 28, 29, 30, 53] hX ?_ | refine awp_drawnG [0, 1, 4, 5, 6, 7, 8, 9, 10, 11, 12, 17, 27, 28, 29, 30, 53] hX mixed ?_ | refine awp_ret ?_ | refine awp_skip ?_ | refine awp_exit ?_); (simp [go_sem, q1, q2, hbS, hail]; try (refine ⟨by kernel_rfl, ?_⟩)))))
      first | refine callK_intro (hgv) rfl (by simp [go_sem]) rfl ?_ | refine callT_intro (hgv) rfl (by simp [go_sem]) rfl ?_
      try (simp [go_sem, q1, q2, hbS, hail, ws]; try (refine ⟨by kernel_rfl, ?_⟩))
      try (repeat refine And.intro (by first | omega | (unfold maxLen; omega) | kernel_rfl | (refine ⟨by first | omega | (unfold maxLen; omega), by first | omega | (unfold maxLen; omega)⟩) | grind) ?_)
      first | refine callH_intro [0] (c1) (by simp [go_sem]) ?_ | refine callTQ_intro [0] (c1) (by simp [go_sem]) ?_ | refine callTE_intro [0] (c1) (by simp [go_sem]) ?_
      try (simp [go_sem, q1, q2, hbS, hail]; try (refine ⟨by kernel_rfl, ?_⟩))
      try (repeat refine And.intro (by first | omega | (unfold maxLen; omega) | kernel_rfl | (refine ⟨by first | omega | (unfold maxLen; omega), by first | omega | (unfold maxLen; omega)⟩) | grind) ?_)
      first | refine callH_intro [0] (c2) (by simp [go_sem]) ?_ | refine callTQ_intro [0] (c2) (by simp [go_sem]) ?_ | refine callTE_intro [0] (c2) (by simp [go_sem]) ?_
      try (simp [go_sem, q1, q2, hbS, hail]; try (refine ⟨by kernel_rfl, ?_⟩))
      (repeat refine And.intro (by first | omega | (unfold maxLen; omega) | kernel_rfl | (refine ⟨by first | omega | (unfold maxLen; omega), by first | omega | (unfold maxLen; omega)⟩) | grind) ?_)
      try (repeat (first | refine awp_seq ?_ | refine awp_block ?_ | ((first | refine awp_runG [0, 1, 4, 5, 6, 7, 8, 9, 10, 11, 12, 17, 27, 28, 29, 30, 53] hX ?_ | refine awp_drawnG [0, 1, 4, 5, 6, 7, 8, 9, 10, 11, 12, 17, 27, 28, 29, 30, 53] hX mixed ?_ | refine awp_ret ?_ | refine awp_skip ?_ | refine awp_exit ?_); (simp [go_sem, wi]; try (refine ⟨by kernel_rfl, ?_⟩)))))
      refine ⟨i + 1, by omega, by omega, ?_⟩
      rw [hsn]
      refine sub_of _ [.old 0 ⟨56, 1, [.agg [ii 0]]⟩, .old 1 ⟨41, 4, AL⟩, .old 4 ⟨41, 4, (List.range i).map (fun k => frq (keptX own S k)) ++ [frq (keptX own S i)]⟩] (by simp [go_sem, hz]) ?_
      simp [go_sem]
    · simp only [decide_eq_false_iff_not] at hb
      have hin : i = own.length := by omega
      subst hin
      (repeat (first | refine awp_seq ?_ | refine awp_block ?_ | ((first | refine awp_runG [0, 1, 4, 5, 6, 7, 8, 9, 10, 11, 12, 17, 27, 28, 29, 30, 53] hX ?_ | refine awp_drawnG [0, 1, 4, 5, 6, 7, 8, 9, 10, 11, 12, 17, 27, 28, 29, 30, 53] hX mixed ?_ | refine awp_ret ?_ | refine awp_skip ?_ | refine awp_exit ?_); (simp [go_sem]; try (refine ⟨by kernel_rfl, ?_⟩)))))
      refine awp_cond (b := false) (by simp [go_sem]) (fun h => by cases h) (fun _ => ?_)
      have hzk : zoneEs ((List.range own.length).map fun k => frq (keptX own S k)) = true := by
        unfold zoneEs
        rw [List.all_eq_true]
        intro e he
        obtain ⟨k, _, rfl⟩ := List.mem_map.1 he
        rfl
      (repeat (first | refine awp_seq ?_ | refine awp_block ?_ | ((first | refine awp_runG [0, 1, 4, 5, 6, 7, 8, 9, 10, 11, 12, 17, 27, 28, 29, 30, 53] hX ?_ | refine awp_drawnG [0, 1, 4, 5, 6, 7, 8, 9, 10, 11, 12, 17, 27, 28, 29, 30, 53] hX mixed ?_ | refine awp_ret ?_ | refine awp_skip ?_ | refine awp_exit ?_); (simp [go_sem, hz, hzk]; try (refine ⟨by kernel_rfl, ?_⟩)))))
      trace_state
end Go.Proofs.YthibhamepjhfjaaGreatDoor

namespace Go.Proofs.YthibhamepjhfjaaGreatDoor
open Go.RowKit Go.Ab
attribute [local irreducible] AWP Go.Ab.Sub Means MeansH MeansX CallK CallG CallT CallGT CallU
def cmpR (a b : Rat) : Int := cmpI (a.num * b.den) (b.num * a.den)
theorem Compare_q {a b : Rat} (ha : rq a) (hb : rq b) : Means false Tryz.prog 22 [frq a, frq b] (ii (cmpR a b)) := Compare_f a.num a.den b.num b.den (rf_q ha) (rf_q hb)
theorem cmpR_lt (a b : Rat) : cmpR a b < 0 ↔ a < b := by
  rw [Rat.lt_iff]
  unfold cmpR cmpI
  split
  · simp; assumption
  · split <;> simp <;> omega
theorem cmpR_gt (a b : Rat) : 0 < cmpR a b ↔ b < a := by
  rw [Rat.lt_iff]
  unfold cmpR cmpI
  split
  · simp; omega
  · split <;> simp <;> omega
theorem cmpR_eq (a b : Rat) : cmpR a b = 0 ↔ a = b := by
  have h1 := cmpR_lt a b
  have h2 := cmpR_gt a b
  constructor
  · intro h
    have h3 : ¬ a < b := fun e => by have := h1.2 e; omega
    have h4 : ¬ b < a := fun e => by have := h2.2 e; omega
    grind
  · rintro rfl
    have h3 : ¬ a < a := by grind
    have h5 : ¬ cmpR a a < 0 := fun e => h3 (h1.1 e)
    have h6 : ¬ 0 < cmpR a a := fun e => h3 (h2.1 e)
    omega
theorem low_bt {p q : Int} {r : Rat} {k m : Nat} (hq : q ≠ 0) (h : r * (q : Rat) = p) (hp : bt k p) (hm : bt m q) : bt k r.num ∧ bt m r.den := by
  obtain ⟨h1, h2⟩ := np_rat hq h
  obtain ⟨_, _, _, h4, h5, _⟩ := low_spec (p := p) hq
  rw [h1] at h4
  rw [h2] at h5
  rw [ab_natQ, ab_natQ] at h4
  rw [ab_natQ] at h5
  unfold bt at *
  refine ⟨by omega, ?_⟩
  simp only [Int.natAbs_natCast]
  omega
theorem mul_bt {a b : Rat} {k m k' m' : Nat} (h1 : bt k a.num) (h2 : bt m a.den) (h3 : bt k' b.num) (h4 : bt m' b.den) : bt (k + k') (a * b).num ∧ bt (m + m') (a * b).den :=
  low_bt (dd_ne a b) (mul_rat a b) (bt_mul h1 h3) (bt_mul h2 h4)
theorem add_bt {a b : Rat} {k m k' m' c : Nat} (h1 : bt k a.num) (h2 : bt m a.den) (h3 : bt k' b.num) (h4 : bt m' b.den) (hc1 : k + m' ≤ c) (hc2 : k' + m ≤ c) : bt (c + 1) (a + b).num ∧ bt (m + m') (a + b).den :=
  low_bt (dd_ne a b) (add_rat a b) (bt_add (bt_mono (bt_mul h1 h4) hc1) (bt_mono (bt_mul h3 h2) hc2)) (bt_mul h2 h4)
theorem int_bt {z : Int} {k : Nat} (h : bt k z) : bt k ((z : Rat)).num ∧ bt 0 ((z : Rat)).den := by
  rw [Rat.num_intCast, Rat.den_intCast]
  exact ⟨h, by show 1 ≤ 2 ^ 0; decide⟩
theorem of_bt {p q : Int} {k m : Nat} (hq : q ≠ 0) (hp : bt k p) (hm : bt m q) : bt k ((p : Rat) / (q : Rat)).num ∧ bt m ((p : Rat) / (q : Rat)).den := low_bt hq (ofq hq) hp hm
theorem bt_1000 {z : Int} (h : 0 ≤ z ∧ z ≤ 1000) : bt 10 z := by
  unfold bt
  have : (2 : Nat) ^ 10 = 1024 := by decide
  omega
theorem bt_40 {z : Int} (h : 0 ≤ z ∧ z ≤ 1099511627776) : bt 40 z := by
  unfold bt
  have : (2 : Nat) ^ 40 = 1099511627776 := by decide
  omega
def psum (own : List Int) (S : List (List Int)) (xs : List Rat) (i j : Nat) : Rat := ((wO own i : Int) : Rat) + sumR (fun t => xs.getD t 0 * (((sO S t i : Int) : Rat) / ((1000 : Int) : Rat))) j
theorem psum_0 (own : List Int) (S : List (List Int)) (xs : List Rat) (i : Nat) : psum own S xs i 0 = ((wO own i : Int) : Rat) := by
  unfold psum; simp only [sumR]; grind
theorem psum_succ (own : List Int) (S : List (List Int)) (xs : List Rat) (i j : Nat) : psum own S xs i (j + 1) = psum own S xs i j + xs.getD j 0 * (((sO S j i : Int) : Rat) / ((1000 : Int) : Rat)) := by
  unfold psum; simp only [sumR]; grind
variable {own : List Int} {S : List (List Int)} {xs : List Rat}
theorem term_bt (h : PR own S) (hx : ∀ x ∈ xs, bt 310 x.num ∧ bt 160 x.den) (hl : xs.length = own.length) {i j : Nat} (hi : i < own.length) (hj : j < own.length) :
    bt 10 (((sO S j i : Int) : Rat) / ((1000 : Int) : Rat)).num ∧ bt 10 (((sO S j i : Int) : Rat) / ((1000 : Int) : Rat)).den ∧ bt 310 (xs.getD j 0).num ∧ bt 160 (xs.getD j 0).den ∧
      bt 320 (xs.getD j 0 * (((sO S j i : Int) : Rat) / ((1000 : Int) : Rat))).num ∧ bt 170 (xs.getD j 0 * (((sO S j i : Int) : Rat) / ((1000 : Int) : Rat))).den := by
  have hjl : j < xs.length := by omega
  have hg : xs.getD j 0 = xs[j] := by rw [List.getD_eq_getElem?_getD, List.getElem?_eq_getElem hjl]; rfl
  obtain ⟨h1, h2⟩ := of_bt (p := sO S j i) (q := 1000) (by decide) (bt_1000 (h.s j i hj hi)) (bt_1000 (by decide))
  obtain ⟨h3, h4⟩ := hx xs[j] (List.getElem_mem hjl)
  rw [hg]
  obtain ⟨h5, h6⟩ := mul_bt h3 h4 h1 h2
  exact ⟨h1, h2, h3, h4, h5, h6⟩
theorem psum_bt (h : PR own S) (hx : ∀ x ∈ xs, bt 310 x.num ∧ bt 160 x.den) (hl : xs.length = own.length) {i : Nat} (hi : i < own.length) : ∀ j, j ≤ own.length → bt (150 + 171 * j) (psum own S xs i j).num ∧ bt (170 * j) (psum own S xs i j).den
  | 0, _ => by
    rw [psum_0]
    obtain ⟨h1, h2⟩ := int_bt (bt_40 (h.w i hi))
    exact ⟨bt_mono h1 (by omega), bt_mono h2 (by omega)⟩
  | j + 1, hj => by
    obtain ⟨h1, h2⟩ := psum_bt h hx hl hi j (by omega)
    obtain ⟨_, _, _, _, h3, h4⟩ := term_bt h hx hl hi (j := j) (by omega)
    rw [psum_succ]
    obtain ⟨h5, h6⟩ := add_bt (c := 320 + 171 * j) h1 h2 h3 h4 (by omega) (by omega)
    exact ⟨bt_mono h5 (by omega), bt_mono h6 (by omega)⟩
theorem psum_ok (h : PR own S) (h6 : own.length ≤ 6) (hx : ∀ x ∈ xs, bt 310 x.num ∧ bt 160 x.den) (hl : xs.length = own.length) {i j : Nat} (hi : i < own.length) (hj : j < own.length) :
    okMul (xs.getD j 0) (((sO S j i : Int) : Rat) / ((1000 : Int) : Rat)) ∧ okAdd (psum own S xs i j) (xs.getD j 0 * (((sO S j i : Int) : Rat) / ((1000 : Int) : Rat))) := by
  obtain ⟨h1, h2⟩ := psum_bt h hx hl hi j (by omega)
  obtain ⟨a1, a2, a3, a4, a5, a6⟩ := term_bt h hx hl hi (j := j) hj
  exact ⟨okMul_bt a3 a4 a1 a2 (by omega) (by omega), okAdd_bt h1 h2 a5 a6 (by omega) (by omega) (by omega)⟩
def chkQ (own : List Int) (S : List (List Int)) (xs ys : List Rat) : Prop := ∀ i, i < own.length → psum own S xs i own.length = xs.getD i 0 ∧ xs.getD i 0 * (((1000 - sumI (S.getD i []) : Int) : Rat) / ((1000 : Int) : Rat)) = ys.getD i 0
noncomputable instance (own : List Int) (S : List (List Int)) (xs ys : List Rat) : Decidable (chkQ own S xs ys) := Classical.propDecidable _
theorem part_ok (h : PV own S) (hx : ∀ x ∈ xs, bt 310 x.num ∧ bt 160 x.den) (hl : xs.length = own.length) {i : Nat} (hi : i < own.length) :
    (0 ≤ 1000 - sumI (S.getD i []) ∧ 1000 - sumI (S.getD i []) ≤ 1000) ∧ okMul (xs.getD i 0) (((1000 - sumI (S.getD i []) : Int) : Rat) / ((1000 : Int) : Rat)) := by
  have hS : i < S.length := by rw [h.len]; exact hi
  have hg : S.getD i [] = S[i] := by rw [List.getD_eq_getElem?_getD, List.getElem?_eq_getElem hS]; rfl
  have hpr := PR_row h.toPR (List.getElem_mem hS)
  have hsb := csum_bd S[i] S[i].length hpr.2
  rw [List.take_length] at hsb
  have hlt := h.lt S[i] (List.getElem_mem hS)
  rw [hg]
  have hb : 0 ≤ 1000 - sumI S[i] ∧ 1000 - sumI S[i] ≤ 1000 := by omega
  obtain ⟨h1, h2⟩ := of_bt (p := 1000 - sumI S[i]) (q := 1000) (by decide) (bt_1000 hb) (bt_1000 (by decide))
  have hjl : i < xs.length := by omega
  have hg2 : xs.getD i 0 = xs[i] := by rw [List.getD_eq_getElem?_getD, List.getElem?_eq_getElem hjl]; rfl
  obtain ⟨h3, h4⟩ := hx xs[i] (List.getElem_mem hjl)
  rw [hg2]
  exact ⟨hb, okMul_bt h3 h4 h1 h2 (by omega) (by omega)⟩
end Go.Proofs.YthibhamepjhfjaaGreatDoor

namespace Go.Proofs.YthibhamepjhfjaaGreatDoor
open Go.RowKit Go.Ab
attribute [local irreducible] AWP Go.Ab.Sub Means MeansH MeansX CallK CallG CallT CallGT CallU
def frR (r : Rat) : Fr := ⟨sg r.num, dg (ab r.num), sg r.den, dg (ab (r.den : Int))⟩
abbrev fql (xs : List Rat) : AV := .sl (xs.map frq)
theorem fql_fv (xs : List Rat) : fql xs = .sl ((xs.map frR).map fv) := by rw [List.map_map]; rfl
theorem wrongF_m (x : Rat) (h : rq x) : Means false Tryz.prog 55 [frq x] (bb false) := by
  refine means_fn false 6 [.tmp 2] Tryz.func55 rfl rfl rfl (by simp) (by decide) rfl fun X hX => ?_
  (repeat (first | refine awp_seq ?_ | refine awp_block ?_ | ((first | refine awp_runG [0, 1, 2] hX ?_ | refine awp_drawnG [0, 1, 2] hX mixed ?_ | refine awp_ret ?_ | refine awp_skip ?_ | refine awp_exit ?_); (simp [go_sem]; try (refine ⟨by kernel_rfl, ?_⟩)))))
  first | refine callK_intro (Right_t x.num x.den (rf_q h)) rfl (by simp [go_sem]) rfl ?_ | refine callT_intro (Right_t x.num x.den (rf_q h)) rfl (by simp [go_sem]) rfl ?_
  try (simp [go_sem]; try (refine ⟨by kernel_rfl, ?_⟩))
  (repeat (first | refine awp_seq ?_ | refine awp_block ?_ | ((first | refine awp_runG [0, 1, 2] hX ?_ | refine awp_drawnG [0, 1, 2] hX mixed ?_ | refine awp_ret ?_ | refine awp_skip ?_ | refine awp_exit ?_); (simp [go_sem]; try (refine ⟨by kernel_rfl, ?_⟩)))))
theorem contR_m (xs : List Rat) (hl : xs.length ≤ 9223372036854775807) (h : ∀ x ∈ xs, rq x) : Means false Tryz.prog 56 [fql xs, .v (.func (.func 55) #[] #[])] (bb false) := by
  have := contF_m 55 (fun _ => false) (xs.map frR) (by simpa using hl) (fun b hb => by
    obtain ⟨x, hx, rfl⟩ := List.mem_map.1 hb
    exact wrongF_m x (h x hx)) (by kernel_rfl)
  rw [← fql_fv, show (xs.map frR).any (fun _ => false) = false by rw [List.any_eq_false]; simp] at this
  exact this
theorem nth_fq {xs : List Rat} {k : Nat} (h : k < xs.length) : nth (xs.map frq) k = frq (xs.getD k 0) := by
  rw [List.getD_eq_getElem?_getD, List.getElem?_eq_getElem h]
  exact nth_map _ h
theorem getD_rq {xs : List Rat} {k : Nat} (hk : k < xs.length) (h : ∀ x ∈ xs, rq x) : rq (xs.getD k 0) := by
  rw [List.getD_eq_getElem?_getD, List.getElem?_eq_getElem hk]
  exact h _ (List.getElem_mem hk)
def chkTo (own : List Int) (S : List (List Int)) (xs ys : List Rat) (i : Nat) : Prop := ∀ k, k < i → psum own S xs k own.length = xs.getD k 0 ∧ xs.getD k 0 * (((1000 - sumI (S.getD k []) : Int) : Rat) / ((1000 : Int) : Rat)) = ys.getD k 0
set_option maxHeartbeats 8000000 in
set_option maxRecDepth 20000 in
theorem Check_q (own : List Int) (S : List (List Int)) (hv : PV own S) (h6 : own.length ≤ 6) (xs ys : List Rat) (hxl : xs.length = own.length) (hyl : ys.length = own.length) (hx : ∀ x ∈ xs, bt 310 x.num ∧ bt 160 x.den) (hy : ∀ y ∈ ys, rq y) :
    Means false Tryz.prog 18 [il own, ill S, fql xs, fql ys] (ii (if chkQ own S xs ys then 0 else 21)) := by
  have hSl := hv.len
  have hxq : ∀ x ∈ xs, rq x := fun x hx' => rq_bt (hx x hx').1 (hx x hx').2 (by omega) (by omega)
  have hbad : badP own S = 0 := by unfold badP; rw [if_pos hv.toPR, if_pos hv]
  have c1 := solvable_m own S (by omega) (by omega) fun l hl => by have := (PR_row hv.toPR hl).1; omega
  rw [hbad] at c1
  have c2 := contR_m xs (by omega) hxq
  have c3 := contR_m ys (by omega) hy
  have hzx : zoneEs (xs.map frq) = true := zoneEs_map _ _ fun _ => rfl
  refine means_fn false 119 [.tmp 8] Tryz.func18 rfl rfl rfl (by simp) (by decide) rfl fun X hX => ?_
  (repeat (first | refine awp_seq ?_ | refine awp_block ?_ | ((first | refine awp_runG [0, 1, 2, 3, 8, 9, 10, 11, 12, 13, 14, 15, 20, 43, 47, 48, 49, 58, 59, 60, 117] hX ?_ | refine awp_drawnG [0, 1, 2, 3, 8, 9, 10, 11, 12, 13, 14, 15, 20, 43, 47, 48, 49, 58, 59, 60, 117] hX mixed ?_ | refine awp_ret ?_ | refine awp_skip ?_ | refine awp_exit ?_); (simp [go_sem]; try (refine ⟨by kernel_rfl, ?_⟩)))))
  first | refine callK_intro (c1) rfl (by simp [go_sem]) rfl ?_ | refine callT_intro (c1) rfl (by simp [go_sem]) rfl ?_
  try (simp [go_sem]; try (refine ⟨by kernel_rfl, ?_⟩))
  (repeat (first | refine awp_seq ?_ | refine awp_block ?_ | ((first | refine awp_runG [0, 1, 2, 3, 8, 9, 10, 11, 12, 13, 14, 15, 20, 43, 47, 48, 49, 58, 59, 60, 117] hX ?_ | refine awp_drawnG [0, 1, 2, 3, 8, 9, 10, 11, 12, 13, 14, 15, 20, 43, 47, 48, 49, 58, 59, 60, 117] hX mixed ?_ | refine awp_ret ?_ | refine awp_skip ?_ | refine awp_exit ?_); (simp [go_sem]; try (refine ⟨by kernel_rfl, ?_⟩)))))
  refine awp_cond (b := false) (by simp [go_sem]) (fun h => by cases h) (fun _ => ?_)
  (repeat (first | refine awp_seq ?_ | refine awp_block ?_ | ((first | refine awp_runG [0, 1, 2, 3, 8, 9, 10, 11, 12, 13, 14, 15, 20, 43, 47, 48, 49, 58, 59, 60, 117] hX ?_ | refine awp_drawnG [0, 1, 2, 3, 8, 9, 10, 11, 12, 13, 14, 15, 20, 43, 47, 48, 49, 58, 59, 60, 117] hX mixed ?_ | refine awp_ret ?_ | refine awp_skip ?_ | refine awp_exit ?_); (simp [go_sem]; try (refine ⟨by kernel_rfl, ?_⟩)))))
  first | refine callG_intro (fun hg => c2) rfl (by simp [go_sem]) rfl ?_ | refine callGT_intro (fun hg => c2) rfl (by simp [go_sem]) rfl ?_
  try (simp [go_sem]; try (refine ⟨by kernel_rfl, ?_⟩))
  first | refine callG_intro (fun hg => c3) rfl (by simp [go_sem]) rfl ?_ | refine callGT_intro (fun hg => c3) rfl (by simp [go_sem]) rfl ?_
  try (simp [go_sem]; try (refine ⟨by kernel_rfl, ?_⟩))
  refine awp_cond (b := false) (by simp [go_sem, hxl, hyl]) (fun h => by cases h) (fun _ => ?_)
  (repeat (first | refine awp_seq ?_ | refine awp_block ?_ | ((first | refine awp_runG [0, 1, 2, 3, 8, 9, 10, 11, 12, 13, 14, 15, 20, 43, 47, 48, 49, 58, 59, 60, 117] hX ?_ | refine awp_drawnG [0, 1, 2, 3, 8, 9, 10, 11, 12, 13, 14, 15, 20, 43, 47, 48, 49, 58, 59, 60, 117] hX mixed ?_ | refine awp_ret ?_ | refine awp_skip ?_ | refine awp_exit ?_); (simp [go_sem]; try (refine ⟨by kernel_rfl, ?_⟩)))))
  refine awp_loop (fun i : Nat => ⟨mkE [(0, il own), (1, ill S), (2, fql xs), (3, fql ys), (11, .el 0 1 0 0), (47, ii own.length), (48, ii i)], [calC 0]⟩) (fun i => i ≤ own.length ∧ chkTo own S xs ys i) (fun i => own.length - i) 0 ?_ ?_ ?_
  · refine sub_of _ [.old 0 ⟨56, 1, [.agg [ii 0]]⟩] (by simp [go_sem]) ?_
    simp [go_sem]
  · exact ⟨by omega, fun k hk => by omega⟩
  · rintro i ⟨hi, hp⟩
    (repeat (first | refine awp_seq ?_ | refine awp_block ?_ | ((first | refine awp_runG [0, 1, 2, 3, 8, 9, 10, 11, 12, 13, 14, 15, 20, 43, 47, 48, 49, 58, 59, 60, 117] hX ?_ | refine awp_drawnG [0, 1, 2, 3, 8, 9, 10, 11, 12, 13, 14, 15, 20, 43, 47, 48, 49, 58, 59, 60, 117] hX mixed ?_ | refine awp_ret ?_ | refine awp_skip ?_ | refine awp_exit ?_); (simp [go_sem]; try (refine ⟨by kernel_rfl, ?_⟩)))))
    refine awp_cond (b := decide (i < own.length)) (by simp [go_sem]) (fun hb => ?_) (fun hb => ?_)
    · simp only [decide_eq_true_eq] at hb
      have wi := w64 (x := (i : Int) + 1) (by omega) (by omega)
      have q1 := nth_ii hb
      have hw := hv.w i hb
      rw [show wO own i = own[i] from getD_at hb] at hw
      have k1 := ofi_c (p := own[i]) (by omega)
      rw [show own[i] = wO own i from (getD_at hb).symm] at k1 q1
      (repeat (first | refine awp_seq ?_ | refine awp_block ?_ | ((first | refine awp_runG [0, 1, 2, 3, 8, 9, 10, 11, 12, 13, 14, 15, 20, 43, 47, 48, 49, 58, 59, 60, 117] hX ?_ | refine awp_drawnG [0, 1, 2, 3, 8, 9, 10, 11, 12, 13, 14, 15, 20, 43, 47, 48, 49, 58, 59, 60, 117] hX mixed ?_ | refine awp_ret ?_ | refine awp_skip ?_ | refine awp_exit ?_); (simp [go_sem, hb, q1]; try (refine ⟨by kernel_rfl, ?_⟩)))))
      first | refine callH_intro [0] (k1) (by simp [go_sem]) ?_ | refine callTQ_intro [0] (k1) (by simp [go_sem]) ?_ | refine callTE_intro [0] (k1) (by simp [go_sem]) ?_
      try (simp [go_sem, hb, q1]; try (refine ⟨by kernel_rfl, ?_⟩))
      (repeat (first | refine awp_seq ?_ | refine awp_block ?_ | ((first | refine awp_runG [0, 1, 2, 3, 8, 9, 10, 11, 12, 13, 14, 15, 20, 43, 47, 48, 49, 58, 59, 60, 117] hX ?_ | refine awp_drawnG [0, 1, 2, 3, 8, 9, 10, 11, 12, 13, 14, 15, 20, 43, 47, 48, 49, 58, 59, 60, 117] hX mixed ?_ | refine awp_ret ?_ | refine awp_skip ?_ | refine awp_exit ?_); (simp [go_sem]; try (refine ⟨by kernel_rfl, ?_⟩)))))
      refine awp_loop (fun j : Nat => ⟨mkE [(0, il own), (1, ill S), (2, fql xs), (3, fql ys), (11, .el 0 1 0 0), (12, ii i), (13, .el 1 4 0 0), (47, ii own.length), (48, ii i), (58, ii own.length), (59, ii j)], [calC 0, .row ⟨41, 4, [frq (psum own S xs i j)]⟩]⟩) (fun j => j ≤ own.length) (fun j => own.length - j) 0 ?_ ?_ ?_
      · rw [psum_0]
        refine sub_of _ [.old 0 ⟨56, 1, [.agg [ii 0]]⟩, .old 1 ⟨41, 4, [frq ((wO own i : Int) : Rat)]⟩] (by simp [go_sem]) ?_
        simp [go_sem]
      · omega
      · intro j hj
        (repeat (first | refine awp_seq ?_ | refine awp_block ?_ | ((first | refine awp_runG [0, 1, 2, 3, 8, 9, 10, 11, 12, 13, 14, 15, 20, 43, 47, 48, 49, 58, 59, 60, 117] hX ?_ | refine awp_drawnG [0, 1, 2, 3, 8, 9, 10, 11, 12, 13, 14, 15, 20, 43, 47, 48, 49, 58, 59, 60, 117] hX mixed ?_ | refine awp_ret ?_ | refine awp_skip ?_ | refine awp_exit ?_); (simp [go_sem]; try (refine ⟨by kernel_rfl, ?_⟩)))))
        refine awp_cond (b := decide (j < own.length)) (by simp [go_sem]) (fun hc => ?_) (fun hc => ?_)
        · simp only [decide_eq_true_eq] at hc
          have wj := w64 (x := (j : Int) + 1) (by omega) (by omega)
          have hjS : j < S.length := by omega
          have hjx : j < xs.length := by omega
          have hlr := hv.row S[j] (List.getElem_mem hjS)
          have hij2 : i < S[j].length := by omega
          have p1 := nthE_L (L := S) hjS
          have p2 := nth_ii hij2
          have p3 := nth_fq hjx
          have hso : S[j][i] = sO S j i := by
            unfold sO
            rw [List.getD_eq_getElem?_getD (l := S), List.getElem?_eq_getElem hjS]
            exact (getD_at hij2).symm
          rw [hso] at p2
          have hsb := hv.s j i hc hb
          obtain ⟨o1, o2⟩ := psum_ok hv.toPR h6 hx hxl hb hc
          have hps := psum_succ own S xs i j
          obtain ⟨u1, u2⟩ := psum_bt hv.toPR hx hxl hb j (by omega)
          have k2 := ofq_c (p := sO S j i) (q := 1000) (by omega) (by decide) (by decide)
          have k3 := mulq_c (getD_rq hjx hxq) (of_rq (p := sO S j i) (q := 1000) (by omega) (by decide) (by decide)) o1
          have k4 : MeansH Tryz.prog 44 [calC 0] [.el 0 1 0 0, frq (psum own S xs i j), frq (xs.getD j 0 * (((sO S j i : Int) : Rat) / ((1000 : Int) : Rat)))] (frq (psum own S xs i (j + 1))) [calC 0] := by
            rw [hps]
            exact add_c 0 (Add_qt (rq_bt u1 u2 (by omega) (by omega)) (mul_rq o1) o2)
          obtain ⟨pj1, hpj1⟩ : ∃ q, psum own S xs i (j + 1) = q := ⟨_, rfl⟩
          rw [hpj1] at k4
          generalize psum own S xs i j = pj at *
          generalize xs.getD j 0 = xj at *
          (repeat (first | refine awp_seq ?_ | refine awp_block ?_ | ((first | refine awp_runG [0, 1, 2, 3, 8, 9, 10, 11, 12, 13, 14, 15, 20, 43, 47, 48, 49, 58, 59, 60, 117] hX ?_ | refine awp_drawnG [0, 1, 2, 3, 8, 9, 10, 11, 12, 13, 14, 15, 20, 43, 47, 48, 49, 58, 59, 60, 117] hX mixed ?_ | refine awp_ret ?_ | refine awp_skip ?_ | refine awp_exit ?_); (simp [go_sem, hjS, hjx, hij2, p1, p2, p3]; try (refine ⟨by kernel_rfl, ?_⟩)))))
          first | refine callH_intro [0] (k2) (by simp [go_sem]) ?_ | refine callTQ_intro [0] (k2) (by simp [go_sem]) ?_ | refine callTE_intro [0] (k2) (by simp [go_sem]) ?_
          try (simp [go_sem, hjS, hjx, hij2, p1, p2, p3]; try (refine ⟨by kernel_rfl, ?_⟩))
          first | refine callH_intro [0] (k3) (by simp [go_sem]) ?_ | refine callTQ_intro [0] (k3) (by simp [go_sem]) ?_ | refine callTE_intro [0] (k3) (by simp [go_sem]) ?_
          try (simp [go_sem, hjS, hjx, hij2, p1, p2, p3]; try (refine ⟨by kernel_rfl, ?_⟩))
          first | refine callH_intro [0] (k4) (by simp [go_sem]) ?_ | refine callTQ_intro [0] (k4) (by simp [go_sem]) ?_ | refine callTE_intro [0] (k4) (by simp [go_sem]) ?_
          try (simp [go_sem, hjS, hjx, hij2, p1, p2, p3]; try (refine ⟨by kernel_rfl, ?_⟩))
          try (repeat (first | refine awp_seq ?_ | refine awp_block ?_ | ((first | refine awp_runG [0, 1, 2, 3, 8, 9, 10, 11, 12, 13, 14, 15, 20, 43, 47, 48, 49, 58, 59, 60, 117] hX ?_ | refine awp_drawnG [0, 1, 2, 3, 8, 9, 10, 11, 12, 13, 14, 15, 20, 43, 47, 48, 49, 58, 59, 60, 117] hX mixed ?_ | refine awp_ret ?_ | refine awp_skip ?_ | refine awp_exit ?_); (simp [go_sem, wj]; try (refine ⟨by kernel_rfl, ?_⟩)))))
          refine ⟨j + 1, by omega, by omega, ?_⟩
          rw [hpj1]
          refine sub_of _ [.old 0 ⟨56, 1, [.agg [ii 0]]⟩, .old 1 ⟨41, 4, [frq pj1]⟩] (by simp [go_sem]) ?_
          simp [go_sem]
        · simp only [decide_eq_false_iff_not] at hc
          have hjn : j = own.length := by omega
          subst hjn
          have hiS : i < S.length := by omega
          have hix : i < xs.length := by omega
          have hiy : i < ys.length := by omega
          have p1 := nthE_L (L := S) hiS
          have p3 := nth_fq hix
          have p4 := nth_fq hiy
          have hpr := PR_row hv.toPR (List.getElem_mem hiS)
          have hgv := given_m S[i] (by omega) hpr.2
          have hgd : S.getD i [] = S[i] := by rw [List.getD_eq_getElem?_getD, List.getElem?_eq_getElem hiS]; rfl
          obtain ⟨hgb, o1⟩ := part_ok hv hx hxl hb
          obtain ⟨u1, u2⟩ := psum_bt hv.toPR hx hxl hb own.length (Nat.le_refl _)
          have hpq := rq_bt u1 u2 (by omega) (by omega)
          have hpi := hp
          rw [← hgd] at hgv
          have hst : chkQ own S xs ys → _ := fun h => h i hb
          have hin : chkTo own S xs ys i → (psum own S xs i own.length = xs.getD i 0 ∧ xs.getD i 0 * (((1000 - sumI (S.getD i []) : Int) : Rat) / ((1000 : Int) : Rat)) = ys.getD i 0) → chkTo own S xs ys (i + 1) := fun h1 h2 k hk => by
            by_cases e : k = i
            · subst e; exact h2
            · exact h1 k (by omega)
          have k2 := ofq_c (p := 1000 - sumI (S.getD i [])) (q := 1000) (by omega) (by decide) (by decide)
          have k3 := mulq_c (getD_rq hix hxq) (of_rq (p := 1000 - sumI (S.getD i [])) (q := 1000) (by omega) (by decide) (by decide)) o1
          have m1 := Compare_q hpq (getD_rq hix hxq)
          have m2 := Compare_q (mul_rq o1) (getD_rq hiy hy)
          have z1 := cmpR_eq (psum own S xs i own.length) (xs.getD i 0)
          have z2 := cmpR_eq (xs.getD i 0 * (((1000 - sumI (S.getD i []) : Int) : Rat) / ((1000 : Int) : Rat))) (ys.getD i 0)
          have ws := w64 (x := 1000 - sumI (S.getD i [])) (by omega) (by omega)
          rw [← hgd] at p1
          have hSi : nth (S.map il) i = il (S.getD i []) := p1
          clear p1 hgd hpr u1 u2 hpi
          generalize psum own S xs i own.length = pn at *
          generalize xs.getD i 0 = xi at *
          generalize ys.getD i 0 = yi at *
          generalize hgs : sumI (S.getD i []) = gs at *
          generalize S.getD i [] = Si at *
          generalize hpt : xi * (((1000 - gs : Int) : Rat) / ((1000 : Int) : Rat)) = pt at *
          (repeat (first | refine awp_seq ?_ | refine awp_block ?_ | ((first | refine awp_runG [0, 1, 2, 3, 8, 9, 10, 11, 12, 13, 14, 15, 20, 43, 47, 48, 49, 58, 59, 60, 117] hX ?_ | refine awp_drawnG [0, 1, 2, 3, 8, 9, 10, 11, 12, 13, 14, 15, 20, 43, 47, 48, 49, 58, 59, 60, 117] hX mixed ?_ | refine awp_ret ?_ | refine awp_skip ?_ | refine awp_exit ?_); (simp [go_sem, hiS, hix, hSi, p3]; try (refine ⟨by kernel_rfl, ?_⟩)))))
          first | refine callK_intro (hgv) rfl (by simp [go_sem]) rfl ?_ | refine callT_intro (hgv) rfl (by simp [go_sem]) rfl ?_
          try (simp [go_sem, hiS, hix, hSi, p3, ws]; try (refine ⟨by kernel_rfl, ?_⟩))
          try (repeat refine And.intro (by first | omega | (unfold maxLen; omega) | kernel_rfl | (refine ⟨by first | omega | (unfold maxLen; omega), by first | omega | (unfold maxLen; omega)⟩) | grind) ?_)
          first | refine callH_intro [0] (k2) (by simp [go_sem]) ?_ | refine callTQ_intro [0] (k2) (by simp [go_sem]) ?_ | refine callTE_intro [0] (k2) (by simp [go_sem]) ?_
          try (simp [go_sem, hiS, hix, hSi, p3]; try (refine ⟨by kernel_rfl, ?_⟩))
          first | refine callH_intro [0] (k3) (by simp [go_sem]) ?_ | refine callTQ_intro [0] (k3) (by simp [go_sem]) ?_ | refine callTE_intro [0] (k3) (by simp [go_sem]) ?_
          try (simp [go_sem, hiS, hix, hSi, p3]; try (refine ⟨by kernel_rfl, ?_⟩))
          (repeat (first | refine awp_seq ?_ | refine awp_block ?_ | ((first | refine awp_runG [0, 1, 2, 3, 8, 9, 10, 11, 12, 13, 14, 15, 20, 43, 47, 48, 49, 58, 59, 60, 117] hX ?_ | refine awp_drawnG [0, 1, 2, 3, 8, 9, 10, 11, 12, 13, 14, 15, 20, 43, 47, 48, 49, 58, 59, 60, 117] hX mixed ?_ | refine awp_ret ?_ | refine awp_skip ?_ | refine awp_exit ?_); (simp [go_sem, hiS, hix, hiy, p3, p4]; try (refine ⟨by kernel_rfl, ?_⟩)))))
          first | refine callG_intro (fun hg => m1) rfl (by simp [go_sem]) rfl ?_ | refine callGT_intro (fun hg => m1) rfl (by simp [go_sem]) rfl ?_
          try (simp [go_sem, hiS, hix, hiy, p3, p4]; try (refine ⟨by kernel_rfl, ?_⟩))
          first | refine callG_intro (fun hg => m2) rfl (by simp [go_sem]) rfl ?_ | refine callGT_intro (fun hg => m2) rfl (by simp [go_sem]) rfl ?_
          try (simp [go_sem, hiS, hix, hiy, p3, p4]; try (refine ⟨by kernel_rfl, ?_⟩))
          refine awp_cond (b := !decide (pn = xi ∧ pt = yi)) (by simp [go_sem, z1, z2, bne]; try grind) (fun hd => ?_) (fun hd => ?_)
          · have e : ¬ chkQ own S xs ys := fun h => by
              have := hst h
              simp [this] at hd
            (repeat (first | refine awp_seq ?_ | refine awp_block ?_ | ((first | refine awp_runG [0, 1, 2, 3, 8, 9, 10, 11, 12, 13, 14, 15, 20, 43, 47, 48, 49, 58, 59, 60, 117] hX ?_ | refine awp_drawnG [0, 1, 2, 3, 8, 9, 10, 11, 12, 13, 14, 15, 20, 43, 47, 48, 49, 58, 59, 60, 117] hX mixed ?_ | refine awp_ret ?_ | refine awp_skip ?_ | refine awp_exit ?_); (simp [go_sem, e]; try (refine ⟨by kernel_rfl, ?_⟩)))))
          · simp only [Bool.not_eq_false', decide_eq_true_eq] at hd
            (repeat (first | refine awp_seq ?_ | refine awp_block ?_ | ((first | refine awp_runG [0, 1, 2, 3, 8, 9, 10, 11, 12, 13, 14, 15, 20, 43, 47, 48, 49, 58, 59, 60, 117] hX ?_ | refine awp_drawnG [0, 1, 2, 3, 8, 9, 10, 11, 12, 13, 14, 15, 20, 43, 47, 48, 49, 58, 59, 60, 117] hX mixed ?_ | refine awp_ret ?_ | refine awp_skip ?_ | refine awp_exit ?_); (simp [go_sem, wi]; try (refine ⟨by kernel_rfl, ?_⟩)))))
            refine ⟨i + 1, ⟨by omega, hin hp hd⟩, by omega, ?_⟩
            refine sub_of _ [.old 0 ⟨56, 1, [.agg [ii 0]]⟩] (by simp [go_sem]) ?_
            simp [go_sem]
    · simp only [decide_eq_false_iff_not] at hb
      have hin : i = own.length := by omega
      subst hin
      have e : chkQ own S xs ys := hp
      (repeat (first | refine awp_seq ?_ | refine awp_block ?_ | ((first | refine awp_runG [0, 1, 2, 3, 8, 9, 10, 11, 12, 13, 14, 15, 20, 43, 47, 48, 49, 58, 59, 60, 117] hX ?_ | refine awp_drawnG [0, 1, 2, 3, 8, 9, 10, 11, 12, 13, 14, 15, 20, 43, 47, 48, 49, 58, 59, 60, 117] hX mixed ?_ | refine awp_ret ?_ | refine awp_skip ?_ | refine awp_exit ?_); (simp [go_sem, e]; try (refine ⟨by kernel_rfl, ?_⟩)))))
end Go.Proofs.YthibhamepjhfjaaGreatDoor

namespace Go.Proofs.YthibhamepjhfjaaGreatDoor
def bef (K : Int → Int) (x y : Int) : Prop := K y < K x ∨ (K x = K y ∧ x < y)
instance (K : Int → Int) (x y : Int) : Decidable (bef K x y) := by unfold bef; infer_instance
theorem bef_trans {K : Int → Int} {x y z : Int} (h1 : bef K x y) (h2 : bef K y z) : bef K x z := by unfold bef at *; omega
theorem bef_total {K : Int → Int} {x y : Int} (h : x ≠ y) : bef K x y ∨ bef K y x := by unfold bef; omega
theorem bef_asymm {K : Int → Int} {x y : Int} (h1 : bef K x y) : ¬ bef K y x := by unfold bef at *; omega
def insB (K : Int → Int) (x : Int) : List Int → List Int
  | [] => [x]
  | y :: l => if bef K x y then x :: y :: l else y :: insB K x l
def srt (K : Int → Int) (l : List Int) : List Int := l.foldl (fun s x => insB K x s) []
theorem srt_snoc (K : Int → Int) (l : List Int) (x : Int) : srt K (l ++ [x]) = insB K x (srt K l) := by unfold srt; rw [List.foldl_append]; rfl
theorem insB_perm (K : Int → Int) (x : Int) : ∀ l, (insB K x l).Perm (x :: l)
  | [] => .refl _
  | y :: l => by
    unfold insB
    split
    · exact .refl _
    · exact ((insB_perm K x l).cons y).trans (.swap x y l)
theorem srt_perm (K : Int → Int) (l : List Int) : (srt K l).Perm l := by
  have : ∀ k, k ≤ l.length → (srt K (l.take k)).Perm (l.take k) := by
    intro k
    induction k with
    | zero => intro _; exact .refl _
    | succ k ih =>
      intro hk
      rw [List.take_succ_eq_append_getElem (by omega), srt_snoc]
      exact (insB_perm K _ _).trans (((ih (by omega)).cons _).trans (List.perm_append_singleton _ _).symm)
  have := this l.length (Nat.le_refl _)
  rwa [List.take_length] at this
theorem insB_sorted {K : Int → Int} {x : Int} : ∀ {l : List Int}, l.Pairwise (bef K) → x ∉ l → (insB K x l).Pairwise (bef K)
  | [], _, _ => by simp [insB]
  | y :: l, h, hx => by
    rw [List.pairwise_cons] at h
    simp only [List.mem_cons, not_or] at hx
    unfold insB
    split
    · rename_i hb
      refine List.pairwise_cons.2 ⟨fun z hz => ?_, List.pairwise_cons.2 h⟩
      rcases List.mem_cons.1 hz with rfl | hz
      · exact hb
      · exact bef_trans hb (h.1 z hz)
    · rename_i hb
      refine List.pairwise_cons.2 ⟨fun z hz => ?_, insB_sorted h.2 hx.2⟩
      rcases List.mem_cons.1 ((insB_perm K x l).mem_iff.1 hz) with rfl | hz
      · exact (bef_total hx.1).resolve_left hb
      · exact h.1 z hz
theorem srt_sorted {K : Int → Int} {l : List Int} (hn : l.Nodup) : (srt K l).Pairwise (bef K) := by
  have : ∀ k, k ≤ l.length → (srt K (l.take k)).Pairwise (bef K) := by
    intro k
    induction k with
    | zero => intro _; exact List.Pairwise.nil
    | succ k ih =>
      intro hk
      have hkl : k < l.length := by omega
      rw [List.take_succ_eq_append_getElem hkl, srt_snoc]
      refine insB_sorted (ih (by omega)) fun hm => ?_
      have hm := (srt_perm K _).mem_iff.1 hm
      obtain ⟨j, hj, e⟩ := List.mem_take_iff_getElem.1 hm
      have := (List.getElem_inj hn).1 e
      omega
  have := this l.length (Nat.le_refl _)
  rwa [List.take_length] at this
theorem srt_len (K : Int → Int) (l : List Int) : (srt K l).length = l.length := (srt_perm K l).length_eq
theorem insB_at {K : Int → Int} {x : Int} : ∀ {s : List Int} (k : Nat), s.Pairwise (bef K) → k ≤ s.length → (∀ e ∈ s.take k, bef K e x) → (∀ e ∈ s.drop k, bef K x e) → insB K x s = s.take k ++ x :: s.drop k
  | [], k, _, _, _, _ => by simp [insB]
  | y :: s, 0, _, _, _, h2 => by
    have := h2 y (by simp)
    simp [insB, this]
  | y :: s, k + 1, h, hk, h1, h2 => by
    have hy : bef K y x := h1 y (by simp)
    rw [List.pairwise_cons] at h
    have ih := insB_at k h.2 (by simpa using hk) (fun e he => h1 e (by simp [he])) (fun e he => h2 e (by simpa using he))
    unfold insB
    rw [if_neg (bef_asymm hy), ih]
    rfl
def r3 (a b c : List Int) : List Int := a ++ b ++ c
@[simp] theorem r3_len (a b c : List Int) : (r3 a b c).length = a.length + b.length + c.length := by simp [r3]; omega
def rowX (pre s : List Int) (x : Int) (post : List Int) (k : Nat) : List Int := pre ++ (s.take k ++ x :: s.drop k) ++ post
theorem rowX_len {pre s : List Int} {x : Int} {post : List Int} {k : Nat} (h : k ≤ s.length) : (rowX pre s x post k).length = pre.length + s.length + 1 + post.length := by
  simp [rowX]; omega
theorem rowX_at {pre s : List Int} {x : Int} {post : List Int} {k : Nat} (h : k ≤ s.length) (hl : pre.length + k < (rowX pre s x post k).length) : (rowX pre s x post k)[pre.length + k] = x := by
  simp only [rowX, List.append_assoc]
  rw [List.getElem_append_right (by omega), List.getElem_append_right (by simp; omega)]
  simp [Nat.min_eq_left h]
theorem rowX_prev {pre s : List Int} {x : Int} {post : List Int} {k : Nat} (h : k < s.length) (hl : pre.length + k < (rowX pre s x post (k + 1)).length) : (rowX pre s x post (k + 1))[pre.length + k] = s[k] := by
  simp only [rowX, List.append_assoc]
  rw [List.getElem_append_right (by omega), List.getElem_append_left (by simp; omega)]
  simp
theorem rowX_swap {pre s : List Int} {x : Int} {post : List Int} {k : Nat} (h : k < s.length) : ((rowX pre s x post (k + 1)).set (pre.length + (k + 1)) s[k]).set (pre.length + k) x = rowX pre s x post k := by
  have e1 : s.take (k + 1) = s.take k ++ [s[k]] := List.take_succ_eq_append_getElem h
  have e2 : s.drop k = s[k] :: s.drop (k + 1) := List.drop_eq_getElem_cons h
  have hk : (s.take k).length = k := by simp; omega
  simp only [rowX, e1, e2, List.append_assoc]
  rw [List.set_append_right _ _ (by omega), List.set_append_right _ _ (by omega)]
  congr 1
  rw [show pre.length + (k + 1) - pre.length = k + 1 by omega, show pre.length + k - pre.length = k by omega]
  rw [List.set_append_right _ _ (by omega), List.set_append_right _ _ (by omega), hk]
  congr 1
  simp
  rw [e2]; rfl
end Go.Proofs.YthibhamepjhfjaaGreatDoor

namespace Go.Proofs.YthibhamepjhfjaaGreatDoor
open Go.RowKit Go.Ab
attribute [local irreducible] AWP Go.Ab.Sub Means MeansH CallK CallG CallT CallGT CallU
abbrev rowI (L : List Int) : Cell := .row ⟨3, 1, L.map ii⟩
end Go.Proofs.YthibhamepjhfjaaGreatDoor

namespace Go.Proofs.YthibhamepjhfjaaGreatDoor
open Go.RowKit Go.Ab
attribute [local irreducible] AWP Go.Ab.Sub Means MeansH CallK CallG CallT CallGT CallU
theorem getQ_lt {L : List Rat} {j : Nat} (h : j < L.length) : L.getD j 0 = L[j] := by rw [List.getD_eq_getElem?_getD, List.getElem?_eq_getElem h]; rfl
def cden : List Rat → Int
  | [] => 1
  | r :: R => r.den * cden R
theorem cden_pos : ∀ R : List Rat, 0 < cden R
  | [] => by decide
  | r :: R => Int.mul_pos (by have := r.den_pos; omega) (cden_pos R)
theorem cden_int : ∀ (R : List Rat) (r : Rat), r ∈ R → ∃ m : Int, r * (cden R : Rat) = (m : Rat)
  | a :: R, r, h => by
    rcases List.mem_cons.1 h with rfl | h
    · refine ⟨r.num * cden R, ?_⟩
      show r * (((r.den : Int) * cden R : Int) : Rat) = _
      rw [Rat.intCast_mul, Rat.intCast_mul, num_den r]; grind
    · obtain ⟨m, e⟩ := cden_int R r h
      refine ⟨a.den * m, ?_⟩
      show r * (((a.den : Int) * cden R : Int) : Rat) = _
      rw [Rat.intCast_mul, Rat.intCast_mul, ← e]; grind
namespace B
abbrev bsl (R : List Rat) : AV := fql R
def okR (R : List Rat) : Prop := ∀ r ∈ R, rq r
def kf (R : List Rat) (x : Int) : Int := (R.getD x.toNat 0 * (cden R : Rat)).num
theorem kf_eq (R : List Rat) (x : Int) : (kf R x : Rat) = R.getD x.toNat 0 * (cden R : Rat) := by
  unfold kf
  have : ∃ m : Int, R.getD x.toNat 0 * (cden R : Rat) = (m : Rat) := by
    by_cases h : x.toNat < R.length
    · rw [getQ_lt h]; exact cden_int R _ (List.getElem_mem h)
    · rw [List.getD_eq_getElem?_getD, List.getElem?_eq_none (by omega)]
      exact ⟨0, by show (0 : Rat) * _ = ((0 : Int) : Rat); rw [Rat.zero_mul]; rfl⟩
  obtain ⟨m, e⟩ := this
  rw [e, Rat.num_intCast]
theorem kf_lt (R : List Rat) (x y : Int) : kf R x < kf R y ↔ R.getD x.toNat 0 < R.getD y.toNat 0 := by
  rw [← Rat.intCast_lt_intCast, kf_eq, kf_eq]
  exact Rat.mul_lt_mul_right (by have := cden_pos R; exact Rat.intCast_pos.2 this)
def cmpC (R : List Rat) (x y : Int) : Int := cmpR (R.getD y.toNat 0) (R.getD x.toNat 0)
theorem cmp_neg (R : List Rat) (x y : Int) : cmpC R x y < 0 ↔ kf R y < kf R x := by unfold cmpC; rw [cmpR_lt, kf_lt]
set_option maxHeartbeats 4000000 in
set_option maxRecDepth 20000 in
theorem clo_m (R : List Rat) (hok : okR R) (x y : Int) (hx : 0 ≤ x ∧ x < R.length) (hy : 0 ≤ y ∧ y < R.length) : MeansH Tryz.prog 46 [.row ⟨24, 1, [bsl R]⟩] [ii x, ii y, .el 0 1 0 0] (ii (cmpC R x y)) [.row ⟨24, 1, [bsl R]⟩] := by
  obtain ⟨i, hi, rfl⟩ : ∃ i, ∃ _ : i < R.length, x = (i : Int) := ⟨x.toNat, by omega, by omega⟩
  obtain ⟨j, hj, rfl⟩ : ∃ i, ∃ _ : i < R.length, y = (i : Int) := ⟨y.toNat, by omega, by omega⟩
  unfold cmpC
  rw [Int.toNat_natCast, Int.toNat_natCast, getQ_lt hi, getQ_lt hj]
  have n1 := nth_fq hi
  have n2 := nth_fq hj
  have c := Compare_q (hok _ (List.getElem_mem hj)) (hok _ (List.getElem_mem hi))
  refine meansH_fn 1 15 [.tmp 5] Tryz.func46 rfl rfl rfl (by simp) (by decide) rfl fun X hX => ?_
  (repeat (first | refine awp_seq ?_ | refine awp_block ?_ | ((first | refine awp_runG [0, 1, 2, 5, 1000000] hX ?_ | refine awp_drawnG [0, 1, 2, 5, 1000000] hX mixed ?_ | refine awp_skip ?_ | refine awp_exit ?_); (simp [go_sem, hi, hj, n1, n2]; try (refine ⟨by kernel_rfl, ?_⟩)))))
  first | refine callK_intro (c) rfl (by simp [go_sem]) rfl ?_ | refine callT_intro (c) rfl (by simp [go_sem]) rfl ?_
  try (simp [go_sem]; try (refine ⟨by kernel_rfl, ?_⟩))
  (repeat (first | refine awp_seq ?_ | refine awp_block ?_ | ((first | refine awp_runG [0, 1, 2, 5, 1000000] hX ?_ | refine awp_drawnG [0, 1, 2, 5, 1000000] hX mixed ?_ | refine awp_skip ?_ | refine awp_exit ?_); (simp [go_sem]; try (refine ⟨by kernel_rfl, ?_⟩)))))
  refine awp_ret ?_; (try simp only [thenQ, blkQ, loopQ]); refine retH_ret [(5, ii (cmpR R[j] R[i])), (1000000, .ow 0)] [.old 0 ⟨24, 1, [bsl R]⟩] ?_
  simp [go_sem]
end B
end Go.Proofs.YthibhamepjhfjaaGreatDoor

namespace Go.Proofs.YthibhamepjhfjaaGreatDoor.B
open Go.RowKit Go.Ab
attribute [local irreducible] AWP Go.Ab.Sub Means MeansH CallK CallG CallT CallGT
abbrev clo : AV := .fn 46 [] [.el 1 1 0 0]
abbrev sH (D : List Int) (R : List Rat) : List Cell := [rowI D, .row ⟨24, 1, [bsl R]⟩]
theorem rowX_srt {K : Int → Int} {pre s : List Int} {x : Int} {post : List Int} {k : Nat} (hs : s.Pairwise (bef K)) (hk : k ≤ s.length) (h1 : ∀ e ∈ s.take k, bef K e x) (h2 : ∀ e ∈ s.drop k, bef K x e) : rowX pre s x post k = r3 pre (insB K x s) post := by
  rw [insB_at k hs hk h1 h2]; rfl
set_option maxHeartbeats 4000000 in
set_option maxRecDepth 20000 in
theorem insSort_m (pre l post : List Int) (R : List Rat) (hn : l.Nodup) (hord : ∀ i j (hi : i < l.length) (hj : j < l.length), i < j → l[i] < l[j]) (hr : ∀ x ∈ l, 0 ≤ x ∧ x < R.length) (hb : pre.length + l.length + post.length ≤ 100000) (hR : R.length ≤ 100000) (hok : okR R) :
    MeansH Tryz.prog 106 (sH (r3 pre l post) R) [.ow 0, ii pre.length, ii (pre.length + l.length : Nat), clo] (.tup []) (sH (r3 pre (srt (kf R) l) post) R) := by
  refine meansH_fn 2 53 [] Tryz.func106 rfl rfl rfl (by simp) (by decide) rfl fun X hX => ?_
  (repeat (first | refine awp_seq ?_ | refine awp_block ?_ | ((first | refine awp_runG [0, 1, 2, 3, 8, 9, 14, 34, 1000000, 1000001] hX ?_ | refine awp_drawnG [0, 1, 2, 3, 8, 9, 14, 34, 1000000, 1000001] hX mixed ?_ | refine awp_skip ?_ | refine awp_exit ?_); (simp [go_sem]; (try simp (disch := omega) only [w64, td, tm]); try (refine ⟨by kernel_rfl, ?_⟩)))))
  refine awp_loop (fun i : Nat => ⟨mkE [(0, .ow 0), (1, ii pre.length), (2, ii (pre.length + l.length : Nat)), (3, clo), (8, ii (pre.length + i : Nat)), (1000000, .ow 0), (1000001, .ow 1)], sH (r3 pre (srt (kf R) (l.take i)) (l.drop i ++ post)) R⟩) (fun i => i ≤ l.length + (1 - l.length)) (fun i => l.length - i) 1 ?_ ?_ ?_
  · have e : srt (kf R) (l.take 1) ++ l.drop 1 = l := by
      cases l with
      | nil => rfl
      | cons a l => rfl
    have e2 : r3 pre (srt (kf R) (l.take 1)) (l.drop 1 ++ post) = r3 pre l post := by unfold r3; rw [← List.append_assoc, List.append_assoc pre, e]
    rw [e2]
    refine sub_of _ [.old 0 ⟨3, 1, (r3 pre l post).map ii⟩, .old 1 ⟨24, 1, [bsl R]⟩] (by simp [go_sem]) ?_
    simp [go_sem]
  · omega
  · intro i hi
    (repeat (first | refine awp_seq ?_ | refine awp_block ?_ | ((first | refine awp_runG [0, 1, 2, 3, 8, 9, 14, 34, 1000000, 1000001] hX ?_ | refine awp_drawnG [0, 1, 2, 3, 8, 9, 14, 34, 1000000, 1000001] hX mixed ?_ | refine awp_skip ?_ | refine awp_exit ?_); (simp [go_sem]; (try simp (disch := omega) only [w64, td, tm]); try (refine ⟨by kernel_rfl, ?_⟩)))))
    refine awp_cond (b := decide (i < l.length)) (by simp [go_sem]; try omega) (fun hc => ?_) (fun hc => ?_)
    · simp at hc
      obtain ⟨s, hs⟩ : ∃ s, srt (kf R) (l.take i) = s := ⟨_, rfl⟩
      have hsl : s.length = i := by rw [← hs, srt_len]; simp; omega
      have hnt : (l.take i).Nodup := hn.sublist (List.take_sublist _ _)
      have hss : s.Pairwise (bef (kf R)) := by rw [← hs]; exact srt_sorted hnt
      have hsm : ∀ e ∈ s, e < l[i] ∧ 0 ≤ e ∧ e < R.length := fun e he => by
        rw [← hs] at he
        have := (srt_perm _ _).mem_iff.1 he
        obtain ⟨j, hj, rfl⟩ := List.mem_take_iff_getElem.1 this
        exact ⟨hord j i (by omega) hc (by omega), hr _ (List.getElem_mem _)⟩
      have hxr := hr l[i] (List.getElem_mem hc)
      obtain ⟨x, hx⟩ : ∃ x, l[i] = x := ⟨_, rfl⟩
      obtain ⟨po, hpo⟩ : ∃ po, l.drop (i + 1) ++ post = po := ⟨_, rfl⟩
      have hpl : pre.length + s.length + 1 + po.length ≤ 100000 := by rw [← hpo]; simp; omega
      have e0 : r3 pre s (l.drop i ++ post) = rowX pre s x po s.length := by
        rw [List.drop_eq_getElem_cons hc, hx, ← hpo]
        simp [rowX, r3]
      have e1 : r3 pre (srt (kf R) (l.take (i + 1))) (l.drop (i + 1) ++ post) = r3 pre (insB (kf R) x s) po := by
        rw [List.take_succ_eq_append_getElem hc, srt_snoc, hs, hx, hpo]
      have e2 : i = s.length := hsl.symm
      rw [hx] at hsm hxr
      rw [hs, e0]
      (repeat (first | refine awp_seq ?_ | refine awp_block ?_ | ((first | refine awp_runG [0, 1, 2, 3, 8, 9, 14, 34, 1000000, 1000001] hX ?_ | refine awp_drawnG [0, 1, 2, 3, 8, 9, 14, 34, 1000000, 1000001] hX mixed ?_ | refine awp_skip ?_ | refine awp_exit ?_); (simp [go_sem]; try (refine ⟨by kernel_rfl, ?_⟩)))))
      refine awp_loop (fun k : Nat => ⟨mkE [(0, .ow 0), (1, ii pre.length), (2, ii (pre.length + l.length : Nat)), (3, clo), (8, ii (pre.length + i : Nat)), (9, ii (pre.length + k : Nat)), (1000000, .ow 0), (1000001, .ow 1)], sH (rowX pre s x po k) R⟩) (fun k => k ≤ s.length ∧ ∀ e ∈ s.drop k, bef (kf R) x e) (fun k => k) s.length ?_ ?_ ?_
      · refine sub_of _ [.old 0 ⟨3, 1, (rowX pre s x po s.length).map ii⟩, .old 1 ⟨24, 1, [bsl R]⟩] (by simp [go_sem]) ?_
        simp [go_sem, e2]
      · simp
      · rintro k ⟨hk, hd⟩
        have hlen := rowX_len (pre := pre) (x := x) (post := po) hk
        have done : (∀ e ∈ s.take k, bef (kf R) e x) → rowX pre s x po k = r3 pre (srt (kf R) (l.take (i + 1))) (l.drop (i + 1) ++ post) := fun h1 => by rw [e1, rowX_srt hss hk h1 hd]
        cases k with
        | zero =>
          have hdone := done (by simp)
          have hi0 : pre.length < (rowX pre s x po 0).length := by omega
          have hi1 : pre.length - 1 < (rowX pre s x po 0).length := by omega
          have hwz : IntKind.i64.wrap ((pre.length : Int) - 1) = (pre.length : Int) - 1 := w64 (by omega) (by omega)
          have htz : ((pre.length : Int) - 1).toNat = pre.length - 1 := by omega
          generalize rowX pre s x po 0 = D1 at *
          (repeat (first | refine awp_seq ?_ | refine awp_block ?_ | ((first | refine awp_runG [0, 1, 2, 3, 8, 9, 14, 34, 1000000, 1000001] hX ?_ | refine awp_drawnG [0, 1, 2, 3, 8, 9, 14, 34, 1000000, 1000001] hX mixed ?_ | refine awp_skip ?_ | refine awp_exit ?_); (simp [go_sem, hi0, hi1, hwz, htz]; try (refine ⟨by kernel_rfl, ?_⟩)))))
          first | refine callG_skip rfl ?_ | refine callGT_skip rfl ?_
          try (simp [go_sem]; try (refine ⟨by kernel_rfl, ?_⟩))
          refine awp_cond (b := false) (by simp [go_sem]) (fun h => by cases h) (fun _ => ?_)
          (repeat (first | refine awp_seq ?_ | refine awp_block ?_ | ((first | refine awp_runG [0, 1, 2, 3, 8, 9, 14, 34, 1000000, 1000001] hX ?_ | refine awp_drawnG [0, 1, 2, 3, 8, 9, 14, 34, 1000000, 1000001] hX mixed ?_ | refine awp_skip ?_ | refine awp_exit ?_); (simp [go_sem]; (try simp (disch := omega) only [w64, td, tm]); try (refine ⟨by kernel_rfl, ?_⟩)))))
          refine ⟨i + 1, by omega, by omega, ?_⟩
          rw [← hdone]
          refine sub_of _ [.old 0 ⟨3, 1, D1.map ii⟩, .old 1 ⟨24, 1, [bsl R]⟩] (by simp [go_sem]) ?_
          simp [go_sem]
          try omega
        | succ k =>
          have hks : k < s.length := by omega
          obtain ⟨p, hp⟩ : ∃ p, pre.length + k = p := ⟨_, rfl⟩
          have hp1 : pre.length + (k + 1) = p + 1 := by omega
          have hi1 : p + 1 < (rowX pre s x po (k + 1)).length := by omega
          have hi2 : p < (rowX pre s x po (k + 1)).length := by omega
          have hat : (rowX pre s x po (k + 1))[p + 1] = x := by
            have := rowX_at (pre := pre) (s := s) (x := x) (post := po) hk (by omega)
            simp only [hp1] at this; exact this
          have hpv : (rowX pre s x po (k + 1))[p] = s[k] := by
            have := rowX_prev (pre := pre) (s := s) (x := x) (post := po) hks (by omega)
            simp only [hp] at this; exact this
          have hsw := rowX_swap (pre := pre) (x := x) (post := po) hks
          rw [hp, hp1] at hsw
          have hy := hsm s[k] (List.getElem_mem hks)
          have ht1 : ((p : Int) + 1).toNat = p + 1 := by omega
          have hwp : IntKind.i64.wrap (p : Int) = (p : Int) := w64 (by omega) (by omega)
          have hgt : (pre.length : Int) < (p : Int) + 1 := by omega
          have hgt2 : pre.length < p + 1 := by omega
          have hpb : p + 1 ≤ 100000 := by omega
          have hcm := clo_m R hok x s[k] hxr ⟨hy.2.1, hy.2.2⟩
          have hneg := cmp_neg R x s[k]
          have hbef : bef (kf R) x s[k] ↔ cmpC R x s[k] < 0 := by rw [hneg]; unfold bef; omega
          have hdk : bef (kf R) x s[k] → ∀ e ∈ s.drop k, bef (kf R) x e := fun h e he => by
            rw [List.drop_eq_getElem_cons hks] at he
            rcases List.mem_cons.1 he with rfl | he
            · exact h
            · exact hd e he
          have hup : ¬ bef (kf R) x s[k] → ∀ e ∈ s.take (k + 1), bef (kf R) e x := fun h e he => by
            have hyx : bef (kf R) s[k] x := (bef_total (by omega)).resolve_left h
            rw [List.take_succ_eq_append_getElem hks] at he
            rcases List.mem_append.1 he with he | he
            · obtain ⟨j, hj, rfl⟩ := List.mem_take_iff_getElem.1 he
              exact bef_trans (List.pairwise_iff_getElem.1 hss j k (by omega) hks (by omega)) hyx
            · simp at he; rw [he]; exact hyx
          rw [hp1]
          obtain ⟨y, hye⟩ : ∃ y, s[k] = y := ⟨_, rfl⟩
          rw [hye] at hpv hsw hcm hbef hdk hup
          generalize rowX pre s x po (k + 1) = D1 at *
          have hzs : zoneEs (((D1.map ii).set (p + 1) (ii y)).set p (ii x)) = true := by
            rw [← List.map_set, ← List.map_set]; exact zoneEs_map _ _ (fun _ => rfl)
          have hns : nth ((D1.map ii).set (p + 1) (ii y)) p = ii y := by
            rw [← List.map_set, nth_map ii (by simpa using hi2), List.getElem_set_ne (by omega), hpv]
          (repeat (first | refine awp_seq ?_ | refine awp_block ?_ | ((first | refine awp_runG [0, 1, 2, 3, 8, 9, 14, 34, 1000000, 1000001] hX ?_ | refine awp_drawnG [0, 1, 2, 3, 8, 9, 14, 34, 1000000, 1000001] hX mixed ?_ | refine awp_skip ?_ | refine awp_exit ?_); (simp [go_sem, hi1, hi2, hat, hpv, ht1, hwp, hgt, hgt2]; try (refine ⟨by kernel_rfl, ?_⟩)))))
          (repeat refine And.intro (by first | omega | (unfold maxLen; omega) | kernel_rfl | (refine ⟨by first | omega | (unfold maxLen; omega), by first | omega | (unfold maxLen; omega)⟩) | grind) ?_)
          first | refine callHG_intro [1] (fun hg => hcm) (by simp [go_sem]) (by simp [go_sem]) ?_ | refine callHGT_intro [1] (fun hg => hcm) (by simp [go_sem]) ?_
          try (simp [go_sem, hi1, hi2, hat, hpv, ht1, hwp, hgt, hgt2]; try (refine ⟨by kernel_rfl, ?_⟩))
          refine awp_cond (b := decide (cmpC R x y < 0)) (by simp [go_sem]) (fun hd2 => ?_) (fun hd2 => ?_)
          · simp only [decide_eq_true_eq] at hd2
            (repeat (first | refine awp_seq ?_ | refine awp_block ?_ | ((first | refine awp_runG [0, 1, 2, 3, 8, 9, 14, 34, 1000000, 1000001] hX ?_ | refine awp_drawnG [0, 1, 2, 3, 8, 9, 14, 34, 1000000, 1000001] hX mixed ?_ | refine awp_skip ?_ | refine awp_exit ?_); (simp [go_sem, hi1, hi2, hat, hpv, ht1, hwp, hzs]; (try simp (disch := omega) only [w64, td, tm]); try (refine ⟨by kernel_rfl, ?_⟩)))))
            try (simp [go_sem, hi1, hi2, hat, hpv, ht1, hwp, hzs]; try (refine ⟨by kernel_rfl, ?_⟩))
            (repeat refine And.intro (by first | omega | (unfold maxLen; omega) | kernel_rfl | (refine ⟨by first | omega | (unfold maxLen; omega), by first | omega | (unfold maxLen; omega)⟩) | grind) ?_)
            (repeat (first | refine awp_seq ?_ | refine awp_block ?_ | ((first | refine awp_runG [0, 1, 2, 3, 8, 9, 14, 34, 1000000, 1000001] hX ?_ | refine awp_drawnG [0, 1, 2, 3, 8, 9, 14, 34, 1000000, 1000001] hX mixed ?_ | refine awp_skip ?_ | refine awp_exit ?_); (simp [go_sem, hi1, hi2, hat, hpv, ht1, hwp, hzs]; (try simp (disch := omega) only [w64, td, tm]); try (refine ⟨by kernel_rfl, ?_⟩)))))
            refine ⟨k, ⟨by omega, hdk (hbef.2 hd2)⟩, by omega, ?_⟩
            rw [← hsw]
            refine sub_of _ [.old 0 ⟨3, 1, ((D1.set (p + 1) y).set p x).map ii⟩, .old 1 ⟨24, 1, [bsl R]⟩] (by simp [go_sem, hns, hzs]) ?_
            simp [go_sem]
            try omega
          · simp only [decide_eq_false_iff_not] at hd2
            (repeat (first | refine awp_seq ?_ | refine awp_block ?_ | ((first | refine awp_runG [0, 1, 2, 3, 8, 9, 14, 34, 1000000, 1000001] hX ?_ | refine awp_drawnG [0, 1, 2, 3, 8, 9, 14, 34, 1000000, 1000001] hX mixed ?_ | refine awp_skip ?_ | refine awp_exit ?_); (simp [go_sem]; (try simp (disch := omega) only [w64, td, tm]); try (refine ⟨by kernel_rfl, ?_⟩)))))
            refine ⟨i + 1, by omega, by omega, ?_⟩
            rw [← done (hup fun h => hd2 (hbef.1 h))]
            refine sub_of _ [.old 0 ⟨3, 1, D1.map ii⟩, .old 1 ⟨24, 1, [bsl R]⟩] (by simp [go_sem]) ?_
            simp [go_sem]
            try omega
    · simp at hc
      have hd2 : r3 pre (srt (kf R) (l.take i)) (l.drop i ++ post) = r3 pre (srt (kf R) l) post := by
        rw [List.take_of_length_le (by omega), List.drop_of_length_le (by omega)]; rfl
      rw [hd2]
      (repeat (first | refine awp_seq ?_ | refine awp_block ?_ | ((first | refine awp_runG [0, 1, 2, 3, 8, 9, 14, 34, 1000000, 1000001] hX ?_ | refine awp_drawnG [0, 1, 2, 3, 8, 9, 14, 34, 1000000, 1000001] hX mixed ?_ | refine awp_skip ?_ | refine awp_exit ?_); (simp [go_sem]; try (refine ⟨by kernel_rfl, ?_⟩)))))
      (try refine awp_ret ?_); (try simp only [thenQ, blkQ, loopQ]); refine retH_normal [(1000000, .ow 0), (1000001, .ow 1)] [.old 0 ⟨3, 1, (r3 pre (srt (kf R) l) post).map ii⟩, .old 1 ⟨24, 1, [bsl R]⟩] ?_
      simp [go_sem]
end Go.Proofs.YthibhamepjhfjaaGreatDoor.B

