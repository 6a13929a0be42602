/-
  Layer 37: the law PremiumMore.
-/
import Derived.Test.YtlcmmaokfbjojaaPreE
set_option linter.all false
namespace Go.Proofs.Ytlcmmaokfbjojaa
open Go.RowKit Go.Ab
attribute [local irreducible] AWP Go.Ab.Sub Means MeansH CallK CallG CallT CallGT CallU

set_option maxHeartbeats 16000000 in
set_option maxRecDepth 20000 in
theorem premiumMore_m (C : List Int) (hl : C.length ≤ 9223372036854775807) (b : Int) (p : Int) (hp : 0 ≤ p ∧ p ≤ 255) : Means false Try.prog 4 [il C, ii b, .v (.int .u8 p)] (bb true) := by
  refine means_fn false 164 [.tmp 6] Try.func4 rfl rfl rfl (by simp) (by decide) rfl fun X hX => ?_
  (repeat (first | refine awp_seq ?_ | refine awp_block ?_ | ((first | refine awp_runG [0, 1, 2, 6, 7, 8, 9, 10, 11, 12, 13, 14, 15, 16, 17, 18, 19, 33, 50, 53, 58, 95, 108, 132, 135, 162] hX ?_ | refine awp_drawnG [0, 1, 2, 6, 7, 8, 9, 10, 11, 12, 13, 14, 15, 16, 17, 18, 19, 33, 50, 53, 58, 95, 108, 132, 135, 162] hX mixed ?_ | refine awp_ret ?_ | refine awp_skip ?_ | refine awp_exit ?_); (simp [go_sem]; try (refine ⟨by kernel_rfl, ?_⟩)))))
  first | refine callK_intro (small_m) rfl (by simp [go_sem]) rfl ?_ | refine callT_intro (small_m) rfl (by simp [go_sem]) rfl ?_
  try (simp [go_sem]; try (refine ⟨by kernel_rfl, ?_⟩))
  (repeat (first | refine awp_seq ?_ | refine awp_block ?_ | ((first | refine awp_runG [0, 1, 2, 6, 7, 8, 9, 10, 11, 12, 13, 14, 15, 16, 17, 18, 19, 33, 50, 53, 58, 95, 108, 132, 135, 162] hX ?_ | refine awp_drawnG [0, 1, 2, 6, 7, 8, 9, 10, 11, 12, 13, 14, 15, 16, 17, 18, 19, 33, 50, 53, 58, 95, 108, 132, 135, 162] hX mixed ?_ | refine awp_ret ?_ | refine awp_skip ?_ | refine awp_exit ?_); (simp [go_sem]; try (refine ⟨by kernel_rfl, ?_⟩)))))
  first | refine callG_intro (fun hg => rright_m C hl b) rfl (by simp [go_sem]) rfl ?_ | refine callGT_intro (fun hg => rright_m C hl b) rfl (by simp [go_sem]) rfl ?_
  try (simp [go_sem]; try (refine ⟨by kernel_rfl, ?_⟩))
  refine awp_cond (b := decide (20 < (C.length : Int)) || !rightP C b || decide (b < 1)) (by simp [go_sem, Bool.or_assoc]) (fun hb => ?_) (fun hb => ?_)
  · (repeat (first | refine awp_seq ?_ | refine awp_block ?_ | ((first | refine awp_runG [0, 1, 2, 6, 7, 8, 9, 10, 11, 12, 13, 14, 15, 16, 17, 18, 19, 33, 50, 53, 58, 95, 108, 132, 135, 162] hX ?_ | refine awp_drawnG [0, 1, 2, 6, 7, 8, 9, 10, 11, 12, 13, 14, 15, 16, 17, 18, 19, 33, 50, 53, 58, 95, 108, 132, 135, 162] hX mixed ?_ | refine awp_ret ?_ | refine awp_skip ?_ | refine awp_exit ?_); (simp [go_sem]; try (refine ⟨by kernel_rfl, ?_⟩)))))
  simp at hb
  obtain ⟨⟨h20, hr⟩, hb1⟩ := hb
  have R := right_RP hr
  have hlen := R.len
  have hsm := R.sum
  have hcoin := R.coin
  have hc0 : 0 < b * (C.length : Int) := Int.mul_pos (by omega) (by omega)
  have cr := rates_t C b _ hl hr rfl
  have hT := rts_len C b
  have hTa := fun i (h : i < C.length) (h' : i < (rts C b).length) => rts_at (b := b) h h'
  have hmem := fun i (h : i < C.length) => R.mem h
  have hrf := fun i (h : i < C.length) => rt_rf (c := b * C.length) (S := sumL (wts C)) (w := C[i] + 1) (R.prod (by have := R.mem h; omega)) hsm
  have hnth : ∀ k (h : k < (rts C b).length), nth ((rts C b).map fz) k = fz (rts C b)[k] := fun k h => nth_map fz h
  have hDl : ((rts C b).map fz).length = C.length := by rw [List.length_map, hT]
  have hcmp := fun w v => rt_cmp (c := b * C.length) (S := sumL (wts C)) (w := w) (v := v) hc0 (by omega)
  have hnD : ∀ k (h : k < C.length), nth ((rts C b).map fz) k = fz (rt (b * C.length) (sumL (wts C)) (C[k] + 1)) := fun k h => by rw [hnth k (by omega), hTa k h (by omega)]
  clear hnth hTa hT
  -- with one claim more
  have hmo : ∀ k (h : k < C.length), 2 ≤ C.length → C[k] < 1000 → ∃ D : List AV, D.length = C.length ∧ Means false Try.prog 8 [il (C.set k (C[k] + 1)), ii b] (.tup [.sl D, ii 0]) ∧
      ∀ i (hi : i < C.length), ∃ x y u v, nth D i = frZ x y ∧ nth ((rts C b).map fz) i = frZ u v ∧ rf x y ∧ rf u v ∧ (i = k → cmpI (x * v) (u * y) = 1) ∧ (i ≠ k → cmpI (x * v) (u * y) = -1) := by
    intro k hk h2 h1
    obtain ⟨m1, m2⟩ := more_right hr hk h1
    have R2 := right_RP m1
    have s2 := R2.sum
    refine ⟨(rts (C.set k (C[k] + 1)) b).map fz, by rw [List.length_map, rts_len, List.length_set], rates_t _ b _ (by rw [List.length_set]; exact hl) m1 rfl, fun i hi => ?_⟩
    have hi2 : i < (C.set k (C[k] + 1)).length := by rw [List.length_set]; exact hi
    have e1 : nth ((rts (C.set k (C[k] + 1)) b).map fz) i = fz ((rts (C.set k (C[k] + 1)) b)[i]'(by rw [rts_len]; exact hi2)) := nth_map fz (by rw [rts_len]; exact hi2)
    rw [rts_at hi2 (by rw [rts_len]; exact hi2), List.length_set, m2, List.getElem_set] at e1
    have hmi := R.mem hi
    have hml := mem_lt R h2 hk
    have hmk := R.mem hk
    rw [m2] at s2
    have hpr := fun w hw => R.prod (w := w) hw
    refine ⟨_, _, _, _, e1, hnD i hi, rt_rf (hpr _ (by split <;> omega)) s2, hrf i hi, fun q => ?_, fun q => ?_⟩
    · subst q
      rw [if_pos rfl]
      have := rt_more (c := b * C.length) (S := sumL (wts C)) (w := C[i] + 1) (v := C[i] + 1 + 1) hc0 (by omega)
      rw [this]
      refine cmpI_two ?_
      have : ∀ x : Int, x < sumL (wts C) → x * (sumL (wts C) + 1) < (x + 1) * sumL (wts C) := fun x h => by rw [Int.mul_add, Int.add_mul, Int.mul_one, Int.one_mul]; omega
      exact this _ hml
    · rw [if_neg (fun r => q r.symm)]
      have := rt_more (c := b * C.length) (S := sumL (wts C)) (w := C[i] + 1) (v := C[i] + 1) hc0 (by omega)
      rw [this]
      refine cmpI_one ?_
      rw [Int.mul_add, Int.mul_one]
      omega
  generalize (rts C b).map fz = D at *
  generalize b * (C.length : Int) = c at *
  generalize sumL (wts C) = S at *
  (repeat (first | refine awp_seq ?_ | refine awp_block ?_ | ((first | refine awp_runG [0, 1, 2, 6, 7, 8, 9, 10, 11, 12, 13, 14, 15, 16, 17, 18, 19, 33, 50, 53, 58, 95, 108, 132, 135, 162] hX ?_ | refine awp_drawnG [0, 1, 2, 6, 7, 8, 9, 10, 11, 12, 13, 14, 15, 16, 17, 18, 19, 33, 50, 53, 58, 95, 108, 132, 135, 162] hX mixed ?_ | refine awp_ret ?_ | refine awp_skip ?_ | refine awp_exit ?_); (simp [go_sem]; try (refine ⟨by kernel_rfl, ?_⟩)))))
  first | refine callK_intro (cr) rfl (by simp [go_sem]) rfl ?_ | refine callT_intro (cr) rfl (by simp [go_sem]) rfl ?_
  try (simp [go_sem]; try (refine ⟨by kernel_rfl, ?_⟩))
  (repeat (first | refine awp_seq ?_ | refine awp_block ?_ | ((first | refine awp_runG [0, 1, 2, 6, 7, 8, 9, 10, 11, 12, 13, 14, 15, 16, 17, 18, 19, 33, 50, 53, 58, 95, 108, 132, 135, 162] hX ?_ | refine awp_drawnG [0, 1, 2, 6, 7, 8, 9, 10, 11, 12, 13, 14, 15, 16, 17, 18, 19, 33, 50, 53, 58, 95, 108, 132, 135, 162] hX mixed ?_ | refine awp_ret ?_ | refine awp_skip ?_ | refine awp_exit ?_); (simp [go_sem, hDl]; try (refine ⟨by kernel_rfl, ?_⟩)))))
  refine awp_cond (b := false) (by simp [go_sem, hDl]) (fun h => by cases h) (fun _ => ?_)
  (repeat (first | refine awp_seq ?_ | refine awp_block ?_ | ((first | refine awp_runG [0, 1, 2, 6, 7, 8, 9, 10, 11, 12, 13, 14, 15, 16, 17, 18, 19, 33, 50, 53, 58, 95, 108, 132, 135, 162] hX ?_ | refine awp_drawnG [0, 1, 2, 6, 7, 8, 9, 10, 11, 12, 13, 14, 15, 16, 17, 18, 19, 33, 50, 53, 58, 95, 108, 132, 135, 162] hX mixed ?_ | refine awp_ret ?_ | refine awp_skip ?_ | refine awp_exit ?_); (simp [go_sem]; try (refine ⟨by kernel_rfl, ?_⟩)))))
  refine awp_loop (fun i : Nat => ⟨mkE [(0, il C), (1, ii b), (2, .v (.int .u8 p)), (7, bb true), (8, ii C.length), (9, .sl D), (11, ii i)], []⟩) (fun i => i ≤ C.length) (fun i => C.length - i) 0 ?_ ?_ ?_
  · refine sub_of _ [] (by simp [go_sem]) ?_
    simp [go_sem]
  · omega
  · intro i hi
    have wi := w64 (x := (i : Int) + 1) (by omega) (by omega)
    (repeat (first | refine awp_seq ?_ | refine awp_block ?_ | ((first | refine awp_runG [0, 1, 2, 6, 7, 8, 9, 10, 11, 12, 13, 14, 15, 16, 17, 18, 19, 33, 50, 53, 58, 95, 108, 132, 135, 162] hX ?_ | refine awp_drawnG [0, 1, 2, 6, 7, 8, 9, 10, 11, 12, 13, 14, 15, 16, 17, 18, 19, 33, 50, 53, 58, 95, 108, 132, 135, 162] hX mixed ?_ | refine awp_ret ?_ | refine awp_skip ?_ | refine awp_exit ?_); (simp [go_sem]; try (refine ⟨by kernel_rfl, ?_⟩)))))
    refine awp_cond (b := decide (i < C.length)) (by simp [go_sem]) (fun hd => ?_) (fun hd => ?_)
    · simp at hd
      have hiD : i < D.length := by omega
      have n1 := hnD i hd
      have f1 := hrf i hd
      (repeat (first | refine awp_seq ?_ | refine awp_block ?_ | ((first | refine awp_runG [0, 1, 2, 6, 7, 8, 9, 10, 11, 12, 13, 14, 15, 16, 17, 18, 19, 33, 50, 53, 58, 95, 108, 132, 135, 162] hX ?_ | refine awp_drawnG [0, 1, 2, 6, 7, 8, 9, 10, 11, 12, 13, 14, 15, 16, 17, 18, 19, 33, 50, 53, 58, 95, 108, 132, 135, 162] hX mixed ?_ | refine awp_ret ?_ | refine awp_skip ?_ | refine awp_exit ?_); (simp [go_sem]; try (refine ⟨by kernel_rfl, ?_⟩)))))
      refine awp_loop (fun k : Nat => ⟨mkE [(0, il C), (1, ii b), (2, .v (.int .u8 p)), (7, bb true), (8, ii C.length), (9, .sl D), (11, ii i), (12, ii k)], []⟩) (fun k => k ≤ C.length) (fun k => C.length - k) 0 ?_ ?_ ?_
      · refine sub_of _ [] (by simp [go_sem]) ?_
        simp [go_sem]
      · omega
      · intro k hk
        have wk := w64 (x := (k : Int) + 1) (by omega) (by omega)
        (repeat (first | refine awp_seq ?_ | refine awp_block ?_ | ((first | refine awp_runG [0, 1, 2, 6, 7, 8, 9, 10, 11, 12, 13, 14, 15, 16, 17, 18, 19, 33, 50, 53, 58, 95, 108, 132, 135, 162] hX ?_ | refine awp_drawnG [0, 1, 2, 6, 7, 8, 9, 10, 11, 12, 13, 14, 15, 16, 17, 18, 19, 33, 50, 53, 58, 95, 108, 132, 135, 162] hX mixed ?_ | refine awp_ret ?_ | refine awp_skip ?_ | refine awp_exit ?_); (simp [go_sem]; try (refine ⟨by kernel_rfl, ?_⟩)))))
        refine awp_cond (b := decide (k < C.length)) (by simp [go_sem]) (fun he => ?_) (fun he => ?_)
        · simp at he
          have hkD : k < D.length := by omega
          have n2 := hnD k he
          have f2 := hrf k he
          have hcc := hcmp (C[i] + 1) (C[k] + 1)
          have cC := Compare_f _ _ _ _ f1 f2
          rw [hcc] at cC
          obtain ⟨x, hx⟩ : ∃ x, C[i] = x := ⟨_, rfl⟩
          obtain ⟨y, hy⟩ : ∃ y, C[k] = y := ⟨_, rfl⟩
          rw [hx] at n1 cC
          rw [hy] at n2 cC
          have g1 := cmpI_lt (x := y + 1) (y := x + 1)
          have g2 := cmpI_zero (x + 1) (y + 1)
          have g3 := cmpI_neg (y + 1) (x + 1)
          have g4 := cmpI_bd (x + 1) (y + 1)
          generalize rt c S (x + 1) = u at *
          generalize rt c S (y + 1) = v at *
          generalize cmpI (x + 1) (y + 1) = z at *
          (repeat (first | refine awp_seq ?_ | refine awp_block ?_ | ((first | refine awp_runG [0, 1, 2, 6, 7, 8, 9, 10, 11, 12, 13, 14, 15, 16, 17, 18, 19, 33, 50, 53, 58, 95, 108, 132, 135, 162] hX ?_ | refine awp_drawnG [0, 1, 2, 6, 7, 8, 9, 10, 11, 12, 13, 14, 15, 16, 17, 18, 19, 33, 50, 53, 58, 95, 108, 132, 135, 162] hX mixed ?_ | refine awp_ret ?_ | refine awp_skip ?_ | refine awp_exit ?_); (simp [go_sem, hiD, hkD, n1, n2]; try (refine ⟨by kernel_rfl, ?_⟩)))))
          first | refine callK_intro (cC) rfl (by simp [go_sem]) rfl ?_ | refine callT_intro (cC) rfl (by simp [go_sem]) rfl ?_
          try (simp [go_sem]; try (refine ⟨by kernel_rfl, ?_⟩))
          (repeat (first | refine awp_seq ?_ | refine awp_block ?_ | ((first | refine awp_runG [0, 1, 2, 6, 7, 8, 9, 10, 11, 12, 13, 14, 15, 16, 17, 18, 19, 33, 50, 53, 58, 95, 108, 132, 135, 162] hX ?_ | refine awp_drawnG [0, 1, 2, 6, 7, 8, 9, 10, 11, 12, 13, 14, 15, 16, 17, 18, 19, 33, 50, 53, 58, 95, 108, 132, 135, 162] hX mixed ?_ | refine awp_ret ?_ | refine awp_skip ?_ | refine awp_exit ?_); (simp [go_sem, hd, he, hx, hy]; try (refine ⟨by kernel_rfl, ?_⟩)))))
          try (repeat refine And.intro (by first | omega | (unfold maxLen; omega) | kernel_rfl | (refine ⟨by first | omega | (unfold maxLen; omega), by first | omega | (unfold maxLen; omega)⟩) | grind) ?_)
          refine awp_cond (b := false) (by simp [go_sem, hd, he, hx, hy]; try grind) (fun h => by cases h) (fun _ => ?_)
          (repeat (first | refine awp_seq ?_ | refine awp_block ?_ | ((first | refine awp_runG [0, 1, 2, 6, 7, 8, 9, 10, 11, 12, 13, 14, 15, 16, 17, 18, 19, 33, 50, 53, 58, 95, 108, 132, 135, 162] hX ?_ | refine awp_drawnG [0, 1, 2, 6, 7, 8, 9, 10, 11, 12, 13, 14, 15, 16, 17, 18, 19, 33, 50, 53, 58, 95, 108, 132, 135, 162] hX mixed ?_ | refine awp_ret ?_ | refine awp_skip ?_ | refine awp_exit ?_); (simp [go_sem, wk]; try (refine ⟨by kernel_rfl, ?_⟩)))))
          refine ⟨k + 1, by omega, by omega, ?_⟩
          refine sub_of _ [] (by simp [go_sem]) ?_
          simp [go_sem]
        · (repeat (first | refine awp_seq ?_ | refine awp_block ?_ | ((first | refine awp_runG [0, 1, 2, 6, 7, 8, 9, 10, 11, 12, 13, 14, 15, 16, 17, 18, 19, 33, 50, 53, 58, 95, 108, 132, 135, 162] hX ?_ | refine awp_drawnG [0, 1, 2, 6, 7, 8, 9, 10, 11, 12, 13, 14, 15, 16, 17, 18, 19, 33, 50, 53, 58, 95, 108, 132, 135, 162] hX mixed ?_ | refine awp_ret ?_ | refine awp_skip ?_ | refine awp_exit ?_); (simp [go_sem, wi]; try (refine ⟨by kernel_rfl, ?_⟩)))))
          refine ⟨i + 1, by omega, by omega, ?_⟩
          refine sub_of _ [] (by simp [go_sem]) ?_
          simp [go_sem]
    · have hn0 : ¬ (C.length : Int) = 0 := by omega
      have hn00 : ¬ C.length = 0 := by omega
      have htm : p.tmod (C.length : Int) = p % (C.length : Int) := Int.tmod_eq_emod_of_nonneg (by omega)
      have m0 := Int.emod_nonneg p (show (C.length : Int) ≠ 0 by omega)
      have m1 := Int.emod_lt_of_pos p (show (0 : Int) < C.length by omega)
      obtain ⟨k, hk⟩ : ∃ k : Nat, p % (C.length : Int) = k := ⟨(p % (C.length : Int)).toNat, by omega⟩
      rw [hk] at htm m0 m1
      have hkC : k < C.length := by omega
      have wk := w64 (x := (k : Int)) (by omega) (by omega)
      have wp := w64 (x := p) (by omega) (by omega)
      obtain ⟨x, hx⟩ : ∃ x, C[k] = x := ⟨_, rfl⟩
      have hxb := hmem k hkC
      rw [hx] at hxb
      (repeat (first | refine awp_seq ?_ | refine awp_block ?_ | ((first | refine awp_runG [0, 1, 2, 6, 7, 8, 9, 10, 11, 12, 13, 14, 15, 16, 17, 18, 19, 33, 50, 53, 58, 95, 108, 132, 135, 162] hX ?_ | refine awp_drawnG [0, 1, 2, 6, 7, 8, 9, 10, 11, 12, 13, 14, 15, 16, 17, 18, 19, 33, 50, 53, 58, 95, 108, 132, 135, 162] hX mixed ?_ | refine awp_ret ?_ | refine awp_skip ?_ | refine awp_exit ?_); (simp [go_sem, wp, hn0, hn00, htm, wk, hkC, hx]; try (refine ⟨by kernel_rfl, ?_⟩)))))
      refine awp_cond (b := decide ((C.length : Int) < 2) || decide (1000 ≤ x)) (by simp [go_sem, hkC, hx]) (fun hf => ?_) (fun hf => ?_)
      · (repeat (first | refine awp_seq ?_ | refine awp_block ?_ | ((first | refine awp_runG [0, 1, 2, 6, 7, 8, 9, 10, 11, 12, 13, 14, 15, 16, 17, 18, 19, 33, 50, 53, 58, 95, 108, 132, 135, 162] hX ?_ | refine awp_drawnG [0, 1, 2, 6, 7, 8, 9, 10, 11, 12, 13, 14, 15, 16, 17, 18, 19, 33, 50, 53, 58, 95, 108, 132, 135, 162] hX mixed ?_ | refine awp_ret ?_ | refine awp_skip ?_ | refine awp_exit ?_); (simp [go_sem]; try (refine ⟨by kernel_rfl, ?_⟩)))))
      simp at hf
      obtain ⟨D', hD'l, cr', hcm⟩ := hmo k hkC (by omega) (by rw [hx]; omega)
      have eil : il (C.set k (x + 1)) = .sl ((C.map ii).set k (ii (x + 1))) := by show AV.sl _ = _; rw [List.map_set]
      rw [hx, eil] at cr'
      have wx := w64 (x := x + 1) (by omega) (by omega)
      (repeat (first | refine awp_seq ?_ | refine awp_block ?_ | ((first | refine awp_runG [0, 1, 2, 6, 7, 8, 9, 10, 11, 12, 13, 14, 15, 16, 17, 18, 19, 33, 50, 53, 58, 95, 108, 132, 135, 162] hX ?_ | refine awp_drawnG [0, 1, 2, 6, 7, 8, 9, 10, 11, 12, 13, 14, 15, 16, 17, 18, 19, 33, 50, 53, 58, 95, 108, 132, 135, 162] hX mixed ?_ | refine awp_ret ?_ | refine awp_skip ?_ | refine awp_exit ?_); (simp [go_sem, hkC, hx, wx]; try (refine ⟨by kernel_rfl, ?_⟩)))))
      try (repeat refine And.intro (by first | omega | (unfold maxLen; omega) | kernel_rfl | (refine ⟨by first | omega | (unfold maxLen; omega), by first | omega | (unfold maxLen; omega)⟩) | grind) ?_)
      try (repeat (first | refine awp_seq ?_ | refine awp_block ?_ | ((first | refine awp_runG [0, 1, 2, 6, 7, 8, 9, 10, 11, 12, 13, 14, 15, 16, 17, 18, 19, 33, 50, 53, 58, 95, 108, 132, 135, 162] hX ?_ | refine awp_drawnG [0, 1, 2, 6, 7, 8, 9, 10, 11, 12, 13, 14, 15, 16, 17, 18, 19, 33, 50, 53, 58, 95, 108, 132, 135, 162] hX mixed ?_ | refine awp_ret ?_ | refine awp_skip ?_ | refine awp_exit ?_); (simp [go_sem, hkC, hx, wx]; try (refine ⟨by kernel_rfl, ?_⟩)))))
      try (repeat refine And.intro (by first | omega | (unfold maxLen; omega) | kernel_rfl | (refine ⟨by first | omega | (unfold maxLen; omega), by first | omega | (unfold maxLen; omega)⟩) | grind) ?_)
      try (repeat (first | refine awp_seq ?_ | refine awp_block ?_ | ((first | refine awp_runG [0, 1, 2, 6, 7, 8, 9, 10, 11, 12, 13, 14, 15, 16, 17, 18, 19, 33, 50, 53, 58, 95, 108, 132, 135, 162] hX ?_ | refine awp_drawnG [0, 1, 2, 6, 7, 8, 9, 10, 11, 12, 13, 14, 15, 16, 17, 18, 19, 33, 50, 53, 58, 95, 108, 132, 135, 162] hX mixed ?_ | refine awp_ret ?_ | refine awp_skip ?_ | refine awp_exit ?_); (simp [go_sem, hkC, hx, wx]; try (refine ⟨by kernel_rfl, ?_⟩)))))
      refine callKk_intro (cr') rfl rfl ?_
      try (simp [go_sem]; try (refine ⟨by kernel_rfl, ?_⟩))
      (repeat (first | refine awp_seq ?_ | refine awp_block ?_ | ((first | refine awp_runG [0, 1, 2, 6, 7, 8, 9, 10, 11, 12, 13, 14, 15, 16, 17, 18, 19, 33, 50, 53, 58, 95, 108, 132, 135, 162] hX ?_ | refine awp_drawnG [0, 1, 2, 6, 7, 8, 9, 10, 11, 12, 13, 14, 15, 16, 17, 18, 19, 33, 50, 53, 58, 95, 108, 132, 135, 162] hX mixed ?_ | refine awp_ret ?_ | refine awp_skip ?_ | refine awp_exit ?_); (simp [go_sem, hD'l]; try (refine ⟨by kernel_rfl, ?_⟩)))))
      refine awp_cond (b := false) (by simp [go_sem, hD'l]) (fun h => by cases h) (fun _ => ?_)
      (repeat (first | refine awp_seq ?_ | refine awp_block ?_ | ((first | refine awp_runG [0, 1, 2, 6, 7, 8, 9, 10, 11, 12, 13, 14, 15, 16, 17, 18, 19, 33, 50, 53, 58, 95, 108, 132, 135, 162] hX ?_ | refine awp_drawnG [0, 1, 2, 6, 7, 8, 9, 10, 11, 12, 13, 14, 15, 16, 17, 18, 19, 33, 50, 53, 58, 95, 108, 132, 135, 162] hX mixed ?_ | refine awp_ret ?_ | refine awp_skip ?_ | refine awp_exit ?_); (simp [go_sem]; try (refine ⟨by kernel_rfl, ?_⟩)))))
      refine awp_loop (fun j : Nat => ⟨mkE [(7, bb true), (8, ii C.length), (9, .sl D), (14, ii k), (16, .sl D'), (18, ii j)], []⟩) (fun j => j ≤ C.length) (fun j => C.length - j) 0 ?_ ?_ ?_
      · refine sub_of _ [] (by simp [go_sem]) ?_
        simp [go_sem]
      · omega
      · intro j hj
        have wj := w64 (x := (j : Int) + 1) (by omega) (by omega)
        (repeat (first | refine awp_seq ?_ | refine awp_block ?_ | ((first | refine awp_runG [0, 1, 2, 6, 7, 8, 9, 10, 11, 12, 13, 14, 15, 16, 17, 18, 19, 33, 50, 53, 58, 95, 108, 132, 135, 162] hX ?_ | refine awp_drawnG [0, 1, 2, 6, 7, 8, 9, 10, 11, 12, 13, 14, 15, 16, 17, 18, 19, 33, 50, 53, 58, 95, 108, 132, 135, 162] hX mixed ?_ | refine awp_ret ?_ | refine awp_skip ?_ | refine awp_exit ?_); (simp [go_sem]; try (refine ⟨by kernel_rfl, ?_⟩)))))
        refine awp_cond (b := decide (j < C.length)) (by simp [go_sem]) (fun he => ?_) (fun he => ?_)
        · simp at he
          have hjD : j < D.length := by omega
          have hjD' : j < D'.length := by omega
          obtain ⟨x1, y1, x2, y2, n1, n2, f1, f2, g1, g2⟩ := hcm j he
          have cC := Compare_f _ _ _ _ f1 f2
          generalize cmpI (x1 * y2) (x2 * y1) = z at *
          have hjk : (j : Int) = k ↔ j = k := by omega
          (repeat (first | refine awp_seq ?_ | refine awp_block ?_ | ((first | refine awp_runG [0, 1, 2, 6, 7, 8, 9, 10, 11, 12, 13, 14, 15, 16, 17, 18, 19, 33, 50, 53, 58, 95, 108, 132, 135, 162] hX ?_ | refine awp_drawnG [0, 1, 2, 6, 7, 8, 9, 10, 11, 12, 13, 14, 15, 16, 17, 18, 19, 33, 50, 53, 58, 95, 108, 132, 135, 162] hX mixed ?_ | refine awp_ret ?_ | refine awp_skip ?_ | refine awp_exit ?_); (simp [go_sem, hjD, hjD', n1, n2]; try (refine ⟨by kernel_rfl, ?_⟩)))))
          first | refine callK_intro (cC) rfl (by simp [go_sem]) rfl ?_ | refine callT_intro (cC) rfl (by simp [go_sem]) rfl ?_
          try (simp [go_sem]; try (refine ⟨by kernel_rfl, ?_⟩))
          (repeat (first | refine awp_seq ?_ | refine awp_block ?_ | ((first | refine awp_runG [0, 1, 2, 6, 7, 8, 9, 10, 11, 12, 13, 14, 15, 16, 17, 18, 19, 33, 50, 53, 58, 95, 108, 132, 135, 162] hX ?_ | refine awp_drawnG [0, 1, 2, 6, 7, 8, 9, 10, 11, 12, 13, 14, 15, 16, 17, 18, 19, 33, 50, 53, 58, 95, 108, 132, 135, 162] hX mixed ?_ | refine awp_ret ?_ | refine awp_skip ?_ | refine awp_exit ?_); (simp [go_sem]; try (refine ⟨by kernel_rfl, ?_⟩)))))
          try (repeat refine And.intro (by first | omega | (unfold maxLen; omega) | kernel_rfl | (refine ⟨by first | omega | (unfold maxLen; omega), by first | omega | (unfold maxLen; omega)⟩) | grind) ?_)
          refine awp_cond (b := false) (by
            by_cases q : j = k
            · have := g1 q; subst this; simp [go_sem, q]
            · have := g2 q; subst this; simp [go_sem, q, hjk]) (fun h => by cases h) (fun _ => ?_)
          (repeat (first | refine awp_seq ?_ | refine awp_block ?_ | ((first | refine awp_runG [0, 1, 2, 6, 7, 8, 9, 10, 11, 12, 13, 14, 15, 16, 17, 18, 19, 33, 50, 53, 58, 95, 108, 132, 135, 162] hX ?_ | refine awp_drawnG [0, 1, 2, 6, 7, 8, 9, 10, 11, 12, 13, 14, 15, 16, 17, 18, 19, 33, 50, 53, 58, 95, 108, 132, 135, 162] hX mixed ?_ | refine awp_ret ?_ | refine awp_skip ?_ | refine awp_exit ?_); (simp [go_sem, wj]; try (refine ⟨by kernel_rfl, ?_⟩)))))
          refine ⟨j + 1, by omega, by omega, ?_⟩
          refine sub_of _ [] (by simp [go_sem]) ?_
          simp [go_sem]
        · (repeat (first | refine awp_seq ?_ | refine awp_block ?_ | ((first | refine awp_runG [0, 1, 2, 6, 7, 8, 9, 10, 11, 12, 13, 14, 15, 16, 17, 18, 19, 33, 50, 53, 58, 95, 108, 132, 135, 162] hX ?_ | refine awp_drawnG [0, 1, 2, 6, 7, 8, 9, 10, 11, 12, 13, 14, 15, 16, 17, 18, 19, 33, 50, 53, 58, 95, 108, 132, 135, 162] hX mixed ?_ | refine awp_ret ?_ | refine awp_skip ?_ | refine awp_exit ?_); (simp [go_sem]; try (refine ⟨by kernel_rfl, ?_⟩)))))

end Go.Proofs.Ytlcmmaokfbjojaa
