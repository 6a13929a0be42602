/-
  The walks of the laws of layer 14: joins, errors.
-/
import Derived.Test.YtgkafceckdoabaaDoorLexK
set_option linter.all false
namespace Go.Proofs.YtgkafceckdoabaaDoor
open Go.RowKit Go.Ab
attribute [local irreducible] AWP Go.Ab.Sub Means MeansH CallK CallG CallT CallGT

theorem sep_of {w : Int} (h0 : 0 ≤ w) : ∃ (q : Nat) (c : UInt8), isBlank c = true ∧ w.tmod 3 = q ∧ q ≤ 2 ∧ (([9, 10, 32] : By).take (q + 1)).drop q = [c] := by
  have h1 : w.tmod 3 = w % 3 := Int.tmod_eq_emod_of_nonneg h0
  have h2 : 0 ≤ w % 3 ∧ w % 3 < 3 := ⟨Int.emod_nonneg _ (by decide), Int.emod_lt_of_pos _ (by decide)⟩
  obtain ⟨q, hq⟩ : ∃ q : Nat, w % 3 = q := ⟨(w % 3).toNat, by omega⟩
  have hq3 : q = 0 ∨ q = 1 ∨ q = 2 := by omega
  rw [h1, hq]
  rcases hq3 with rfl | rfl | rfl
  · exact ⟨0, 9, by decide, rfl, by decide, by decide⟩
  · exact ⟨1, 10, by decide, rfl, by decide, by decide⟩
  · exact ⟨2, 32, by decide, rfl, by decide, by decide⟩

set_option maxHeartbeats 4000000 in
set_option maxRecDepth 20000 in
theorem lexErrors_m (s : By) (hs : s.length ≤ maxLen) : Means false Tryd.prog 7 [ss s] (bb true) := by
  have hs0 : s.length ≤ 9223372036854775807 := by unfold maxLen at hs; omega
  have h9 : (s.take 900).length ≤ 900 := by rw [List.length_take]; exact Nat.min_le_left _ _
  generalize hc : s.take 900 = l at h9
  have hcut := cut_m s hs0
  rw [hc] at hcut
  have hl := lex_m l
  have hl2 := lex_m (l ++ List.replicate (2000 - l.length) 32)
  have hl3 := lex_m (l ++ List.replicate (2001 - l.length) 32)
  have h3 : lexAV (l ++ List.replicate (2001 - l.length) 32) = .tup [.sl [], ii 0, ii 6] := by
    rw [lexAV, if_pos]
    simp only [List.length_append, List.length_replicate]; omega
  have hll : (l ++ List.replicate (2000 - l.length) (32 : UInt8)).length ≤ 2000 := by simp only [List.length_append, List.length_replicate]; omega
  have happ : lexA (l ++ List.replicate (2000 - l.length) 32) 0 = (lexA l 0).join (.ok [⟨0, [], 0, 2000⟩]) := by
    rw [show 2000 - l.length = (1999 - l.length) + 1 by omega, List.replicate_succ, lexA_app (by decide), lexA_blanks]
    rw [show ((0 + l.length + 1 : Nat) : Int) + ((1999 - l.length : Nat) : Int) = 2000 by omega]
  rw [h3] at hl3
  refine means_fn false 131 [.tmp 2] Tryd.func7 rfl rfl rfl (by simp) (by decide) rfl fun X hX => ?_
  (repeat (first | refine awp_seq ?_ | refine awp_block ?_ | (refine awp_runG [0, 2, 3, 4, 5, 6, 7, 8, 9, 11, 13, 14, 17, 19, 20, 32, 77, 79, 100] hX ?_; (simp [go_sem]; try (refine ⟨by kernel_rfl, ?_⟩))) | (refine awp_drawnG [0, 2, 3, 4, 5, 6, 7, 8, 9, 11, 13, 14, 17, 19, 20, 32, 77, 79, 100] hX mixed ?_; (simp [go_sem]; try (refine ⟨by kernel_rfl, ?_⟩))) | (refine awp_ret ?_; (simp [go_sem]; try (refine ⟨by kernel_rfl, ?_⟩))) | (refine awp_skip ?_; (simp [go_sem]; try (refine ⟨by kernel_rfl, ?_⟩))) | (refine awp_exit ?_; (simp [go_sem]; try (refine ⟨by kernel_rfl, ?_⟩)))))
  first | refine callK_intro (small_m) rfl (by simp [go_sem]) rfl ?_ | refine callT_intro (small_m) rfl (by simp [go_sem]) rfl ?_
  try (simp [go_sem]; try (refine ⟨by kernel_rfl, ?_⟩))
  (repeat (first | refine awp_seq ?_ | refine awp_block ?_ | (refine awp_runG [0, 2, 3, 4, 5, 6, 7, 8, 9, 11, 13, 14, 17, 19, 20, 32, 77, 79, 100] hX ?_; (simp [go_sem]; try (refine ⟨by kernel_rfl, ?_⟩))) | (refine awp_drawnG [0, 2, 3, 4, 5, 6, 7, 8, 9, 11, 13, 14, 17, 19, 20, 32, 77, 79, 100] hX mixed ?_; (simp [go_sem]; try (refine ⟨by kernel_rfl, ?_⟩))) | (refine awp_ret ?_; (simp [go_sem]; try (refine ⟨by kernel_rfl, ?_⟩))) | (refine awp_skip ?_; (simp [go_sem]; try (refine ⟨by kernel_rfl, ?_⟩))) | (refine awp_exit ?_; (simp [go_sem]; try (refine ⟨by kernel_rfl, ?_⟩)))))
  first | refine callK_intro (hcut) rfl (by simp [go_sem]) rfl ?_ | refine callT_intro (hcut) rfl (by simp [go_sem]) rfl ?_
  try (simp [go_sem]; try (refine ⟨by kernel_rfl, ?_⟩))
  (repeat (first | refine awp_seq ?_ | refine awp_block ?_ | (refine awp_runG [0, 2, 3, 4, 5, 6, 7, 8, 9, 11, 13, 14, 17, 19, 20, 32, 77, 79, 100] hX ?_; (simp [go_sem]; try (refine ⟨by kernel_rfl, ?_⟩))) | (refine awp_drawnG [0, 2, 3, 4, 5, 6, 7, 8, 9, 11, 13, 14, 17, 19, 20, 32, 77, 79, 100] hX mixed ?_; (simp [go_sem]; try (refine ⟨by kernel_rfl, ?_⟩))) | (refine awp_ret ?_; (simp [go_sem]; try (refine ⟨by kernel_rfl, ?_⟩))) | (refine awp_skip ?_; (simp [go_sem]; try (refine ⟨by kernel_rfl, ?_⟩))) | (refine awp_exit ?_; (simp [go_sem]; try (refine ⟨by kernel_rfl, ?_⟩)))))
  have fillI : ∀ j, j ≤ 8 → 10 * 2 ^ j ≤ 2560 := fun j hj => by
    have : 2 ^ j ≤ 2 ^ 8 := Nat.pow_le_pow_right (by decide) hj
    omega
  have fillL : ∀ j, j ≤ 7 → 10 * 2 ^ j ≤ 1280 := fun j hj => by
    have : 2 ^ j ≤ 2 ^ 7 := Nat.pow_le_pow_right (by decide) hj
    omega
  have tk1 : ∀ (n m : Nat), m ≤ n → (List.replicate n (32 : UInt8)).take m = List.replicate m 32 := fun n m h => by rw [List.take_replicate, Nat.min_eq_left h]
  cases hx : lexA l 0 with
  | err i e =>
    obtain ⟨_, hi, he, ⟨us, h5⟩, h6⟩ := lexA_errs l hx
    rw [Nat.sub_zero] at hi h5 h6
    have he0 : e ≠ 0 := by omega
    have he6 : ¬ (e ≠ 11 ∧ e ≠ 13 ∧ e ≠ 3) := by omega
    rw [lexAV_err (by omega) hx] at hl
    rw [lexAV_err hll (i := i) (e := e) (by rw [happ, hx]; rfl)] at hl2
    have hl5 := lex_m (l.take i)
    have hl6 := lex_m (l.drop i)
    rw [lexAV_ok (by rw [List.length_take]; omega) h5] at hl5
    rw [lexAV_err (by rw [List.length_drop]; omega) (h6 0)] at hl6
    first | refine callK_intro (hl) rfl (by simp [go_sem]) rfl ?_ | refine callT_intro (hl) rfl (by simp [go_sem]) rfl ?_
    try (simp [go_sem]; try (refine ⟨by kernel_rfl, ?_⟩))
    (repeat (first | refine awp_seq ?_ | refine awp_block ?_ | (refine awp_runG [0, 2, 3, 4, 5, 6, 7, 8, 9, 11, 13, 14, 17, 19, 20, 32, 77, 79, 100] hX ?_; (simp [go_sem]; try (refine ⟨by kernel_rfl, ?_⟩))) | (refine awp_drawnG [0, 2, 3, 4, 5, 6, 7, 8, 9, 11, 13, 14, 17, 19, 20, 32, 77, 79, 100] hX mixed ?_; (simp [go_sem]; try (refine ⟨by kernel_rfl, ?_⟩))) | (refine awp_ret ?_; (simp [go_sem]; try (refine ⟨by kernel_rfl, ?_⟩))) | (refine awp_skip ?_; (simp [go_sem]; try (refine ⟨by kernel_rfl, ?_⟩))) | (refine awp_exit ?_; (simp [go_sem]; try (refine ⟨by kernel_rfl, ?_⟩)))))
    refine awp_loop (fun j : Nat => ⟨mkE [(3, bb true), (4, ss l), (5, .sl []), (6, ii i), (7, ii e), (8, ss (List.replicate (10 * 2 ^ j) 32))], []⟩) (fun j => j ≤ 8) (fun j => 8 - j) 0 ?_ ?_ ?_
    · refine sub_of _ [] (by simp [go_sem]) ?_
      simp [go_sem]
    · simp
    · intro j hj
      have hf := fillI j hj
      have hdd : 10 * 2 ^ j + 10 * 2 ^ j = 10 * 2 ^ (j + 1) := by rw [Nat.pow_succ]; omega
      have hx7 : 10 * 2 ^ j < 2000 → j ≤ 7 := fun hd => by
        by_cases h : j = 8
        · subst h; simp at hd
        · omega
      have hx8 : ¬ 10 * 2 ^ j < 2000 → 10 * 2 ^ j = 2560 := fun hd => by
        by_cases h : j = 8
        · subst h; rfl
        · have := fillL j (by omega); omega
      generalize 10 * 2 ^ j = n at *
      (repeat (first | refine awp_seq ?_ | refine awp_block ?_ | (refine awp_runG [0, 2, 3, 4, 5, 6, 7, 8, 9, 11, 13, 14, 17, 19, 20, 32, 77, 79, 100] hX ?_; (simp [go_sem]; try (refine ⟨by kernel_rfl, ?_⟩))) | (refine awp_drawnG [0, 2, 3, 4, 5, 6, 7, 8, 9, 11, 13, 14, 17, 19, 20, 32, 77, 79, 100] hX mixed ?_; (simp [go_sem]; try (refine ⟨by kernel_rfl, ?_⟩))) | (refine awp_ret ?_; (simp [go_sem]; try (refine ⟨by kernel_rfl, ?_⟩))) | (refine awp_skip ?_; (simp [go_sem]; try (refine ⟨by kernel_rfl, ?_⟩))) | (refine awp_exit ?_; (simp [go_sem]; try (refine ⟨by kernel_rfl, ?_⟩)))))
      refine awp_cond (b := decide (n < 2000)) (by simp [go_sem]; try omega) (fun hd => ?_) (fun hd => ?_)
      · simp only [decide_eq_true_eq] at hd
        have hj8 := hx7 hd
        clear hx7 hx8
        (repeat (first | refine awp_seq ?_ | refine awp_block ?_ | (refine awp_runG [0, 2, 3, 4, 5, 6, 7, 8, 9, 11, 13, 14, 17, 19, 20, 32, 77, 79, 100] hX ?_; (simp [go_sem]; try (refine ⟨by kernel_rfl, ?_⟩))) | (refine awp_drawnG [0, 2, 3, 4, 5, 6, 7, 8, 9, 11, 13, 14, 17, 19, 20, 32, 77, 79, 100] hX mixed ?_; (simp [go_sem]; try (refine ⟨by kernel_rfl, ?_⟩))) | (refine awp_ret ?_; (simp [go_sem]; try (refine ⟨by kernel_rfl, ?_⟩))) | (refine awp_skip ?_; (simp [go_sem]; try (refine ⟨by kernel_rfl, ?_⟩))) | (refine awp_exit ?_; (simp [go_sem]; try (refine ⟨by kernel_rfl, ?_⟩)))))
        (repeat refine And.intro (by first | omega | (unfold maxLen; omega) | kernel_rfl | (refine ⟨by first | omega | (unfold maxLen; omega), by first | omega | (unfold maxLen; omega)⟩) | grind) ?_)
        (repeat (first | refine awp_seq ?_ | refine awp_block ?_ | (refine awp_runG [0, 2, 3, 4, 5, 6, 7, 8, 9, 11, 13, 14, 17, 19, 20, 32, 77, 79, 100] hX ?_; (simp [go_sem]; try (refine ⟨by kernel_rfl, ?_⟩))) | (refine awp_drawnG [0, 2, 3, 4, 5, 6, 7, 8, 9, 11, 13, 14, 17, 19, 20, 32, 77, 79, 100] hX mixed ?_; (simp [go_sem]; try (refine ⟨by kernel_rfl, ?_⟩))) | (refine awp_ret ?_; (simp [go_sem]; try (refine ⟨by kernel_rfl, ?_⟩))) | (refine awp_skip ?_; (simp [go_sem]; try (refine ⟨by kernel_rfl, ?_⟩))) | (refine awp_exit ?_; (simp [go_sem]; try (refine ⟨by kernel_rfl, ?_⟩)))))
        refine ⟨j + 1, by omega, by omega, ?_⟩
        refine sub_of _ [] (by simp [go_sem]) ?_
        simp [go_sem, hdd]
      · have hn := hx8 (by simpa using hd)
        clear hx7 hx8 hdd
        have e1 : min (2000 - l.length) n = 2000 - l.length := by omega
        have e2 : min (2001 - l.length) n = 2001 - l.length := by omega
        have n1 : ((2000 : Int) - (l.length : Int)).toNat = 2000 - l.length := by omega
        have n2 : ((2001 : Int) - (l.length : Int)).toNat = 2001 - l.length := by omega
        (repeat (first | refine awp_seq ?_ | refine awp_block ?_ | (refine awp_runG [0, 2, 3, 4, 5, 6, 7, 8, 9, 11, 13, 14, 17, 19, 20, 32, 77, 79, 100] hX ?_; (simp [go_sem, n1, e1]; (try simp (disch := omega) only [w64, td, tm]); try (refine ⟨by kernel_rfl, ?_⟩))) | (refine awp_drawnG [0, 2, 3, 4, 5, 6, 7, 8, 9, 11, 13, 14, 17, 19, 20, 32, 77, 79, 100] hX mixed ?_; (simp [go_sem, n1, e1]; (try simp (disch := omega) only [w64, td, tm]); try (refine ⟨by kernel_rfl, ?_⟩))) | (refine awp_ret ?_; (simp [go_sem, n1, e1]; (try simp (disch := omega) only [w64, td, tm]); try (refine ⟨by kernel_rfl, ?_⟩))) | (refine awp_skip ?_; (simp [go_sem, n1, e1]; (try simp (disch := omega) only [w64, td, tm]); try (refine ⟨by kernel_rfl, ?_⟩))) | (refine awp_exit ?_; (simp [go_sem, n1, e1]; (try simp (disch := omega) only [w64, td, tm]); try (refine ⟨by kernel_rfl, ?_⟩)))))
        (repeat refine And.intro (by first | omega | (unfold maxLen; omega) | kernel_rfl | (refine ⟨by first | omega | (unfold maxLen; omega), by first | omega | (unfold maxLen; omega)⟩) | grind) ?_)
        try (simp [go_sem, n1, e1]; try (refine ⟨by kernel_rfl, ?_⟩))
        (repeat refine And.intro (by first | omega | (unfold maxLen; omega) | kernel_rfl | (refine ⟨by first | omega | (unfold maxLen; omega), by first | omega | (unfold maxLen; omega)⟩) | grind) ?_)
        try (simp [go_sem, n1, e1]; try (refine ⟨by kernel_rfl, ?_⟩))
        first | refine callK_intro (hl2) rfl (by simp [go_sem]) rfl ?_ | refine callT_intro (hl2) rfl (by simp [go_sem]) rfl ?_
        try (simp [go_sem]; try (refine ⟨by kernel_rfl, ?_⟩))
        (repeat (first | refine awp_seq ?_ | refine awp_block ?_ | (refine awp_runG [0, 2, 3, 4, 5, 6, 7, 8, 9, 11, 13, 14, 17, 19, 20, 32, 77, 79, 100] hX ?_; (simp [go_sem, n2, e2]; (try simp (disch := omega) only [w64, td, tm]); try (refine ⟨by kernel_rfl, ?_⟩))) | (refine awp_drawnG [0, 2, 3, 4, 5, 6, 7, 8, 9, 11, 13, 14, 17, 19, 20, 32, 77, 79, 100] hX mixed ?_; (simp [go_sem, n2, e2]; (try simp (disch := omega) only [w64, td, tm]); try (refine ⟨by kernel_rfl, ?_⟩))) | (refine awp_ret ?_; (simp [go_sem, n2, e2]; (try simp (disch := omega) only [w64, td, tm]); try (refine ⟨by kernel_rfl, ?_⟩))) | (refine awp_skip ?_; (simp [go_sem, n2, e2]; (try simp (disch := omega) only [w64, td, tm]); try (refine ⟨by kernel_rfl, ?_⟩))) | (refine awp_exit ?_; (simp [go_sem, n2, e2]; (try simp (disch := omega) only [w64, td, tm]); try (refine ⟨by kernel_rfl, ?_⟩)))))
        (repeat refine And.intro (by first | omega | (unfold maxLen; omega) | kernel_rfl | (refine ⟨by first | omega | (unfold maxLen; omega), by first | omega | (unfold maxLen; omega)⟩) | grind) ?_)
        try (simp [go_sem, n2, e2]; try (refine ⟨by kernel_rfl, ?_⟩))
        (repeat refine And.intro (by first | omega | (unfold maxLen; omega) | kernel_rfl | (refine ⟨by first | omega | (unfold maxLen; omega), by first | omega | (unfold maxLen; omega)⟩) | grind) ?_)
        try (simp [go_sem, n2, e2]; try (refine ⟨by kernel_rfl, ?_⟩))
        first | refine callK_intro (hl3) rfl (by simp [go_sem]) rfl ?_ | refine callT_intro (hl3) rfl (by simp [go_sem]) rfl ?_
        try (simp [go_sem]; try (refine ⟨by kernel_rfl, ?_⟩))
        (repeat (first | refine awp_seq ?_ | refine awp_block ?_ | (refine awp_runG [0, 2, 3, 4, 5, 6, 7, 8, 9, 11, 13, 14, 17, 19, 20, 32, 77, 79, 100] hX ?_; (simp [go_sem]; try (refine ⟨by kernel_rfl, ?_⟩))) | (refine awp_drawnG [0, 2, 3, 4, 5, 6, 7, 8, 9, 11, 13, 14, 17, 19, 20, 32, 77, 79, 100] hX mixed ?_; (simp [go_sem]; try (refine ⟨by kernel_rfl, ?_⟩))) | (refine awp_ret ?_; (simp [go_sem]; try (refine ⟨by kernel_rfl, ?_⟩))) | (refine awp_skip ?_; (simp [go_sem]; try (refine ⟨by kernel_rfl, ?_⟩))) | (refine awp_exit ?_; (simp [go_sem]; try (refine ⟨by kernel_rfl, ?_⟩)))))
        refine awp_cond (b := false) (by simp [go_sem]) (fun h => by cases h) (fun _ => ?_)
        (repeat (first | refine awp_seq ?_ | refine awp_block ?_ | (refine awp_runG [0, 2, 3, 4, 5, 6, 7, 8, 9, 11, 13, 14, 17, 19, 20, 32, 77, 79, 100] hX ?_; (simp [go_sem]; try (refine ⟨by kernel_rfl, ?_⟩))) | (refine awp_drawnG [0, 2, 3, 4, 5, 6, 7, 8, 9, 11, 13, 14, 17, 19, 20, 32, 77, 79, 100] hX mixed ?_; (simp [go_sem]; try (refine ⟨by kernel_rfl, ?_⟩))) | (refine awp_ret ?_; (simp [go_sem]; try (refine ⟨by kernel_rfl, ?_⟩))) | (refine awp_skip ?_; (simp [go_sem]; try (refine ⟨by kernel_rfl, ?_⟩))) | (refine awp_exit ?_; (simp [go_sem]; try (refine ⟨by kernel_rfl, ?_⟩)))))
        refine awp_cond (b := false) (by simp [go_sem, he0]) (fun h => by cases h) (fun _ => ?_)
        have hil : ¬ (l.length : Int) ≤ i := by omega
        (repeat (first | refine awp_seq ?_ | refine awp_block ?_ | (refine awp_runG [0, 2, 3, 4, 5, 6, 7, 8, 9, 11, 13, 14, 17, 19, 20, 32, 77, 79, 100] hX ?_; (simp [go_sem, hil]; try (refine ⟨by kernel_rfl, ?_⟩))) | (refine awp_drawnG [0, 2, 3, 4, 5, 6, 7, 8, 9, 11, 13, 14, 17, 19, 20, 32, 77, 79, 100] hX mixed ?_; (simp [go_sem, hil]; try (refine ⟨by kernel_rfl, ?_⟩))) | (refine awp_ret ?_; (simp [go_sem, hil]; try (refine ⟨by kernel_rfl, ?_⟩))) | (refine awp_skip ?_; (simp [go_sem, hil]; try (refine ⟨by kernel_rfl, ?_⟩))) | (refine awp_exit ?_; (simp [go_sem, hil]; try (refine ⟨by kernel_rfl, ?_⟩)))))
        refine awp_cond (b := false) (by simp [go_sem, hil]; omega) (fun h => by cases h) (fun _ => ?_)
        (repeat (first | refine awp_seq ?_ | refine awp_block ?_ | (refine awp_runG [0, 2, 3, 4, 5, 6, 7, 8, 9, 11, 13, 14, 17, 19, 20, 32, 77, 79, 100] hX ?_; (simp [go_sem]; try (refine ⟨by kernel_rfl, ?_⟩))) | (refine awp_drawnG [0, 2, 3, 4, 5, 6, 7, 8, 9, 11, 13, 14, 17, 19, 20, 32, 77, 79, 100] hX mixed ?_; (simp [go_sem]; try (refine ⟨by kernel_rfl, ?_⟩))) | (refine awp_ret ?_; (simp [go_sem]; try (refine ⟨by kernel_rfl, ?_⟩))) | (refine awp_skip ?_; (simp [go_sem]; try (refine ⟨by kernel_rfl, ?_⟩))) | (refine awp_exit ?_; (simp [go_sem]; try (refine ⟨by kernel_rfl, ?_⟩)))))
        (repeat refine And.intro (by first | omega | (unfold maxLen; omega) | kernel_rfl | (refine ⟨by first | omega | (unfold maxLen; omega), by first | omega | (unfold maxLen; omega)⟩) | grind) ?_)
        (repeat (first | refine awp_seq ?_ | refine awp_block ?_ | (refine awp_runG [0, 2, 3, 4, 5, 6, 7, 8, 9, 11, 13, 14, 17, 19, 20, 32, 77, 79, 100] hX ?_; (simp [go_sem]; try (refine ⟨by kernel_rfl, ?_⟩))) | (refine awp_drawnG [0, 2, 3, 4, 5, 6, 7, 8, 9, 11, 13, 14, 17, 19, 20, 32, 77, 79, 100] hX mixed ?_; (simp [go_sem]; try (refine ⟨by kernel_rfl, ?_⟩))) | (refine awp_ret ?_; (simp [go_sem]; try (refine ⟨by kernel_rfl, ?_⟩))) | (refine awp_skip ?_; (simp [go_sem]; try (refine ⟨by kernel_rfl, ?_⟩))) | (refine awp_exit ?_; (simp [go_sem]; try (refine ⟨by kernel_rfl, ?_⟩)))))
        first | refine callK_intro (hl5) rfl (by simp [go_sem]) rfl ?_ | refine callT_intro (hl5) rfl (by simp [go_sem]) rfl ?_
        try (simp [go_sem]; try (refine ⟨by kernel_rfl, ?_⟩))
        (repeat (first | refine awp_seq ?_ | refine awp_block ?_ | (refine awp_runG [0, 2, 3, 4, 5, 6, 7, 8, 9, 11, 13, 14, 17, 19, 20, 32, 77, 79, 100] hX ?_; (simp [go_sem]; try (refine ⟨by kernel_rfl, ?_⟩))) | (refine awp_drawnG [0, 2, 3, 4, 5, 6, 7, 8, 9, 11, 13, 14, 17, 19, 20, 32, 77, 79, 100] hX mixed ?_; (simp [go_sem]; try (refine ⟨by kernel_rfl, ?_⟩))) | (refine awp_ret ?_; (simp [go_sem]; try (refine ⟨by kernel_rfl, ?_⟩))) | (refine awp_skip ?_; (simp [go_sem]; try (refine ⟨by kernel_rfl, ?_⟩))) | (refine awp_exit ?_; (simp [go_sem]; try (refine ⟨by kernel_rfl, ?_⟩)))))
        (repeat refine And.intro (by first | omega | (unfold maxLen; omega) | kernel_rfl | (refine ⟨by first | omega | (unfold maxLen; omega), by first | omega | (unfold maxLen; omega)⟩) | grind) ?_)
        (repeat (first | refine awp_seq ?_ | refine awp_block ?_ | (refine awp_runG [0, 2, 3, 4, 5, 6, 7, 8, 9, 11, 13, 14, 17, 19, 20, 32, 77, 79, 100] hX ?_; (simp [go_sem]; try (refine ⟨by kernel_rfl, ?_⟩))) | (refine awp_drawnG [0, 2, 3, 4, 5, 6, 7, 8, 9, 11, 13, 14, 17, 19, 20, 32, 77, 79, 100] hX mixed ?_; (simp [go_sem]; try (refine ⟨by kernel_rfl, ?_⟩))) | (refine awp_ret ?_; (simp [go_sem]; try (refine ⟨by kernel_rfl, ?_⟩))) | (refine awp_skip ?_; (simp [go_sem]; try (refine ⟨by kernel_rfl, ?_⟩))) | (refine awp_exit ?_; (simp [go_sem]; try (refine ⟨by kernel_rfl, ?_⟩)))))
        first | refine callK_intro (hl6) rfl (by simp [go_sem]) rfl ?_ | refine callT_intro (hl6) rfl (by simp [go_sem]) rfl ?_
        try (simp [go_sem]; try (refine ⟨by kernel_rfl, ?_⟩))
        (repeat (first | refine awp_seq ?_ | refine awp_block ?_ | (refine awp_runG [0, 2, 3, 4, 5, 6, 7, 8, 9, 11, 13, 14, 17, 19, 20, 32, 77, 79, 100] hX ?_; (simp [go_sem]; try (refine ⟨by kernel_rfl, ?_⟩))) | (refine awp_drawnG [0, 2, 3, 4, 5, 6, 7, 8, 9, 11, 13, 14, 17, 19, 20, 32, 77, 79, 100] hX mixed ?_; (simp [go_sem]; try (refine ⟨by kernel_rfl, ?_⟩))) | (refine awp_ret ?_; (simp [go_sem]; try (refine ⟨by kernel_rfl, ?_⟩))) | (refine awp_skip ?_; (simp [go_sem]; try (refine ⟨by kernel_rfl, ?_⟩))) | (refine awp_exit ?_; (simp [go_sem]; try (refine ⟨by kernel_rfl, ?_⟩)))))
  | ok ts =>
    obtain ⟨z1, z2⟩ := lexA_sizes l hx
    have hne := lexA_ne hx
    rw [lexAV_ok (by omega) hx] at hl
    rw [lexAV_ok hll (ts := ts.dropLast ++ [⟨0, [], 0, 2000⟩]) (by rw [happ, hx]; rfl)] at hl2
    have hlen : (ts.dropLast ++ [(⟨0, [], 0, 2000⟩ : Tk)]).length = ts.length := by
      have := List.length_pos_iff.2 hne
      simp only [List.length_append, List.length_dropLast, List.length_singleton]; omega
    generalize ts.dropLast ++ [(⟨0, [], 0, 2000⟩ : Tk)] = ms at *
    first | refine callK_intro (hl) rfl (by simp [go_sem]) rfl ?_ | refine callT_intro (hl) rfl (by simp [go_sem]) rfl ?_
    try (simp [go_sem]; try (refine ⟨by kernel_rfl, ?_⟩))
    (repeat (first | refine awp_seq ?_ | refine awp_block ?_ | (refine awp_runG [0, 2, 3, 4, 5, 6, 7, 8, 9, 11, 13, 14, 17, 19, 20, 32, 77, 79, 100] hX ?_; (simp [go_sem]; try (refine ⟨by kernel_rfl, ?_⟩))) | (refine awp_drawnG [0, 2, 3, 4, 5, 6, 7, 8, 9, 11, 13, 14, 17, 19, 20, 32, 77, 79, 100] hX mixed ?_; (simp [go_sem]; try (refine ⟨by kernel_rfl, ?_⟩))) | (refine awp_ret ?_; (simp [go_sem]; try (refine ⟨by kernel_rfl, ?_⟩))) | (refine awp_skip ?_; (simp [go_sem]; try (refine ⟨by kernel_rfl, ?_⟩))) | (refine awp_exit ?_; (simp [go_sem]; try (refine ⟨by kernel_rfl, ?_⟩)))))
    refine awp_loop (fun j : Nat => ⟨mkE [(3, bb true), (4, ss l), (5, .sl (ts.map tk)), (6, ii 0), (7, ii 0), (8, ss (List.replicate (10 * 2 ^ j) 32))], []⟩) (fun j => j ≤ 8) (fun j => 8 - j) 0 ?_ ?_ ?_
    · refine sub_of _ [] (by simp [go_sem]) ?_
      simp [go_sem]
    · simp
    · intro j hj
      have hf := fillI j hj
      have hdd : 10 * 2 ^ j + 10 * 2 ^ j = 10 * 2 ^ (j + 1) := by rw [Nat.pow_succ]; omega
      have hx7 : 10 * 2 ^ j < 2000 → j ≤ 7 := fun hd => by
        by_cases h : j = 8
        · subst h; simp at hd
        · omega
      have hx8 : ¬ 10 * 2 ^ j < 2000 → 10 * 2 ^ j = 2560 := fun hd => by
        by_cases h : j = 8
        · subst h; rfl
        · have := fillL j (by omega); omega
      generalize 10 * 2 ^ j = n at *
      (repeat (first | refine awp_seq ?_ | refine awp_block ?_ | (refine awp_runG [0, 2, 3, 4, 5, 6, 7, 8, 9, 11, 13, 14, 17, 19, 20, 32, 77, 79, 100] hX ?_; (simp [go_sem]; try (refine ⟨by kernel_rfl, ?_⟩))) | (refine awp_drawnG [0, 2, 3, 4, 5, 6, 7, 8, 9, 11, 13, 14, 17, 19, 20, 32, 77, 79, 100] hX mixed ?_; (simp [go_sem]; try (refine ⟨by kernel_rfl, ?_⟩))) | (refine awp_ret ?_; (simp [go_sem]; try (refine ⟨by kernel_rfl, ?_⟩))) | (refine awp_skip ?_; (simp [go_sem]; try (refine ⟨by kernel_rfl, ?_⟩))) | (refine awp_exit ?_; (simp [go_sem]; try (refine ⟨by kernel_rfl, ?_⟩)))))
      refine awp_cond (b := decide (n < 2000)) (by simp [go_sem]; try omega) (fun hd => ?_) (fun hd => ?_)
      · simp only [decide_eq_true_eq] at hd
        have hj8 := hx7 hd
        clear hx7 hx8
        (repeat (first | refine awp_seq ?_ | refine awp_block ?_ | (refine awp_runG [0, 2, 3, 4, 5, 6, 7, 8, 9, 11, 13, 14, 17, 19, 20, 32, 77, 79, 100] hX ?_; (simp [go_sem]; try (refine ⟨by kernel_rfl, ?_⟩))) | (refine awp_drawnG [0, 2, 3, 4, 5, 6, 7, 8, 9, 11, 13, 14, 17, 19, 20, 32, 77, 79, 100] hX mixed ?_; (simp [go_sem]; try (refine ⟨by kernel_rfl, ?_⟩))) | (refine awp_ret ?_; (simp [go_sem]; try (refine ⟨by kernel_rfl, ?_⟩))) | (refine awp_skip ?_; (simp [go_sem]; try (refine ⟨by kernel_rfl, ?_⟩))) | (refine awp_exit ?_; (simp [go_sem]; try (refine ⟨by kernel_rfl, ?_⟩)))))
        (repeat refine And.intro (by first | omega | (unfold maxLen; omega) | kernel_rfl | (refine ⟨by first | omega | (unfold maxLen; omega), by first | omega | (unfold maxLen; omega)⟩) | grind) ?_)
        (repeat (first | refine awp_seq ?_ | refine awp_block ?_ | (refine awp_runG [0, 2, 3, 4, 5, 6, 7, 8, 9, 11, 13, 14, 17, 19, 20, 32, 77, 79, 100] hX ?_; (simp [go_sem]; try (refine ⟨by kernel_rfl, ?_⟩))) | (refine awp_drawnG [0, 2, 3, 4, 5, 6, 7, 8, 9, 11, 13, 14, 17, 19, 20, 32, 77, 79, 100] hX mixed ?_; (simp [go_sem]; try (refine ⟨by kernel_rfl, ?_⟩))) | (refine awp_ret ?_; (simp [go_sem]; try (refine ⟨by kernel_rfl, ?_⟩))) | (refine awp_skip ?_; (simp [go_sem]; try (refine ⟨by kernel_rfl, ?_⟩))) | (refine awp_exit ?_; (simp [go_sem]; try (refine ⟨by kernel_rfl, ?_⟩)))))
        refine ⟨j + 1, by omega, by omega, ?_⟩
        refine sub_of _ [] (by simp [go_sem]) ?_
        simp [go_sem, hdd]
      · have hn := hx8 (by simpa using hd)
        clear hx7 hx8 hdd
        have e1 : min (2000 - l.length) n = 2000 - l.length := by omega
        have e2 : min (2001 - l.length) n = 2001 - l.length := by omega
        have n1 : ((2000 : Int) - (l.length : Int)).toNat = 2000 - l.length := by omega
        have n2 : ((2001 : Int) - (l.length : Int)).toNat = 2001 - l.length := by omega
        (repeat (first | refine awp_seq ?_ | refine awp_block ?_ | (refine awp_runG [0, 2, 3, 4, 5, 6, 7, 8, 9, 11, 13, 14, 17, 19, 20, 32, 77, 79, 100] hX ?_; (simp [go_sem, n1, e1]; (try simp (disch := omega) only [w64, td, tm]); try (refine ⟨by kernel_rfl, ?_⟩))) | (refine awp_drawnG [0, 2, 3, 4, 5, 6, 7, 8, 9, 11, 13, 14, 17, 19, 20, 32, 77, 79, 100] hX mixed ?_; (simp [go_sem, n1, e1]; (try simp (disch := omega) only [w64, td, tm]); try (refine ⟨by kernel_rfl, ?_⟩))) | (refine awp_ret ?_; (simp [go_sem, n1, e1]; (try simp (disch := omega) only [w64, td, tm]); try (refine ⟨by kernel_rfl, ?_⟩))) | (refine awp_skip ?_; (simp [go_sem, n1, e1]; (try simp (disch := omega) only [w64, td, tm]); try (refine ⟨by kernel_rfl, ?_⟩))) | (refine awp_exit ?_; (simp [go_sem, n1, e1]; (try simp (disch := omega) only [w64, td, tm]); try (refine ⟨by kernel_rfl, ?_⟩)))))
        (repeat refine And.intro (by first | omega | (unfold maxLen; omega) | kernel_rfl | (refine ⟨by first | omega | (unfold maxLen; omega), by first | omega | (unfold maxLen; omega)⟩) | grind) ?_)
        try (simp [go_sem, n1, e1]; try (refine ⟨by kernel_rfl, ?_⟩))
        (repeat refine And.intro (by first | omega | (unfold maxLen; omega) | kernel_rfl | (refine ⟨by first | omega | (unfold maxLen; omega), by first | omega | (unfold maxLen; omega)⟩) | grind) ?_)
        try (simp [go_sem, n1, e1]; try (refine ⟨by kernel_rfl, ?_⟩))
        first | refine callK_intro (hl2) rfl (by simp [go_sem]) rfl ?_ | refine callT_intro (hl2) rfl (by simp [go_sem]) rfl ?_
        try (simp [go_sem]; try (refine ⟨by kernel_rfl, ?_⟩))
        (repeat (first | refine awp_seq ?_ | refine awp_block ?_ | (refine awp_runG [0, 2, 3, 4, 5, 6, 7, 8, 9, 11, 13, 14, 17, 19, 20, 32, 77, 79, 100] hX ?_; (simp [go_sem, n2, e2]; (try simp (disch := omega) only [w64, td, tm]); try (refine ⟨by kernel_rfl, ?_⟩))) | (refine awp_drawnG [0, 2, 3, 4, 5, 6, 7, 8, 9, 11, 13, 14, 17, 19, 20, 32, 77, 79, 100] hX mixed ?_; (simp [go_sem, n2, e2]; (try simp (disch := omega) only [w64, td, tm]); try (refine ⟨by kernel_rfl, ?_⟩))) | (refine awp_ret ?_; (simp [go_sem, n2, e2]; (try simp (disch := omega) only [w64, td, tm]); try (refine ⟨by kernel_rfl, ?_⟩))) | (refine awp_skip ?_; (simp [go_sem, n2, e2]; (try simp (disch := omega) only [w64, td, tm]); try (refine ⟨by kernel_rfl, ?_⟩))) | (refine awp_exit ?_; (simp [go_sem, n2, e2]; (try simp (disch := omega) only [w64, td, tm]); try (refine ⟨by kernel_rfl, ?_⟩)))))
        (repeat refine And.intro (by first | omega | (unfold maxLen; omega) | kernel_rfl | (refine ⟨by first | omega | (unfold maxLen; omega), by first | omega | (unfold maxLen; omega)⟩) | grind) ?_)
        try (simp [go_sem, n2, e2]; try (refine ⟨by kernel_rfl, ?_⟩))
        (repeat refine And.intro (by first | omega | (unfold maxLen; omega) | kernel_rfl | (refine ⟨by first | omega | (unfold maxLen; omega), by first | omega | (unfold maxLen; omega)⟩) | grind) ?_)
        try (simp [go_sem, n2, e2]; try (refine ⟨by kernel_rfl, ?_⟩))
        first | refine callK_intro (hl3) rfl (by simp [go_sem]) rfl ?_ | refine callT_intro (hl3) rfl (by simp [go_sem]) rfl ?_
        try (simp [go_sem]; try (refine ⟨by kernel_rfl, ?_⟩))
        (repeat (first | refine awp_seq ?_ | refine awp_block ?_ | (refine awp_runG [0, 2, 3, 4, 5, 6, 7, 8, 9, 11, 13, 14, 17, 19, 20, 32, 77, 79, 100] hX ?_; (simp [go_sem, hlen]; try (refine ⟨by kernel_rfl, ?_⟩))) | (refine awp_drawnG [0, 2, 3, 4, 5, 6, 7, 8, 9, 11, 13, 14, 17, 19, 20, 32, 77, 79, 100] hX mixed ?_; (simp [go_sem, hlen]; try (refine ⟨by kernel_rfl, ?_⟩))) | (refine awp_ret ?_; (simp [go_sem, hlen]; try (refine ⟨by kernel_rfl, ?_⟩))) | (refine awp_skip ?_; (simp [go_sem, hlen]; try (refine ⟨by kernel_rfl, ?_⟩))) | (refine awp_exit ?_; (simp [go_sem, hlen]; try (refine ⟨by kernel_rfl, ?_⟩)))))
        refine awp_cond (b := false) (by simp [go_sem, hlen]) (fun h => by cases h) (fun _ => ?_)
        (repeat (first | refine awp_seq ?_ | refine awp_block ?_ | (refine awp_runG [0, 2, 3, 4, 5, 6, 7, 8, 9, 11, 13, 14, 17, 19, 20, 32, 77, 79, 100] hX ?_; (simp [go_sem]; try (refine ⟨by kernel_rfl, ?_⟩))) | (refine awp_drawnG [0, 2, 3, 4, 5, 6, 7, 8, 9, 11, 13, 14, 17, 19, 20, 32, 77, 79, 100] hX mixed ?_; (simp [go_sem]; try (refine ⟨by kernel_rfl, ?_⟩))) | (refine awp_ret ?_; (simp [go_sem]; try (refine ⟨by kernel_rfl, ?_⟩))) | (refine awp_skip ?_; (simp [go_sem]; try (refine ⟨by kernel_rfl, ?_⟩))) | (refine awp_exit ?_; (simp [go_sem]; try (refine ⟨by kernel_rfl, ?_⟩)))))
        refine awp_cond (b := true) (by simp [go_sem]) (fun _ => ?_) (fun h => by cases h)
        (repeat (first | refine awp_seq ?_ | refine awp_block ?_ | (refine awp_runG [0, 2, 3, 4, 5, 6, 7, 8, 9, 11, 13, 14, 17, 19, 20, 32, 77, 79, 100] hX ?_; (simp [go_sem]; try (refine ⟨by kernel_rfl, ?_⟩))) | (refine awp_drawnG [0, 2, 3, 4, 5, 6, 7, 8, 9, 11, 13, 14, 17, 19, 20, 32, 77, 79, 100] hX mixed ?_; (simp [go_sem]; try (refine ⟨by kernel_rfl, ?_⟩))) | (refine awp_ret ?_; (simp [go_sem]; try (refine ⟨by kernel_rfl, ?_⟩))) | (refine awp_skip ?_; (simp [go_sem]; try (refine ⟨by kernel_rfl, ?_⟩))) | (refine awp_exit ?_; (simp [go_sem]; try (refine ⟨by kernel_rfl, ?_⟩)))))

end Go.Proofs.YtgkafceckdoabaaDoor
