/-
  The walks of layer 31: what the voices decide.
-/
import Derived.Test.YtgccheogieddnaaVoteB
set_option linter.all false
namespace Go.Proofs.Ytgccheogieddnaa
open Go.RowKit Go.Ab
attribute [local irreducible] AWP Go.Ab.Sub Means CallK CallG

theorem nNeed_bd {m s : Int} (h : nBad m s = false) : 1 ≤ nNeed m s ∧ nNeed m s ≤ 60 := by
  simp [nBad] at h
  have := mul_bd h.1.1.1 h.1.1.2 h.1.2 h.2
  unfold nNeed
  omega

set_option maxHeartbeats 400000 in
theorem tally_m (L : List Int) (hl : L.length ≤ 100000) (vs : List V) (hv : vs.length ≤ 100000) (share u day : Int) :
    Means true Try.prog 11 [.sl (L.map ii), .sl (vs.map vo), ii share, ii u, ii day] (.tup [ii (tally L vs share u day), ii (tErr L share)]) := by
  refine means_fn true 45 [.tmp 10, .tmp 11] Try.func11 rfl rfl rfl (by simp) rfl fun X hX => ?_
  (repeat (first | refine awp_seq ?_ | refine awp_block ?_ | (refine awp_runG [0, 1, 2, 3, 4, 10, 11, 12, 13, 14, 28, 43] hX ?_; simp [go_sem]) | (refine awp_drawnG [0, 1, 2, 3, 4, 10, 11, 12, 13, 14, 28, 43] hX mixed (by kernel_rfl) ?_; simp [go_sem]) | (refine awp_ret ?_; simp [go_sem]) | (refine awp_skip ?_; simp [go_sem]) | (refine awp_exit ?_; simp [go_sem])))
  refine callK_intro (needed_m L.length share) rfl (by simp [go_sem]) ?_
  try simp [go_sem]
  (repeat (first | refine awp_seq ?_ | refine awp_block ?_ | (refine awp_runG [0, 1, 2, 3, 4, 10, 11, 12, 13, 14, 28, 43] hX ?_; simp [go_sem]) | (refine awp_drawnG [0, 1, 2, 3, 4, 10, 11, 12, 13, 14, 28, 43] hX mixed (by kernel_rfl) ?_; simp [go_sem]) | (refine awp_ret ?_; simp [go_sem]) | (refine awp_skip ?_; simp [go_sem]) | (refine awp_exit ?_; simp [go_sem])))
  refine callG_intro (fun hg => valid_m L (by omega)) rfl (by simp [go_sem]) ?_
  try simp [go_sem]
  (repeat (first | refine awp_seq ?_ | refine awp_block ?_ | (refine awp_runG [0, 1, 2, 3, 4, 10, 11, 12, 13, 14, 28, 43] hX ?_; simp [go_sem]) | (refine awp_drawnG [0, 1, 2, 3, 4, 10, 11, 12, 13, 14, 28, 43] hX mixed (by kernel_rfl) ?_; simp [go_sem]) | (refine awp_ret ?_; simp [go_sem]) | (refine awp_skip ?_; simp [go_sem]) | (refine awp_exit ?_; simp [go_sem])))
  refine awp_cond (b := tBad L share) (by simp [go_sem, tBad]) (fun hb => ?_) (fun hb => ?_)
  · (repeat (first | refine awp_seq ?_ | refine awp_block ?_ | (refine awp_runG [0, 1, 2, 3, 4, 10, 11, 12, 13, 14, 28, 43] hX ?_; simp [go_sem]) | (refine awp_drawnG [0, 1, 2, 3, 4, 10, 11, 12, 13, 14, 28, 43] hX mixed (by kernel_rfl) ?_; simp [go_sem]) | (refine awp_ret ?_; simp [go_sem]) | (refine awp_skip ?_; simp [go_sem]) | (refine awp_exit ?_; simp [go_sem])))
    simp [tally, tErr, hb]
  · have hb' := hb
    simp [tBad] at hb
    have hn := nNeed_bd hb.1
    (repeat (first | refine awp_seq ?_ | refine awp_block ?_ | (refine awp_runG [0, 1, 2, 3, 4, 10, 11, 12, 13, 14, 28, 43] hX ?_; simp [go_sem, hb.1]) | (refine awp_drawnG [0, 1, 2, 3, 4, 10, 11, 12, 13, 14, 28, 43] hX mixed (by kernel_rfl) ?_; simp [go_sem, hb.1]) | (refine awp_ret ?_; simp [go_sem, hb.1]) | (refine awp_skip ?_; simp [go_sem, hb.1]) | (refine awp_exit ?_; simp [go_sem, hb.1])))
    refine callK_intro (counted_m L (by omega) vs hv u) rfl (by simp [go_sem]) ?_
    try simp [go_sem]
    (repeat (first | refine awp_seq ?_ | refine awp_block ?_ | (refine awp_runG [0, 1, 2, 3, 4, 10, 11, 12, 13, 14, 28, 43] hX ?_; simp [go_sem]) | (refine awp_drawnG [0, 1, 2, 3, 4, 10, 11, 12, 13, 14, 28, 43] hX mixed (by kernel_rfl) ?_; simp [go_sem]) | (refine awp_ret ?_; simp [go_sem]) | (refine awp_skip ?_; simp [go_sem]) | (refine awp_exit ?_; simp [go_sem])))
    have hc := cnt_len L u vs
    have hcl : (counted L vs u).length ≤ 100000 := by unfold counted; split; exact Nat.le_trans hc hv; exact Nat.zero_le _
    refine callK_intro (says_m L.length (nNeed L.length share) (counted L vs u) (by omega) (by omega) (by omega)) rfl (by simp [go_sem]) ?_
    try simp [go_sem]
    (repeat (first | refine awp_seq ?_ | refine awp_block ?_ | (refine awp_runG [0, 1, 2, 3, 4, 10, 11, 12, 13, 14, 28, 43] hX ?_; simp [go_sem]) | (refine awp_drawnG [0, 1, 2, 3, 4, 10, 11, 12, 13, 14, 28, 43] hX mixed (by kernel_rfl) ?_; simp [go_sem]) | (refine awp_ret ?_; simp [go_sem]) | (refine awp_skip ?_; simp [go_sem]) | (refine awp_exit ?_; simp [go_sem])))
    refine awp_cond (b := decide (says L.length (nNeed L.length share) (counted L vs u) = 0) && decide (u < day)) (by simp [go_sem]) (fun hd => ?_) (fun hd => ?_)
    · simp at hd
      (repeat (first | refine awp_seq ?_ | refine awp_block ?_ | (refine awp_runG [0, 1, 2, 3, 4, 10, 11, 12, 13, 14, 28, 43] hX ?_; simp [go_sem]) | (refine awp_drawnG [0, 1, 2, 3, 4, 10, 11, 12, 13, 14, 28, 43] hX mixed (by kernel_rfl) ?_; simp [go_sem]) | (refine awp_ret ?_; simp [go_sem]) | (refine awp_skip ?_; simp [go_sem]) | (refine awp_exit ?_; simp [go_sem])))
      simp [tally, tErr, hb', hd]
    · simp at hd
      (repeat (first | refine awp_seq ?_ | refine awp_block ?_ | (refine awp_runG [0, 1, 2, 3, 4, 10, 11, 12, 13, 14, 28, 43] hX ?_; simp [go_sem]) | (refine awp_drawnG [0, 1, 2, 3, 4, 10, 11, 12, 13, 14, 28, 43] hX mixed (by kernel_rfl) ?_; simp [go_sem]) | (refine awp_ret ?_; simp [go_sem]) | (refine awp_skip ?_; simp [go_sem]) | (refine awp_exit ?_; simp [go_sem])))
      simp [tally, tErr, hb']
      intro h1 h2
      have := hd h1
      omega

set_option maxHeartbeats 400000 in
theorem tallyR_m (L : List Int) (hl : L.length ≤ 100000) (vs : List V) (hv : vs.length ≤ 100000) (share u day : Int) :
    Means true Try.prog 12 [.sl (L.map ii), .sl (vs.map vo), ii share, ii u, ii day] (.tup [ii (tally L vs share u day), ii (tErr L share)]) := by
  refine means_fn true 65 [.tmp 10, .tmp 11] Try.func12 rfl rfl rfl (by simp) rfl fun X hX => ?_
  (repeat (first | refine awp_seq ?_ | refine awp_block ?_ | (refine awp_runG [0, 1, 2, 3, 4, 10, 11, 12, 13, 14, 15, 16, 17, 31, 39, 46, 53, 64] hX ?_; simp [go_sem]) | (refine awp_drawnG [0, 1, 2, 3, 4, 10, 11, 12, 13, 14, 15, 16, 17, 31, 39, 46, 53, 64] hX mixed (by kernel_rfl) ?_; simp [go_sem]) | (refine awp_ret ?_; simp [go_sem]) | (refine awp_skip ?_; simp [go_sem]) | (refine awp_exit ?_; simp [go_sem])))
  refine callK_intro (neededR_m L.length share) rfl (by simp [go_sem]) ?_
  try simp [go_sem]
  (repeat (first | refine awp_seq ?_ | refine awp_block ?_ | (refine awp_runG [0, 1, 2, 3, 4, 10, 11, 12, 13, 14, 15, 16, 17, 31, 39, 46, 53, 64] hX ?_; simp [go_sem]) | (refine awp_drawnG [0, 1, 2, 3, 4, 10, 11, 12, 13, 14, 15, 16, 17, 31, 39, 46, 53, 64] hX mixed (by kernel_rfl) ?_; simp [go_sem]) | (refine awp_ret ?_; simp [go_sem]) | (refine awp_skip ?_; simp [go_sem]) | (refine awp_exit ?_; simp [go_sem])))
  refine callG_intro (fun hg => members_m L (by omega)) rfl (by simp [go_sem]) ?_
  try simp [go_sem]
  (repeat (first | refine awp_seq ?_ | refine awp_block ?_ | (refine awp_runG [0, 1, 2, 3, 4, 10, 11, 12, 13, 14, 15, 16, 17, 31, 39, 46, 53, 64] hX ?_; simp [go_sem]) | (refine awp_drawnG [0, 1, 2, 3, 4, 10, 11, 12, 13, 14, 15, 16, 17, 31, 39, 46, 53, 64] hX mixed (by kernel_rfl) ?_; simp [go_sem]) | (refine awp_ret ?_; simp [go_sem]) | (refine awp_skip ?_; simp [go_sem]) | (refine awp_exit ?_; simp [go_sem])))
  refine awp_cond (b := tBad L share) (by simp [go_sem, tBad]) (fun hb => ?_) (fun hb => ?_)
  · (repeat (first | refine awp_seq ?_ | refine awp_block ?_ | (refine awp_runG [0, 1, 2, 3, 4, 10, 11, 12, 13, 14, 15, 16, 17, 31, 39, 46, 53, 64] hX ?_; simp [go_sem]) | (refine awp_drawnG [0, 1, 2, 3, 4, 10, 11, 12, 13, 14, 15, 16, 17, 31, 39, 46, 53, 64] hX mixed (by kernel_rfl) ?_; simp [go_sem]) | (refine awp_ret ?_; simp [go_sem]) | (refine awp_skip ?_; simp [go_sem]) | (refine awp_exit ?_; simp [go_sem])))
    simp [tally, tErr, hb]
  · have hb' := hb
    simp [tBad] at hb
    have hn := nNeed_bd hb.1
    (repeat (first | refine awp_seq ?_ | refine awp_block ?_ | (refine awp_runG [0, 1, 2, 3, 4, 10, 11, 12, 13, 14, 15, 16, 17, 31, 39, 46, 53, 64] hX ?_; simp [go_sem, hb.1]) | (refine awp_drawnG [0, 1, 2, 3, 4, 10, 11, 12, 13, 14, 15, 16, 17, 31, 39, 46, 53, 64] hX mixed (by kernel_rfl) ?_; simp [go_sem, hb.1]) | (refine awp_ret ?_; simp [go_sem, hb.1]) | (refine awp_skip ?_; simp [go_sem, hb.1]) | (refine awp_exit ?_; simp [go_sem, hb.1])))
    refine callK_intro (countedR_m L (by omega) vs hv u) rfl (by simp [go_sem]) ?_
    try simp [go_sem]
    (repeat (first | refine awp_seq ?_ | refine awp_block ?_ | (refine awp_runG [0, 1, 2, 3, 4, 10, 11, 12, 13, 14, 15, 16, 17, 31, 39, 46, 53, 64] hX ?_; simp [go_sem]) | (refine awp_drawnG [0, 1, 2, 3, 4, 10, 11, 12, 13, 14, 15, 16, 17, 31, 39, 46, 53, 64] hX mixed (by kernel_rfl) ?_; simp [go_sem]) | (refine awp_ret ?_; simp [go_sem]) | (refine awp_skip ?_; simp [go_sem]) | (refine awp_exit ?_; simp [go_sem])))
    have hc := cnt_len L u vs
    have hcl : (counted L vs u).length ≤ 100000 := by unfold counted; split; exact Nat.le_trans hc hv; exact Nat.zero_le _
    refine awp_loop (fun k : Nat => ⟨mkE [(0, .sl (L.map ii)), (1, .sl (vs.map vo)), (2, ii share), (3, ii u), (4, ii day), (10, ii 0), (11, ii 0), (12, ii (nNeed L.length share)), (14, ii (yesN ((counted L vs u).take k))), (15, ii (k - yesN ((counted L vs u).take k))), (16, .sl ((counted L vs u).map vo)), (17, ii k)], []⟩) (fun k => k ≤ (counted L vs u).length) (fun k => (counted L vs u).length - k) 0 ?_ ?_ ?_
    · refine sub_of _ [] (by simp [go_sem]) ?_
      simp [go_sem, yesN]
    · simp
    · rintro k hk
      have hy := yesN_le ((counted L vs u).take k)
      rw [List.length_take] at hy
      (repeat (first | refine awp_seq ?_ | refine awp_block ?_ | (refine awp_runG [0, 1, 2, 3, 4, 10, 11, 12, 13, 14, 15, 16, 17, 31, 39, 46, 53, 64] hX ?_; simp [go_sem]) | (refine awp_drawnG [0, 1, 2, 3, 4, 10, 11, 12, 13, 14, 15, 16, 17, 31, 39, 46, 53, 64] hX mixed (by kernel_rfl) ?_; simp [go_sem]) | (refine awp_ret ?_; simp [go_sem]) | (refine awp_skip ?_; simp [go_sem]) | (refine awp_exit ?_; simp [go_sem])))
      refine awp_cond (b := decide (k < (counted L vs u).length)) (by simp [go_sem]) (fun hd => ?_) (fun hd => ?_)
      · simp at hd
        have hs := yesN_succ hd
        (repeat (first | refine awp_seq ?_ | refine awp_block ?_ | (refine awp_runG [0, 1, 2, 3, 4, 10, 11, 12, 13, 14, 15, 16, 17, 31, 39, 46, 53, 64] hX ?_; simp [go_sem, hd]) | (refine awp_drawnG [0, 1, 2, 3, 4, 10, 11, 12, 13, 14, 15, 16, 17, 31, 39, 46, 53, 64] hX mixed (by kernel_rfl) ?_; simp [go_sem, hd]) | (refine awp_ret ?_; simp [go_sem, hd]) | (refine awp_skip ?_; simp [go_sem, hd]) | (refine awp_exit ?_; simp [go_sem, hd])))
        refine awp_cond (b := (counted L vs u)[k].yes) (by simp [go_sem]) (fun he => ?_) (fun he => ?_)
        · (repeat (first | refine awp_seq ?_ | refine awp_block ?_ | (refine awp_runG [0, 1, 2, 3, 4, 10, 11, 12, 13, 14, 15, 16, 17, 31, 39, 46, 53, 64] hX ?_; (simp [go_sem]; try simp (disch := omega) only [w64, td, tm])) | (refine awp_drawnG [0, 1, 2, 3, 4, 10, 11, 12, 13, 14, 15, 16, 17, 31, 39, 46, 53, 64] hX mixed (by kernel_rfl) ?_; (simp [go_sem]; try simp (disch := omega) only [w64, td, tm])) | (refine awp_ret ?_; (simp [go_sem]; try simp (disch := omega) only [w64, td, tm])) | (refine awp_skip ?_; (simp [go_sem]; try simp (disch := omega) only [w64, td, tm])) | (refine awp_exit ?_; (simp [go_sem]; try simp (disch := omega) only [w64, td, tm]))))
          refine ⟨k + 1, by omega, by omega, ?_⟩
          refine sub_of _ [] (by simp [go_sem]) ?_
          simp [go_sem, hs, he]
          omega
        · (repeat (first | refine awp_seq ?_ | refine awp_block ?_ | (refine awp_runG [0, 1, 2, 3, 4, 10, 11, 12, 13, 14, 15, 16, 17, 31, 39, 46, 53, 64] hX ?_; (simp [go_sem]; try simp (disch := omega) only [w64, td, tm])) | (refine awp_drawnG [0, 1, 2, 3, 4, 10, 11, 12, 13, 14, 15, 16, 17, 31, 39, 46, 53, 64] hX mixed (by kernel_rfl) ?_; (simp [go_sem]; try simp (disch := omega) only [w64, td, tm])) | (refine awp_ret ?_; (simp [go_sem]; try simp (disch := omega) only [w64, td, tm])) | (refine awp_skip ?_; (simp [go_sem]; try simp (disch := omega) only [w64, td, tm])) | (refine awp_exit ?_; (simp [go_sem]; try simp (disch := omega) only [w64, td, tm]))))
          refine ⟨k + 1, by omega, by omega, ?_⟩
          refine sub_of _ [] (by simp [go_sem]) ?_
          simp [go_sem, hs, he]
          omega
      · simp at hd
        have e : (counted L vs u).take k = counted L vs u := List.take_of_length_le (by omega)
        have ek : k = (counted L vs u).length := by omega
        rw [e] at hy
        (repeat (first | refine awp_seq ?_ | refine awp_block ?_ | (refine awp_runG [0, 1, 2, 3, 4, 10, 11, 12, 13, 14, 15, 16, 17, 31, 39, 46, 53, 64] hX ?_; simp [go_sem, e]) | (refine awp_drawnG [0, 1, 2, 3, 4, 10, 11, 12, 13, 14, 15, 16, 17, 31, 39, 46, 53, 64] hX mixed (by kernel_rfl) ?_; simp [go_sem, e]) | (refine awp_ret ?_; simp [go_sem, e]) | (refine awp_skip ?_; simp [go_sem, e]) | (refine awp_exit ?_; simp [go_sem, e])))
        refine awp_cond (b := decide (nNeed L.length share ≤ yesN (counted L vs u))) (by simp [go_sem]) (fun he => ?_) (fun he => ?_)
        · simp at he
          (repeat (first | refine awp_seq ?_ | refine awp_block ?_ | (refine awp_runG [0, 1, 2, 3, 4, 10, 11, 12, 13, 14, 15, 16, 17, 31, 39, 46, 53, 64] hX ?_; simp [go_sem]) | (refine awp_drawnG [0, 1, 2, 3, 4, 10, 11, 12, 13, 14, 15, 16, 17, 31, 39, 46, 53, 64] hX mixed (by kernel_rfl) ?_; simp [go_sem]) | (refine awp_ret ?_; simp [go_sem]) | (refine awp_skip ?_; simp [go_sem]) | (refine awp_exit ?_; simp [go_sem])))
          simp [tally, tErr, hb', says, he]
        · simp at he
          have he' : ¬ (nNeed L.length share ≤ yesN (counted L vs u)) := by omega
          (repeat (first | refine awp_seq ?_ | refine awp_block ?_ | (refine awp_runG [0, 1, 2, 3, 4, 10, 11, 12, 13, 14, 15, 16, 17, 31, 39, 46, 53, 64] hX ?_; (simp [go_sem]; try simp (disch := omega) only [w64, td, tm])) | (refine awp_drawnG [0, 1, 2, 3, 4, 10, 11, 12, 13, 14, 15, 16, 17, 31, 39, 46, 53, 64] hX mixed (by kernel_rfl) ?_; (simp [go_sem]; try simp (disch := omega) only [w64, td, tm])) | (refine awp_ret ?_; (simp [go_sem]; try simp (disch := omega) only [w64, td, tm])) | (refine awp_skip ?_; (simp [go_sem]; try simp (disch := omega) only [w64, td, tm])) | (refine awp_exit ?_; (simp [go_sem]; try simp (disch := omega) only [w64, td, tm]))))
          refine awp_cond (b := decide ((L.length : Int) - nNeed L.length share < (k : Int) - yesN (counted L vs u)) || decide (u < day)) (by simp [go_sem]) (fun hf => ?_) (fun hf => ?_)
          · simp at hf
            (repeat (first | refine awp_seq ?_ | refine awp_block ?_ | (refine awp_runG [0, 1, 2, 3, 4, 10, 11, 12, 13, 14, 15, 16, 17, 31, 39, 46, 53, 64] hX ?_; simp [go_sem]) | (refine awp_drawnG [0, 1, 2, 3, 4, 10, 11, 12, 13, 14, 15, 16, 17, 31, 39, 46, 53, 64] hX mixed (by kernel_rfl) ?_; simp [go_sem]) | (refine awp_ret ?_; simp [go_sem]) | (refine awp_skip ?_; simp [go_sem]) | (refine awp_exit ?_; simp [go_sem])))
            simp only [tally, tErr, hb', says, he', if_false, ← ek]
            by_cases h1 : (L.length : Int) - nNeed L.length share < (k : Int) - yesN (counted L vs u)
            · simp [h1]
            · have h2 : u < day := hf.resolve_left h1
              simp [h1, h2]
          · simp at hf
            (repeat (first | refine awp_seq ?_ | refine awp_block ?_ | (refine awp_runG [0, 1, 2, 3, 4, 10, 11, 12, 13, 14, 15, 16, 17, 31, 39, 46, 53, 64] hX ?_; simp [go_sem]) | (refine awp_drawnG [0, 1, 2, 3, 4, 10, 11, 12, 13, 14, 15, 16, 17, 31, 39, 46, 53, 64] hX mixed (by kernel_rfl) ?_; simp [go_sem]) | (refine awp_ret ?_; simp [go_sem]) | (refine awp_skip ?_; simp [go_sem]) | (refine awp_exit ?_; simp [go_sem])))
            simp only [tally, tErr, hb', says, he', if_false, ← ek]
            have h1 : ¬ ((L.length : Int) - nNeed L.length share < (k : Int) - yesN (counted L vs u)) := by omega
            have h2 : ¬ (u < day) := by omega
            simp [h1, h2]

theorem tallyT_m (L : List Int) (hl : L.length ≤ 100000) (vs : List V) (hv : vs.length ≤ 100000) (i : Nat) (share u : Int) :
    Means true Try.prog 11 [.sl (L.map ii), .sl ((vs.map vo).take i), ii share, ii u, ii u] (.tup [ii (tally L (vs.take i) share u u), ii (tErr L share)]) := by
  rw [← List.map_take]
  exact tally_m L hl _ (by simp; omega) share u u
theorem tallyRT_m (L : List Int) (hl : L.length ≤ 100000) (vs : List V) (hv : vs.length ≤ 100000) (i : Nat) (share u : Int) :
    Means true Try.prog 12 [.sl (L.map ii), .sl ((vs.map vo).take i), ii share, ii u, ii u] (.tup [ii (tally L (vs.take i) share u u), ii (tErr L share)]) := by
  rw [← List.map_take]
  exact tallyR_m L hl _ (by simp; omega) share u u

theorem decAt_eq (L : List Int) (vs : List V) (share u : Int) (i : Nat) : (decide (tErr L share = 0) && !decide (tally L (vs.take (i + 1)) share u u = 0)) = decAt L vs share u i := by
  unfold decAt tErr
  cases tBad L share <;> simp

set_option maxHeartbeats 400000 in
theorem decides_m (L : List Int) (hl : L.length ≤ 100000) (vs : List V) (hv : vs.length ≤ 100000) (share u : Int) :
    Means true Try.prog 13 [.sl (L.map ii), .sl (vs.map vo), ii share, ii u] (.tup [ii (decI L vs share u), bb (decB L vs share u)]) := by
  refine means_fn true 38 [.tmp 8, .tmp 9] Try.func13 rfl rfl rfl (by simp) rfl fun X hX => ?_
  (repeat (first | refine awp_seq ?_ | refine awp_block ?_ | (refine awp_runG [0, 1, 2, 3, 8, 9, 10, 11, 12, 14, 15, 16, 35] hX ?_; simp [go_sem]) | (refine awp_drawnG [0, 1, 2, 3, 8, 9, 10, 11, 12, 14, 15, 16, 35] hX mixed (by kernel_rfl) ?_; simp [go_sem]) | (refine awp_ret ?_; simp [go_sem]) | (refine awp_skip ?_; simp [go_sem]) | (refine awp_exit ?_; simp [go_sem])))
  refine awp_loop (fun k : Nat => ⟨mkE [(0, .sl (L.map ii)), (1, .sl (vs.map vo)), (2, ii share), (3, ii u), (8, ii 0), (9, bb false), (14, ii vs.length), (15, ii k)], []⟩) (fun k => k ≤ vs.length ∧ ∀ i, i < k → decAt L vs share u i = false) (fun k => vs.length - k) 0 ?_ ?_ ?_
  · refine sub_of _ [] (by simp [go_sem]) ?_
    simp [go_sem]
  · simp
  · rintro k ⟨hk, hn⟩
    (repeat (first | refine awp_seq ?_ | refine awp_block ?_ | (refine awp_runG [0, 1, 2, 3, 8, 9, 10, 11, 12, 14, 15, 16, 35] hX ?_; simp [go_sem]) | (refine awp_drawnG [0, 1, 2, 3, 8, 9, 10, 11, 12, 14, 15, 16, 35] hX mixed (by kernel_rfl) ?_; simp [go_sem]) | (refine awp_ret ?_; simp [go_sem]) | (refine awp_skip ?_; simp [go_sem]) | (refine awp_exit ?_; simp [go_sem])))
    refine awp_cond (b := decide (k < vs.length)) (by simp [go_sem]) (fun hc => ?_) (fun hc => ?_)
    · simp at hc
      (repeat (first | refine awp_seq ?_ | refine awp_block ?_ | (refine awp_runG [0, 1, 2, 3, 8, 9, 10, 11, 12, 14, 15, 16, 35] hX ?_; (simp [go_sem]; try simp (disch := omega) only [w64, td, tm])) | (refine awp_drawnG [0, 1, 2, 3, 8, 9, 10, 11, 12, 14, 15, 16, 35] hX mixed (by kernel_rfl) ?_; (simp [go_sem]; try simp (disch := omega) only [w64, td, tm])) | (refine awp_ret ?_; (simp [go_sem]; try simp (disch := omega) only [w64, td, tm])) | (refine awp_skip ?_; (simp [go_sem]; try simp (disch := omega) only [w64, td, tm])) | (refine awp_exit ?_; (simp [go_sem]; try simp (disch := omega) only [w64, td, tm]))))
      have et : ((k : Int) + 1).toNat = k + 1 := by omega
      rw [et]
      refine ⟨by omega, ?_⟩
      refine callK_intro (tallyT_m L hl vs hv (k + 1) share u) rfl (by simp [go_sem]) ?_
      try simp [go_sem]
      (repeat (first | refine awp_seq ?_ | refine awp_block ?_ | (refine awp_runG [0, 1, 2, 3, 8, 9, 10, 11, 12, 14, 15, 16, 35] hX ?_; simp [go_sem]) | (refine awp_drawnG [0, 1, 2, 3, 8, 9, 10, 11, 12, 14, 15, 16, 35] hX mixed (by kernel_rfl) ?_; simp [go_sem]) | (refine awp_ret ?_; simp [go_sem]) | (refine awp_skip ?_; simp [go_sem]) | (refine awp_exit ?_; simp [go_sem])))
      refine awp_cond (b := decAt L vs share u k) (by rw [← decAt_eq]; simp [go_sem]) (fun hd => ?_) (fun hd => ?_)
      · (repeat (first | refine awp_seq ?_ | refine awp_block ?_ | (refine awp_runG [0, 1, 2, 3, 8, 9, 10, 11, 12, 14, 15, 16, 35] hX ?_; simp [go_sem]) | (refine awp_drawnG [0, 1, 2, 3, 8, 9, 10, 11, 12, 14, 15, 16, 35] hX mixed (by kernel_rfl) ?_; simp [go_sem]) | (refine awp_ret ?_; simp [go_sem]) | (refine awp_skip ?_; simp [go_sem]) | (refine awp_exit ?_; simp [go_sem])))
        simp [decI, decB, dec_at hc hd hn]
      · (repeat (first | refine awp_seq ?_ | refine awp_block ?_ | (refine awp_runG [0, 1, 2, 3, 8, 9, 10, 11, 12, 14, 15, 16, 35] hX ?_; (simp [go_sem]; try simp (disch := omega) only [w64, td, tm])) | (refine awp_drawnG [0, 1, 2, 3, 8, 9, 10, 11, 12, 14, 15, 16, 35] hX mixed (by kernel_rfl) ?_; (simp [go_sem]; try simp (disch := omega) only [w64, td, tm])) | (refine awp_ret ?_; (simp [go_sem]; try simp (disch := omega) only [w64, td, tm])) | (refine awp_skip ?_; (simp [go_sem]; try simp (disch := omega) only [w64, td, tm])) | (refine awp_exit ?_; (simp [go_sem]; try simp (disch := omega) only [w64, td, tm]))))
        refine ⟨k + 1, ⟨by omega, fun i hi => ?_⟩, by omega, ?_⟩
        · by_cases e : i = k
          · subst e; exact hd
          · exact hn i (by omega)
        · refine sub_of _ [] (by simp [go_sem]) ?_
          simp [go_sem]
    · simp at hc
      (repeat (first | refine awp_seq ?_ | refine awp_block ?_ | (refine awp_runG [0, 1, 2, 3, 8, 9, 10, 11, 12, 14, 15, 16, 35] hX ?_; simp [go_sem]) | (refine awp_drawnG [0, 1, 2, 3, 8, 9, 10, 11, 12, 14, 15, 16, 35] hX mixed (by kernel_rfl) ?_; simp [go_sem]) | (refine awp_ret ?_; simp [go_sem]) | (refine awp_skip ?_; simp [go_sem]) | (refine awp_exit ?_; simp [go_sem])))
      have : k = vs.length := by omega
      subst this
      simp [decI, decB, dec_none hn]

set_option maxHeartbeats 400000 in
theorem decidesR_m (L : List Int) (hl : L.length ≤ 100000) (vs : List V) (hv : vs.length ≤ 100000) (share u : Int) :
    Means true Try.prog 14 [.sl (L.map ii), .sl (vs.map vo), ii share, ii u] (.tup [ii (decI L vs share u), bb (decB L vs share u)]) := by
  refine means_fn true 38 [.tmp 8, .tmp 9] Try.func14 rfl rfl rfl (by simp) rfl fun X hX => ?_
  (repeat (first | refine awp_seq ?_ | refine awp_block ?_ | (refine awp_runG [0, 1, 2, 3, 8, 9, 10, 11, 12, 16, 36] hX ?_; simp [go_sem]) | (refine awp_drawnG [0, 1, 2, 3, 8, 9, 10, 11, 12, 16, 36] hX mixed (by kernel_rfl) ?_; simp [go_sem]) | (refine awp_ret ?_; simp [go_sem]) | (refine awp_skip ?_; simp [go_sem]) | (refine awp_exit ?_; simp [go_sem])))
  refine awp_loop (fun k : Nat => ⟨mkE [(0, .sl (L.map ii)), (1, .sl (vs.map vo)), (2, ii share), (3, ii u), (8, ii 0), (9, bb false), (10, ii k)], []⟩) (fun k => k ≤ vs.length ∧ ∀ i, i < k → decAt L vs share u i = false) (fun k => vs.length - k) 0 ?_ ?_ ?_
  · refine sub_of _ [] (by simp [go_sem]) ?_
    simp [go_sem]
  · simp
  · rintro k ⟨hk, hn⟩
    (repeat (first | refine awp_seq ?_ | refine awp_block ?_ | (refine awp_runG [0, 1, 2, 3, 8, 9, 10, 11, 12, 16, 36] hX ?_; simp [go_sem]) | (refine awp_drawnG [0, 1, 2, 3, 8, 9, 10, 11, 12, 16, 36] hX mixed (by kernel_rfl) ?_; simp [go_sem]) | (refine awp_ret ?_; simp [go_sem]) | (refine awp_skip ?_; simp [go_sem]) | (refine awp_exit ?_; simp [go_sem])))
    refine awp_cond (b := decide (k < vs.length)) (by simp [go_sem]) (fun hc => ?_) (fun hc => ?_)
    · simp at hc
      (repeat (first | refine awp_seq ?_ | refine awp_block ?_ | (refine awp_runG [0, 1, 2, 3, 8, 9, 10, 11, 12, 16, 36] hX ?_; (simp [go_sem]; try simp (disch := omega) only [w64, td, tm])) | (refine awp_drawnG [0, 1, 2, 3, 8, 9, 10, 11, 12, 16, 36] hX mixed (by kernel_rfl) ?_; (simp [go_sem]; try simp (disch := omega) only [w64, td, tm])) | (refine awp_ret ?_; (simp [go_sem]; try simp (disch := omega) only [w64, td, tm])) | (refine awp_skip ?_; (simp [go_sem]; try simp (disch := omega) only [w64, td, tm])) | (refine awp_exit ?_; (simp [go_sem]; try simp (disch := omega) only [w64, td, tm]))))
      have et : ((k : Int) + 1).toNat = k + 1 := by omega
      rw [et]
      refine ⟨by omega, ?_⟩
      refine callK_intro (tallyRT_m L hl vs hv (k + 1) share u) rfl (by simp [go_sem]) ?_
      try simp [go_sem]
      (repeat (first | refine awp_seq ?_ | refine awp_block ?_ | (refine awp_runG [0, 1, 2, 3, 8, 9, 10, 11, 12, 16, 36] hX ?_; simp [go_sem]) | (refine awp_drawnG [0, 1, 2, 3, 8, 9, 10, 11, 12, 16, 36] hX mixed (by kernel_rfl) ?_; simp [go_sem]) | (refine awp_ret ?_; simp [go_sem]) | (refine awp_skip ?_; simp [go_sem]) | (refine awp_exit ?_; simp [go_sem])))
      refine awp_cond (b := decAt L vs share u k) (by rw [← decAt_eq]; simp [go_sem]) (fun hd => ?_) (fun hd => ?_)
      · (repeat (first | refine awp_seq ?_ | refine awp_block ?_ | (refine awp_runG [0, 1, 2, 3, 8, 9, 10, 11, 12, 16, 36] hX ?_; simp [go_sem]) | (refine awp_drawnG [0, 1, 2, 3, 8, 9, 10, 11, 12, 16, 36] hX mixed (by kernel_rfl) ?_; simp [go_sem]) | (refine awp_ret ?_; simp [go_sem]) | (refine awp_skip ?_; simp [go_sem]) | (refine awp_exit ?_; simp [go_sem])))
        simp [decI, decB, dec_at hc hd hn]
      · (repeat (first | refine awp_seq ?_ | refine awp_block ?_ | (refine awp_runG [0, 1, 2, 3, 8, 9, 10, 11, 12, 16, 36] hX ?_; (simp [go_sem]; try simp (disch := omega) only [w64, td, tm])) | (refine awp_drawnG [0, 1, 2, 3, 8, 9, 10, 11, 12, 16, 36] hX mixed (by kernel_rfl) ?_; (simp [go_sem]; try simp (disch := omega) only [w64, td, tm])) | (refine awp_ret ?_; (simp [go_sem]; try simp (disch := omega) only [w64, td, tm])) | (refine awp_skip ?_; (simp [go_sem]; try simp (disch := omega) only [w64, td, tm])) | (refine awp_exit ?_; (simp [go_sem]; try simp (disch := omega) only [w64, td, tm]))))
        refine ⟨k + 1, ⟨by omega, fun i hi => ?_⟩, by omega, ?_⟩
        · by_cases e : i = k
          · subst e; exact hd
          · exact hn i (by omega)
        · refine sub_of _ [] (by simp [go_sem]) ?_
          simp [go_sem]
    · simp at hc
      (repeat (first | refine awp_seq ?_ | refine awp_block ?_ | (refine awp_runG [0, 1, 2, 3, 8, 9, 10, 11, 12, 16, 36] hX ?_; simp [go_sem]) | (refine awp_drawnG [0, 1, 2, 3, 8, 9, 10, 11, 12, 16, 36] hX mixed (by kernel_rfl) ?_; simp [go_sem]) | (refine awp_ret ?_; simp [go_sem]) | (refine awp_skip ?_; simp [go_sem]) | (refine awp_exit ?_; simp [go_sem])))
      have : k = vs.length := by omega
      subst this
      simp [decI, decB, dec_none hn]

end Go.Proofs.Ytgccheogieddnaa
