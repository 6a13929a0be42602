/-
  The walk of the second law of layer 31.
-/
import Derived.Test.YtgccheogieddnaaVoteF
import Derived.Test.YtgccheogieddnaaVoteU
set_option linter.all false
namespace Go.Proofs.Ytgccheogieddnaa
open Go.RowKit Go.Ab
attribute [local irreducible] AWP Go.Ab.Sub Means CallK CallG

set_option maxRecDepth 20000 in
set_option maxHeartbeats 2000000 in
theorem voteNeeds_m (many : Int) (hm : 0 ≤ many ∧ many ≤ 255) (share : Int) (hs : 0 ≤ share ∧ share ≤ 65535) (start : Int) (hst : 0 ≤ start ∧ start ≤ 255) :
    Means true Try.prog 7 [.v (.int .u8 many), .v (.int .u16 share), .v (.int .u8 start)] (bb true) := by
  refine means_fn true 167 [.tmp 6] Try.func7 rfl rfl rfl (by simp) rfl fun X hX => ?_
  obtain ⟨st, rfl⟩ := Int.eq_ofNat_of_zero_le hst.1
  have hs1 := Int.emod_nonneg share (b := 1001) (by omega)
  have hs2 := Int.emod_lt_of_pos share (b := 1001) (by omega)
  have hm1 := Int.emod_nonneg many (b := 60) (by omega)
  have hm2 := Int.emod_lt_of_pos many (b := 60) (by omega)
  obtain ⟨s, hsv⟩ : ∃ s : Int, share % 1001 = s := ⟨_, rfl⟩
  obtain ⟨n, hnv⟩ : ∃ n : Nat, 1 + many % 60 = n := ⟨(1 + many % 60).toNat, by omega⟩
  obtain ⟨q, hq, hq1, hqn, hq2, hq3⟩ := need_spec (n := n) (s := s) (by omega) (by omega) (by omega) (by omega)
  obtain ⟨t1, t2, t3, t4⟩ := needs (n := n) (s := s) (by omega) (by omega) (by omega) (by omega) hq hq1 hqn st
  have he : tErr (rng n) s = 0 := by simp [tErr, tBad_rng (n := n) (s := s) (by omega) (by omega) (by omega) (by omega)]
  have hn1 := needed_m n s
  have hnb : nBad n s = false := by simp [nBad]; omega
  have hp := mul_bd (m := n) (s := s) (by omega) (by omega) (by omega) (by omega)
  have hw : IntKind.i64.wrap (n * s) = n * s := by rw [w64] <;> omega
  have hb2 : nBad n 1001 = true := by simp [nBad]
  have hb3 : nBad 61 s = true := by simp [nBad]
  have hn2 := needed_m n 1001
  have hn3 := needed_m 61 s
  rw [hq] at hn1
  simp only [hnb, hb2, hb3, if_true, if_false, Bool.false_eq_true] at hn1 hn2 hn3
  (repeat (first | refine awp_seq ?_ | refine awp_block ?_ | (refine awp_runG [0, 1, 2, 6, 7, 8, 9, 10, 11, 12, 13, 14, 15, 17, 19, 21, 22, 24, 26, 72, 75] hX ?_; simp [go_sem]) | (refine awp_drawnG [0, 1, 2, 6, 7, 8, 9, 10, 11, 12, 13, 14, 15, 17, 19, 21, 22, 24, 26, 72, 75] hX mixed (by kernel_rfl) ?_; simp [go_sem]) | (refine awp_ret ?_; simp [go_sem]) | (refine awp_skip ?_; simp [go_sem]) | (refine awp_exit ?_; simp [go_sem])))
  refine callK_intro (small_m) rfl (by simp [go_sem]) ?_
  try simp [go_sem]
  (repeat (first | refine awp_seq ?_ | refine awp_block ?_ | (refine awp_runG [0, 1, 2, 6, 7, 8, 9, 10, 11, 12, 13, 14, 15, 17, 19, 21, 22, 24, 26, 72, 75] hX ?_; (simp [go_sem, hsv, hnv]; try simp (disch := omega) only [w64, td, tm])) | (refine awp_drawnG [0, 1, 2, 6, 7, 8, 9, 10, 11, 12, 13, 14, 15, 17, 19, 21, 22, 24, 26, 72, 75] hX mixed (by kernel_rfl) ?_; (simp [go_sem, hsv, hnv]; try simp (disch := omega) only [w64, td, tm])) | (refine awp_ret ?_; (simp [go_sem, hsv, hnv]; try simp (disch := omega) only [w64, td, tm])) | (refine awp_skip ?_; (simp [go_sem, hsv, hnv]; try simp (disch := omega) only [w64, td, tm])) | (refine awp_exit ?_; (simp [go_sem, hsv, hnv]; try simp (disch := omega) only [w64, td, tm]))))
  refine callK_intro (hn1) rfl (by simp [go_sem]) ?_
  try simp [go_sem]
  (repeat (first | refine awp_seq ?_ | refine awp_block ?_ | (refine awp_runG [0, 1, 2, 6, 7, 8, 9, 10, 11, 12, 13, 14, 15, 17, 19, 21, 22, 24, 26, 72, 75] hX ?_; (simp [go_sem, hw]; try simp (disch := omega) only [w64, td, tm])) | (refine awp_drawnG [0, 1, 2, 6, 7, 8, 9, 10, 11, 12, 13, 14, 15, 17, 19, 21, 22, 24, 26, 72, 75] hX mixed (by kernel_rfl) ?_; (simp [go_sem, hw]; try simp (disch := omega) only [w64, td, tm])) | (refine awp_ret ?_; (simp [go_sem, hw]; try simp (disch := omega) only [w64, td, tm])) | (refine awp_skip ?_; (simp [go_sem, hw]; try simp (disch := omega) only [w64, td, tm])) | (refine awp_exit ?_; (simp [go_sem, hw]; try simp (disch := omega) only [w64, td, tm]))))
  (repeat refine And.intro (by first | omega | (unfold maxLen; omega) | (refine ⟨by first | omega | (unfold maxLen; omega), by first | omega | (unfold maxLen; omega)⟩) | grind) ?_)
  refine awp_cond (b := false) (by simp [go_sem]; omega) (fun h => by simp at h) (fun _ => ?_)
  (repeat (first | refine awp_seq ?_ | refine awp_block ?_ | (refine awp_runG [0, 1, 2, 6, 7, 8, 9, 10, 11, 12, 13, 14, 15, 17, 19, 21, 22, 24, 26, 72, 75] hX ?_; (simp [go_sem]; try simp (disch := omega) only [w64, td, tm])) | (refine awp_drawnG [0, 1, 2, 6, 7, 8, 9, 10, 11, 12, 13, 14, 15, 17, 19, 21, 22, 24, 26, 72, 75] hX mixed (by kernel_rfl) ?_; (simp [go_sem]; try simp (disch := omega) only [w64, td, tm])) | (refine awp_ret ?_; (simp [go_sem]; try simp (disch := omega) only [w64, td, tm])) | (refine awp_skip ?_; (simp [go_sem]; try simp (disch := omega) only [w64, td, tm])) | (refine awp_exit ?_; (simp [go_sem]; try simp (disch := omega) only [w64, td, tm]))))
  refine awp_loop (fun k : Nat => ⟨mkE [(2, .v (.int .u8 st)), (6, bb false), (7, bb true), (8, ii n), (9, ii s), (10, ii q), (11, ii 0), (12, .ow 0), (13, .ow 1), (14, ii k)],
    [.row ⟨3, 1, (rng k).map ii⟩, .row ⟨38, 4, (sp n q st k).map vo⟩]⟩) (fun k => k ≤ n) (fun k => n - k) 0 ?_ ?_ ?_
  · refine sub_of _ [.birth 3 1, .birth 38 4] (by simp [go_sem]) ?_
    simp [go_sem, rng, sp]
  · simp
  · rintro k hk
    have hr1 := rng_len k
    have hr2 := sp_len n q st k
    (repeat (first | refine awp_seq ?_ | refine awp_block ?_ | (refine awp_runG [0, 1, 2, 6, 7, 8, 9, 10, 11, 12, 13, 14, 15, 17, 19, 21, 22, 24, 26, 72, 75] hX ?_; simp [go_sem]) | (refine awp_drawnG [0, 1, 2, 6, 7, 8, 9, 10, 11, 12, 13, 14, 15, 17, 19, 21, 22, 24, 26, 72, 75] hX mixed (by kernel_rfl) ?_; simp [go_sem]) | (refine awp_ret ?_; simp [go_sem]) | (refine awp_skip ?_; simp [go_sem]) | (refine awp_exit ?_; simp [go_sem])))
    refine awp_cond (b := decide (k < n)) (by simp [go_sem]) (fun hc => ?_) (fun hc => ?_)
    · simp at hc
      have hmz := Int.emod_nonneg ((k : Int) + st) (b := (n : Int)) (by omega)
      have hv := voice_m (((k : Int) + st) % n) (decide (k < q)) 3
      have er : (rng (k + 1)).map ii = (rng k).map ii ++ [ii k] := by simp [rng_succ]
      have es : (sp n q st (k + 1)).map vo = (sp n q st k).map vo ++ [vo ⟨0, ((k : Int) + st) % n, decide (k < q), 3⟩] := by simp [sp_succ, spv]
      (repeat (first | refine awp_seq ?_ | refine awp_block ?_ | (refine awp_runG [0, 1, 2, 6, 7, 8, 9, 10, 11, 12, 13, 14, 15, 17, 19, 21, 22, 24, 26, 72, 75] hX ?_; (simp [go_sem, rng_len, sp_len]; try simp (disch := omega) only [w64, td, tm])) | (refine awp_drawnG [0, 1, 2, 6, 7, 8, 9, 10, 11, 12, 13, 14, 15, 17, 19, 21, 22, 24, 26, 72, 75] hX mixed (by kernel_rfl) ?_; (simp [go_sem, rng_len, sp_len]; try simp (disch := omega) only [w64, td, tm])) | (refine awp_ret ?_; (simp [go_sem, rng_len, sp_len]; try simp (disch := omega) only [w64, td, tm])) | (refine awp_skip ?_; (simp [go_sem, rng_len, sp_len]; try simp (disch := omega) only [w64, td, tm])) | (refine awp_exit ?_; (simp [go_sem, rng_len, sp_len]; try simp (disch := omega) only [w64, td, tm]))))
      (repeat refine And.intro (by first | omega | (unfold maxLen; omega) | (refine ⟨by first | omega | (unfold maxLen; omega), by first | omega | (unfold maxLen; omega)⟩) | grind) ?_)
      (repeat (first | refine awp_seq ?_ | refine awp_block ?_ | (refine awp_runG [0, 1, 2, 6, 7, 8, 9, 10, 11, 12, 13, 14, 15, 17, 19, 21, 22, 24, 26, 72, 75] hX ?_; (simp [go_sem, rng_len, sp_len]; try simp (disch := omega) only [w64, td, tm])) | (refine awp_drawnG [0, 1, 2, 6, 7, 8, 9, 10, 11, 12, 13, 14, 15, 17, 19, 21, 22, 24, 26, 72, 75] hX mixed (by kernel_rfl) ?_; (simp [go_sem, rng_len, sp_len]; try simp (disch := omega) only [w64, td, tm])) | (refine awp_ret ?_; (simp [go_sem, rng_len, sp_len]; try simp (disch := omega) only [w64, td, tm])) | (refine awp_skip ?_; (simp [go_sem, rng_len, sp_len]; try simp (disch := omega) only [w64, td, tm])) | (refine awp_exit ?_; (simp [go_sem, rng_len, sp_len]; try simp (disch := omega) only [w64, td, tm]))))
      (repeat refine And.intro (by first | omega | (unfold maxLen; omega) | (refine ⟨by first | omega | (unfold maxLen; omega), by first | omega | (unfold maxLen; omega)⟩) | grind) ?_)
      refine callK_intro (hv) rfl (by simp [go_sem]) ?_
      try simp [go_sem]
      (repeat (first | refine awp_seq ?_ | refine awp_block ?_ | (refine awp_runG [0, 1, 2, 6, 7, 8, 9, 10, 11, 12, 13, 14, 15, 17, 19, 21, 22, 24, 26, 72, 75] hX ?_; (simp [go_sem, rng_len, sp_len]; try simp (disch := omega) only [w64, td, tm])) | (refine awp_drawnG [0, 1, 2, 6, 7, 8, 9, 10, 11, 12, 13, 14, 15, 17, 19, 21, 22, 24, 26, 72, 75] hX mixed (by kernel_rfl) ?_; (simp [go_sem, rng_len, sp_len]; try simp (disch := omega) only [w64, td, tm])) | (refine awp_ret ?_; (simp [go_sem, rng_len, sp_len]; try simp (disch := omega) only [w64, td, tm])) | (refine awp_skip ?_; (simp [go_sem, rng_len, sp_len]; try simp (disch := omega) only [w64, td, tm])) | (refine awp_exit ?_; (simp [go_sem, rng_len, sp_len]; try simp (disch := omega) only [w64, td, tm]))))
      (repeat refine And.intro (by first | omega | (unfold maxLen; omega) | (refine ⟨by first | omega | (unfold maxLen; omega), by first | omega | (unfold maxLen; omega)⟩) | grind) ?_)
      (repeat (first | refine awp_seq ?_ | refine awp_block ?_ | (refine awp_runG [0, 1, 2, 6, 7, 8, 9, 10, 11, 12, 13, 14, 15, 17, 19, 21, 22, 24, 26, 72, 75] hX ?_; (simp [go_sem, rng_len, sp_len]; try simp (disch := omega) only [w64, td, tm])) | (refine awp_drawnG [0, 1, 2, 6, 7, 8, 9, 10, 11, 12, 13, 14, 15, 17, 19, 21, 22, 24, 26, 72, 75] hX mixed (by kernel_rfl) ?_; (simp [go_sem, rng_len, sp_len]; try simp (disch := omega) only [w64, td, tm])) | (refine awp_ret ?_; (simp [go_sem, rng_len, sp_len]; try simp (disch := omega) only [w64, td, tm])) | (refine awp_skip ?_; (simp [go_sem, rng_len, sp_len]; try simp (disch := omega) only [w64, td, tm])) | (refine awp_exit ?_; (simp [go_sem, rng_len, sp_len]; try simp (disch := omega) only [w64, td, tm]))))
      refine ⟨k + 1, by omega, by omega, ?_⟩
      rw [er, es]

      refine sub_of _ [.old 3 ⟨3, 1, (rng k).map ii ++ [ii k]⟩, .old 5 ⟨38, 4, (sp n q st k).map vo ++ [vo ⟨0, ((k : Int) + st) % n, decide (k < q), 3⟩]⟩] (by simp [go_sem]) ?_
      simp [go_sem]
    · simp at hc
      have : k = n := by omega
      rw [this]
      refine awp_sub (st0 := ⟨mkE [(2, .v (.int .u8 st)), (6, bb false), (7, bb true), (8, ii n), (9, ii s), (10, ii q), (11, ii 0), (12, .sl ((rng n).map ii)), (13, .sl ((sp n q st n).map vo))], []⟩) ?_ ?_
      · refine sub_of _ [] (by simp [go_sem]) ?_
        simp [go_sem]
      · have hv1 := tally_m (rng n) (by rw [rng_len]; omega) (sp n q st n) (by rw [sp_len]; omega) s 3 3
        have hv2 := tally_m (rng n) (by rw [rng_len]; omega) ((sp n q st n).take (q - 1)) (by simp [sp_len]; omega) s 3 3
        have hv3 := tally_m (rng n) (by rw [rng_len]; omega) ((sp n q st n).drop 1) (by simp [sp_len]; omega) s 3 4
        have hv4 := decides_m (rng n) (by rw [rng_len]; omega) (sp n q st n) (by rw [sp_len]; omega) s 3
        rw [t1, he] at hv1
        rw [t2, he] at hv2
        rw [t3, he] at hv3
        simp only [decI, decB, t4, Option.isSome_some, List.map_take, List.map_drop] at hv1 hv2 hv3 hv4
        have hqt : ((q : Int) - 1).toNat = q - 1 := by omega
        (repeat (first | refine awp_seq ?_ | refine awp_block ?_ | (refine awp_runG [0, 1, 2, 6, 7, 8, 9, 10, 11, 12, 13, 14, 15, 17, 19, 21, 22, 24, 26, 72, 75] hX ?_; simp [go_sem]) | (refine awp_drawnG [0, 1, 2, 6, 7, 8, 9, 10, 11, 12, 13, 14, 15, 17, 19, 21, 22, 24, 26, 72, 75] hX mixed (by kernel_rfl) ?_; simp [go_sem]) | (refine awp_ret ?_; simp [go_sem]) | (refine awp_skip ?_; simp [go_sem]) | (refine awp_exit ?_; simp [go_sem])))
        refine callK_intro (hv1) rfl (by simp [go_sem]) ?_
        try simp [go_sem]
        (repeat (first | refine awp_seq ?_ | refine awp_block ?_ | (refine awp_runG [0, 1, 2, 6, 7, 8, 9, 10, 11, 12, 13, 14, 15, 17, 19, 21, 22, 24, 26, 72, 75] hX ?_; (simp [go_sem, sp_len, hqt]; try simp (disch := omega) only [w64, td, tm])) | (refine awp_drawnG [0, 1, 2, 6, 7, 8, 9, 10, 11, 12, 13, 14, 15, 17, 19, 21, 22, 24, 26, 72, 75] hX mixed (by kernel_rfl) ?_; (simp [go_sem, sp_len, hqt]; try simp (disch := omega) only [w64, td, tm])) | (refine awp_ret ?_; (simp [go_sem, sp_len, hqt]; try simp (disch := omega) only [w64, td, tm])) | (refine awp_skip ?_; (simp [go_sem, sp_len, hqt]; try simp (disch := omega) only [w64, td, tm])) | (refine awp_exit ?_; (simp [go_sem, sp_len, hqt]; try simp (disch := omega) only [w64, td, tm]))))
        (repeat refine And.intro (by first | omega | (unfold maxLen; omega) | (refine ⟨by first | omega | (unfold maxLen; omega), by first | omega | (unfold maxLen; omega)⟩) | grind) ?_)
        simp only [hqt]
        refine callK_intro (hv2) rfl (by simp [go_sem]) ?_
        try simp [go_sem]
        (repeat (first | refine awp_seq ?_ | refine awp_block ?_ | (refine awp_runG [0, 1, 2, 6, 7, 8, 9, 10, 11, 12, 13, 14, 15, 17, 19, 21, 22, 24, 26, 72, 75] hX ?_; (simp [go_sem, sp_len, hqt]; try simp (disch := omega) only [w64, td, tm])) | (refine awp_drawnG [0, 1, 2, 6, 7, 8, 9, 10, 11, 12, 13, 14, 15, 17, 19, 21, 22, 24, 26, 72, 75] hX mixed (by kernel_rfl) ?_; (simp [go_sem, sp_len, hqt]; try simp (disch := omega) only [w64, td, tm])) | (refine awp_ret ?_; (simp [go_sem, sp_len, hqt]; try simp (disch := omega) only [w64, td, tm])) | (refine awp_skip ?_; (simp [go_sem, sp_len, hqt]; try simp (disch := omega) only [w64, td, tm])) | (refine awp_exit ?_; (simp [go_sem, sp_len, hqt]; try simp (disch := omega) only [w64, td, tm]))))
        (repeat refine And.intro (by first | omega | (unfold maxLen; omega) | (refine ⟨by first | omega | (unfold maxLen; omega), by first | omega | (unfold maxLen; omega)⟩) | grind) ?_)
        (repeat (first | refine awp_seq ?_ | refine awp_block ?_ | (refine awp_runG [0, 1, 2, 6, 7, 8, 9, 10, 11, 12, 13, 14, 15, 17, 19, 21, 22, 24, 26, 72, 75] hX ?_; (simp [go_sem, sp_len, hqt]; try simp (disch := omega) only [w64, td, tm])) | (refine awp_drawnG [0, 1, 2, 6, 7, 8, 9, 10, 11, 12, 13, 14, 15, 17, 19, 21, 22, 24, 26, 72, 75] hX mixed (by kernel_rfl) ?_; (simp [go_sem, sp_len, hqt]; try simp (disch := omega) only [w64, td, tm])) | (refine awp_ret ?_; (simp [go_sem, sp_len, hqt]; try simp (disch := omega) only [w64, td, tm])) | (refine awp_skip ?_; (simp [go_sem, sp_len, hqt]; try simp (disch := omega) only [w64, td, tm])) | (refine awp_exit ?_; (simp [go_sem, sp_len, hqt]; try simp (disch := omega) only [w64, td, tm]))))
        (repeat refine And.intro (by first | omega | (unfold maxLen; omega) | (refine ⟨by first | omega | (unfold maxLen; omega), by first | omega | (unfold maxLen; omega)⟩) | grind) ?_)
        simp only [List.drop_one] at hv3
        refine callK_intro (hv3) rfl (by simp [go_sem]) ?_
        try simp [go_sem]
        (repeat (first | refine awp_seq ?_ | refine awp_block ?_ | (refine awp_runG [0, 1, 2, 6, 7, 8, 9, 10, 11, 12, 13, 14, 15, 17, 19, 21, 22, 24, 26, 72, 75] hX ?_; (simp [go_sem, sp_len, hqt]; try simp (disch := omega) only [w64, td, tm])) | (refine awp_drawnG [0, 1, 2, 6, 7, 8, 9, 10, 11, 12, 13, 14, 15, 17, 19, 21, 22, 24, 26, 72, 75] hX mixed (by kernel_rfl) ?_; (simp [go_sem, sp_len, hqt]; try simp (disch := omega) only [w64, td, tm])) | (refine awp_ret ?_; (simp [go_sem, sp_len, hqt]; try simp (disch := omega) only [w64, td, tm])) | (refine awp_skip ?_; (simp [go_sem, sp_len, hqt]; try simp (disch := omega) only [w64, td, tm])) | (refine awp_exit ?_; (simp [go_sem, sp_len, hqt]; try simp (disch := omega) only [w64, td, tm]))))
        refine callK_intro (hv4) rfl (by simp [go_sem]) ?_
        try simp [go_sem]
        (repeat (first | refine awp_seq ?_ | refine awp_block ?_ | (refine awp_runG [0, 1, 2, 6, 7, 8, 9, 10, 11, 12, 13, 14, 15, 17, 19, 21, 22, 24, 26, 72, 75] hX ?_; (simp [go_sem, sp_len, hqt]; try simp (disch := omega) only [w64, td, tm])) | (refine awp_drawnG [0, 1, 2, 6, 7, 8, 9, 10, 11, 12, 13, 14, 15, 17, 19, 21, 22, 24, 26, 72, 75] hX mixed (by kernel_rfl) ?_; (simp [go_sem, sp_len, hqt]; try simp (disch := omega) only [w64, td, tm])) | (refine awp_ret ?_; (simp [go_sem, sp_len, hqt]; try simp (disch := omega) only [w64, td, tm])) | (refine awp_skip ?_; (simp [go_sem, sp_len, hqt]; try simp (disch := omega) only [w64, td, tm])) | (refine awp_exit ?_; (simp [go_sem, sp_len, hqt]; try simp (disch := omega) only [w64, td, tm]))))
        refine callK_intro (hn2) rfl (by simp [go_sem]) ?_
        try simp [go_sem]
        (repeat (first | refine awp_seq ?_ | refine awp_block ?_ | (refine awp_runG [0, 1, 2, 6, 7, 8, 9, 10, 11, 12, 13, 14, 15, 17, 19, 21, 22, 24, 26, 72, 75] hX ?_; (simp [go_sem]; try simp (disch := omega) only [w64, td, tm])) | (refine awp_drawnG [0, 1, 2, 6, 7, 8, 9, 10, 11, 12, 13, 14, 15, 17, 19, 21, 22, 24, 26, 72, 75] hX mixed (by kernel_rfl) ?_; (simp [go_sem]; try simp (disch := omega) only [w64, td, tm])) | (refine awp_ret ?_; (simp [go_sem]; try simp (disch := omega) only [w64, td, tm])) | (refine awp_skip ?_; (simp [go_sem]; try simp (disch := omega) only [w64, td, tm])) | (refine awp_exit ?_; (simp [go_sem]; try simp (disch := omega) only [w64, td, tm]))))
        refine callK_intro (hn3) rfl (by simp [go_sem]) ?_
        try simp [go_sem]
        (repeat (first | refine awp_seq ?_ | refine awp_block ?_ | (refine awp_runG [0, 1, 2, 6, 7, 8, 9, 10, 11, 12, 13, 14, 15, 17, 19, 21, 22, 24, 26, 72, 75] hX ?_; (simp [go_sem]; try simp (disch := omega) only [w64, td, tm])) | (refine awp_drawnG [0, 1, 2, 6, 7, 8, 9, 10, 11, 12, 13, 14, 15, 17, 19, 21, 22, 24, 26, 72, 75] hX mixed (by kernel_rfl) ?_; (simp [go_sem]; try simp (disch := omega) only [w64, td, tm])) | (refine awp_ret ?_; (simp [go_sem]; try simp (disch := omega) only [w64, td, tm])) | (refine awp_skip ?_; (simp [go_sem]; try simp (disch := omega) only [w64, td, tm])) | (refine awp_exit ?_; (simp [go_sem]; try simp (disch := omega) only [w64, td, tm]))))
        omega

end Go.Proofs.Ytgccheogieddnaa
