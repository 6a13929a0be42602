/-
  The walk of the third law of layer 31.
-/
import Derived.Test.YtgccheogieddnaaVoteD
import Derived.Test.YtgccheogieddnaaVoteP
set_option linter.all false
namespace Go.Proofs.Ytgccheogieddnaa
open Go.RowKit Go.Ab
attribute [local irreducible] AWP Go.Ab.Sub Means CallK CallG

def whos (l : List V) : List Int := l.map V.who
theorem whos_len (l : List V) : (whos l).length = l.length := List.length_map _
theorem whos_snoc (l : List V) (v : V) : whos (l ++ [v]) = whos l ++ [v.who] := by simp [whos]
theorem spoke_idx (w : Int) (l : List V) : decide (0 ≤ idx (whos l) w) = spoke w l := by simp [idx_nonneg, spoke, whos]
def cBad (L : List Int) (vs : List V) (share : Int) : Bool := decide (60 < (L.length : Int)) || !okM L || decide (40 < (vs.length : Int)) || decide (share < 0) || decide (1000 < share)

set_option maxRecDepth 20000 in
set_option maxHeartbeats 2000000 in
theorem voteCounts_m (L : List Int) (hl : L.length ≤ 9223372036854775807) (vs : List V) (share u day : Int) :
    Means true Try.prog 5 [.sl (L.map ii), .sl (vs.map vo), ii share, ii u, ii day] (bb true) := by
  refine means_fn true 142 [.tmp 10] Try.func5 rfl rfl rfl (by simp) rfl fun X hX => ?_
  (repeat (first | refine awp_seq ?_ | refine awp_block ?_ | (refine awp_runG [0, 1, 2, 3, 4, 10, 11, 12, 13, 14, 15, 16, 17, 18, 19, 20, 42, 51, 75, 84, 90] hX ?_; simp [go_sem]) | (refine awp_drawnG [0, 1, 2, 3, 4, 10, 11, 12, 13, 14, 15, 16, 17, 18, 19, 20, 42, 51, 75, 84, 90] hX mixed (by kernel_rfl) ?_; simp [go_sem]) | (refine awp_ret ?_; simp [go_sem]) | (refine awp_skip ?_; simp [go_sem]) | (refine awp_exit ?_; simp [go_sem])))
  refine callK_intro (small_m) rfl (by simp [go_sem]) ?_
  try simp [go_sem]
  (repeat (first | refine awp_seq ?_ | refine awp_block ?_ | (refine awp_runG [0, 1, 2, 3, 4, 10, 11, 12, 13, 14, 15, 16, 17, 18, 19, 20, 42, 51, 75, 84, 90] hX ?_; simp [go_sem]) | (refine awp_drawnG [0, 1, 2, 3, 4, 10, 11, 12, 13, 14, 15, 16, 17, 18, 19, 20, 42, 51, 75, 84, 90] hX mixed (by kernel_rfl) ?_; simp [go_sem]) | (refine awp_ret ?_; simp [go_sem]) | (refine awp_skip ?_; simp [go_sem]) | (refine awp_exit ?_; simp [go_sem])))
  refine callG_intro (fun hg => members_m L hl) rfl (by simp [go_sem]) ?_
  try simp [go_sem]
  (repeat (first | refine awp_seq ?_ | refine awp_block ?_ | (refine awp_runG [0, 1, 2, 3, 4, 10, 11, 12, 13, 14, 15, 16, 17, 18, 19, 20, 42, 51, 75, 84, 90] hX ?_; simp [go_sem]) | (refine awp_drawnG [0, 1, 2, 3, 4, 10, 11, 12, 13, 14, 15, 16, 17, 18, 19, 20, 42, 51, 75, 84, 90] hX mixed (by kernel_rfl) ?_; simp [go_sem]) | (refine awp_ret ?_; simp [go_sem]) | (refine awp_skip ?_; simp [go_sem]) | (refine awp_exit ?_; simp [go_sem])))
  refine awp_cond (b := cBad L vs share) (by simp [go_sem, cBad]) (fun hb => ?_) (fun hb => ?_)
  · (repeat (first | refine awp_seq ?_ | refine awp_block ?_ | (refine awp_runG [0, 1, 2, 3, 4, 10, 11, 12, 13, 14, 15, 16, 17, 18, 19, 20, 42, 51, 75, 84, 90] hX ?_; simp [go_sem]) | (refine awp_drawnG [0, 1, 2, 3, 4, 10, 11, 12, 13, 14, 15, 16, 17, 18, 19, 20, 42, 51, 75, 84, 90] hX mixed (by kernel_rfl) ?_; simp [go_sem]) | (refine awp_ret ?_; simp [go_sem]) | (refine awp_skip ?_; simp [go_sem]) | (refine awp_exit ?_; simp [go_sem])))
  · simp [cBad] at hb
    (repeat (first | refine awp_seq ?_ | refine awp_block ?_ | (refine awp_runG [0, 1, 2, 3, 4, 10, 11, 12, 13, 14, 15, 16, 17, 18, 19, 20, 42, 51, 75, 84, 90] hX ?_; simp [go_sem]) | (refine awp_drawnG [0, 1, 2, 3, 4, 10, 11, 12, 13, 14, 15, 16, 17, 18, 19, 20, 42, 51, 75, 84, 90] hX mixed (by kernel_rfl) ?_; simp [go_sem]) | (refine awp_ret ?_; simp [go_sem]) | (refine awp_skip ?_; simp [go_sem]) | (refine awp_exit ?_; simp [go_sem])))
    refine callK_intro (counted_m L hl vs (by omega) u) rfl (by simp [go_sem]) ?_
    try simp [go_sem]
    (repeat (first | refine awp_seq ?_ | refine awp_block ?_ | (refine awp_runG [0, 1, 2, 3, 4, 10, 11, 12, 13, 14, 15, 16, 17, 18, 19, 20, 42, 51, 75, 84, 90] hX ?_; simp [go_sem]) | (refine awp_drawnG [0, 1, 2, 3, 4, 10, 11, 12, 13, 14, 15, 16, 17, 18, 19, 20, 42, 51, 75, 84, 90] hX mixed (by kernel_rfl) ?_; simp [go_sem]) | (refine awp_ret ?_; simp [go_sem]) | (refine awp_skip ?_; simp [go_sem]) | (refine awp_exit ?_; simp [go_sem])))
    rw [counted_ok hb.1.1.1.2]
    refine awp_loop (fun k : Nat => ⟨mkE [(0, .sl (L.map ii)), (1, .sl (vs.map vo)), (2, ii share), (3, ii u), (4, ii day), (10, bb false), (11, bb true), (12, .sl ((cnt L u vs).map vo)), (13, ii (cnt L u (vs.take k)).length), (14, .ow 0), (15, ii k)],
      [.row ⟨3, 1, (whos (cnt L u (vs.take k))).map ii⟩]⟩) (fun k => k ≤ vs.length) (fun k => vs.length - k) 0 ?_ ?_ ?_
    · refine sub_of _ [.birth 3 1] (by simp [go_sem]) ?_
      simp [go_sem, cnt, whos]
    · simp
    · rintro k hk
      have hcl := cnt_len L u (vs.take k)
      rw [List.length_take] at hcl
      (repeat (first | refine awp_seq ?_ | refine awp_block ?_ | (refine awp_runG [0, 1, 2, 3, 4, 10, 11, 12, 13, 14, 15, 16, 17, 18, 19, 20, 42, 51, 75, 84, 90] hX ?_; simp [go_sem]) | (refine awp_drawnG [0, 1, 2, 3, 4, 10, 11, 12, 13, 14, 15, 16, 17, 18, 19, 20, 42, 51, 75, 84, 90] hX mixed (by kernel_rfl) ?_; simp [go_sem]) | (refine awp_ret ?_; simp [go_sem]) | (refine awp_skip ?_; simp [go_sem]) | (refine awp_exit ?_; simp [go_sem])))
      refine awp_cond (b := decide (k < vs.length)) (by simp [go_sem]) (fun hc => ?_) (fun hc => ?_)
      · simp at hc
        (repeat (first | refine awp_seq ?_ | refine awp_block ?_ | (refine awp_runG [0, 1, 2, 3, 4, 10, 11, 12, 13, 14, 15, 16, 17, 18, 19, 20, 42, 51, 75, 84, 90] hX ?_; simp [go_sem, hc]) | (refine awp_drawnG [0, 1, 2, 3, 4, 10, 11, 12, 13, 14, 15, 16, 17, 18, 19, 20, 42, 51, 75, 84, 90] hX mixed (by kernel_rfl) ?_; simp [go_sem, hc]) | (refine awp_ret ?_; simp [go_sem, hc]) | (refine awp_skip ?_; simp [go_sem, hc]) | (refine awp_exit ?_; simp [go_sem, hc])))
        refine callG_intro (fun hg => at_m L hl vs[k].who) rfl (by simp [go_sem]) ?_
        try simp [go_sem]
        (repeat (first | refine awp_seq ?_ | refine awp_block ?_ | (refine awp_runG [0, 1, 2, 3, 4, 10, 11, 12, 13, 14, 15, 16, 17, 18, 19, 20, 42, 51, 75, 84, 90] hX ?_; simp [go_sem]) | (refine awp_drawnG [0, 1, 2, 3, 4, 10, 11, 12, 13, 14, 15, 16, 17, 18, 19, 20, 42, 51, 75, 84, 90] hX mixed (by kernel_rfl) ?_; simp [go_sem]) | (refine awp_ret ?_; simp [go_sem]) | (refine awp_skip ?_; simp [go_sem]) | (refine awp_exit ?_; simp [go_sem])))
        refine callG_intro (fun hg => at_m (whos (cnt L u (vs.take k))) (by rw [whos_len]; omega) vs[k].who) rfl (by simp [go_sem]) ?_
        try simp [go_sem]
        (repeat (first | refine awp_seq ?_ | refine awp_block ?_ | (refine awp_runG [0, 1, 2, 3, 4, 10, 11, 12, 13, 14, 15, 16, 17, 18, 19, 20, 42, 51, 75, 84, 90] hX ?_; simp [go_sem]) | (refine awp_drawnG [0, 1, 2, 3, 4, 10, 11, 12, 13, 14, 15, 16, 17, 18, 19, 20, 42, 51, 75, 84, 90] hX mixed (by kernel_rfl) ?_; simp [go_sem]) | (refine awp_ret ?_; simp [go_sem]) | (refine awp_skip ?_; simp [go_sem]) | (refine awp_exit ?_; simp [go_sem])))
        refine awp_cond (b := skips L u (cnt L u (vs.take k)) vs[k]) (by simp [go_sem, skips, spoke_idx, idx_neg]; exact Bool.or_right_comm _ _ _) (fun hd => ?_) (fun hd => ?_)
        · have e : cnt L u (vs.take (k + 1)) = cnt L u (vs.take k) := by simp [cnt_succ hc, cstep, hd]
          (repeat (first | refine awp_seq ?_ | refine awp_block ?_ | (refine awp_runG [0, 1, 2, 3, 4, 10, 11, 12, 13, 14, 15, 16, 17, 18, 19, 20, 42, 51, 75, 84, 90] hX ?_; (simp [go_sem]; try simp (disch := omega) only [w64, td, tm])) | (refine awp_drawnG [0, 1, 2, 3, 4, 10, 11, 12, 13, 14, 15, 16, 17, 18, 19, 20, 42, 51, 75, 84, 90] hX mixed (by kernel_rfl) ?_; (simp [go_sem]; try simp (disch := omega) only [w64, td, tm])) | (refine awp_ret ?_; (simp [go_sem]; try simp (disch := omega) only [w64, td, tm])) | (refine awp_skip ?_; (simp [go_sem]; try simp (disch := omega) only [w64, td, tm])) | (refine awp_exit ?_; (simp [go_sem]; try simp (disch := omega) only [w64, td, tm]))))
          refine ⟨k + 1, by omega, by omega, ?_⟩
          simp only [e]
          refine sub_of _ [.old 0 ⟨3, 1, (whos (cnt L u (vs.take k))).map ii⟩] (by simp [go_sem]) ?_
          simp [go_sem]
        · have e : cnt L u (vs.take (k + 1)) = cnt L u (vs.take k) ++ [vs[k]] := by simp [cnt_succ hc, cstep, hd]
          obtain ⟨hl1, hl2⟩ := cnt_here hc hd
          (repeat (first | refine awp_seq ?_ | refine awp_block ?_ | (refine awp_runG [0, 1, 2, 3, 4, 10, 11, 12, 13, 14, 15, 16, 17, 18, 19, 20, 42, 51, 75, 84, 90] hX ?_; (simp [go_sem, whos_len]; try simp (disch := omega) only [w64, td, tm])) | (refine awp_drawnG [0, 1, 2, 3, 4, 10, 11, 12, 13, 14, 15, 16, 17, 18, 19, 20, 42, 51, 75, 84, 90] hX mixed (by kernel_rfl) ?_; (simp [go_sem, whos_len]; try simp (disch := omega) only [w64, td, tm])) | (refine awp_ret ?_; (simp [go_sem, whos_len]; try simp (disch := omega) only [w64, td, tm])) | (refine awp_skip ?_; (simp [go_sem, whos_len]; try simp (disch := omega) only [w64, td, tm])) | (refine awp_exit ?_; (simp [go_sem, whos_len]; try simp (disch := omega) only [w64, td, tm]))))
          refine ⟨⟨by omega, by unfold maxLen; omega⟩, ?_⟩
          (repeat (first | refine awp_seq ?_ | refine awp_block ?_ | (refine awp_runG [0, 1, 2, 3, 4, 10, 11, 12, 13, 14, 15, 16, 17, 18, 19, 20, 42, 51, 75, 84, 90] hX ?_; (simp [go_sem, whos_len]; try simp (disch := omega) only [w64, td, tm])) | (refine awp_drawnG [0, 1, 2, 3, 4, 10, 11, 12, 13, 14, 15, 16, 17, 18, 19, 20, 42, 51, 75, 84, 90] hX mixed (by kernel_rfl) ?_; (simp [go_sem, whos_len]; try simp (disch := omega) only [w64, td, tm])) | (refine awp_ret ?_; (simp [go_sem, whos_len]; try simp (disch := omega) only [w64, td, tm])) | (refine awp_skip ?_; (simp [go_sem, whos_len]; try simp (disch := omega) only [w64, td, tm])) | (refine awp_exit ?_; (simp [go_sem, whos_len]; try simp (disch := omega) only [w64, td, tm]))))
          refine awp_cond (b := false) (by simp [go_sem]; omega) (fun h => by simp at h) (fun _ => ?_)
          (repeat (first | refine awp_seq ?_ | refine awp_block ?_ | (refine awp_runG [0, 1, 2, 3, 4, 10, 11, 12, 13, 14, 15, 16, 17, 18, 19, 20, 42, 51, 75, 84, 90] hX ?_; (simp [go_sem, hl1, hl2]; try simp (disch := omega) only [w64, td, tm])) | (refine awp_drawnG [0, 1, 2, 3, 4, 10, 11, 12, 13, 14, 15, 16, 17, 18, 19, 20, 42, 51, 75, 84, 90] hX mixed (by kernel_rfl) ?_; (simp [go_sem, hl1, hl2]; try simp (disch := omega) only [w64, td, tm])) | (refine awp_ret ?_; (simp [go_sem, hl1, hl2]; try simp (disch := omega) only [w64, td, tm])) | (refine awp_skip ?_; (simp [go_sem, hl1, hl2]; try simp (disch := omega) only [w64, td, tm])) | (refine awp_exit ?_; (simp [go_sem, hl1, hl2]; try simp (disch := omega) only [w64, td, tm]))))
          refine awp_cond (b := false) (by simp [go_sem]) (fun h => by simp at h) (fun _ => ?_)
          (repeat (first | refine awp_seq ?_ | refine awp_block ?_ | (refine awp_runG [0, 1, 2, 3, 4, 10, 11, 12, 13, 14, 15, 16, 17, 18, 19, 20, 42, 51, 75, 84, 90] hX ?_; (simp [go_sem]; try simp (disch := omega) only [w64, td, tm])) | (refine awp_drawnG [0, 1, 2, 3, 4, 10, 11, 12, 13, 14, 15, 16, 17, 18, 19, 20, 42, 51, 75, 84, 90] hX mixed (by kernel_rfl) ?_; (simp [go_sem]; try simp (disch := omega) only [w64, td, tm])) | (refine awp_ret ?_; (simp [go_sem]; try simp (disch := omega) only [w64, td, tm])) | (refine awp_skip ?_; (simp [go_sem]; try simp (disch := omega) only [w64, td, tm])) | (refine awp_exit ?_; (simp [go_sem]; try simp (disch := omega) only [w64, td, tm]))))
          refine ⟨k + 1, by omega, by omega, ?_⟩
          simp only [e, whos_snoc, List.map_append, List.map_cons, List.map_nil, List.length_append, List.length_cons, List.length_nil]
          refine sub_of _ [.old 3 ⟨3, 1, (whos (cnt L u (vs.take k))).map ii ++ [ii vs[k].who]⟩] (by simp [go_sem]) ?_
          simp [go_sem]
      · simp at hc
        have ek : cnt L u (vs.take k) = cnt L u vs := by rw [List.take_of_length_le (by omega)]
        rw [ek]
        (repeat (first | refine awp_seq ?_ | refine awp_block ?_ | (refine awp_runG [0, 1, 2, 3, 4, 10, 11, 12, 13, 14, 15, 16, 17, 18, 19, 20, 42, 51, 75, 84, 90] hX ?_; simp [go_sem]) | (refine awp_drawnG [0, 1, 2, 3, 4, 10, 11, 12, 13, 14, 15, 16, 17, 18, 19, 20, 42, 51, 75, 84, 90] hX mixed (by kernel_rfl) ?_; simp [go_sem]) | (refine awp_ret ?_; simp [go_sem]) | (refine awp_skip ?_; simp [go_sem]) | (refine awp_exit ?_; simp [go_sem])))
        refine callK_intro (tally_m L (by omega) vs (by omega) share u day) rfl (by simp [go_sem]) ?_
        try simp [go_sem]
        (repeat (first | refine awp_seq ?_ | refine awp_block ?_ | (refine awp_runG [0, 1, 2, 3, 4, 10, 11, 12, 13, 14, 15, 16, 17, 18, 19, 20, 42, 51, 75, 84, 90] hX ?_; simp [go_sem]) | (refine awp_drawnG [0, 1, 2, 3, 4, 10, 11, 12, 13, 14, 15, 16, 17, 18, 19, 20, 42, 51, 75, 84, 90] hX mixed (by kernel_rfl) ?_; simp [go_sem]) | (refine awp_ret ?_; simp [go_sem]) | (refine awp_skip ?_; simp [go_sem]) | (refine awp_exit ?_; simp [go_sem])))
        have hcl := cnt_len L u vs
        have htb := tBad_ok hb.1.1.1.2 hb.1.2 hb.2
        have he : tErr L share = 0 := by simp [tErr, htb]
        have ht : tally L (cnt L u vs) share u day = tally L vs share u day := by rw [tally_ok htb, tally_ok htb, counted_ok hb.1.1.1.2, counted_ok hb.1.1.1.2, cnt_idem]
        have hf : (L.length : Int) ≤ (cnt L u vs).length → tally L vs share u day ≠ 0 := fun h => tally_full htb (by rw [counted_ok hb.1.1.1.2]; exact h)
        refine callK_intro (tally_m L (by omega) (cnt L u vs) (by omega) share u day) rfl (by simp [go_sem]) ?_
        try simp [go_sem]
        (repeat (first | refine awp_seq ?_ | refine awp_block ?_ | (refine awp_runG [0, 1, 2, 3, 4, 10, 11, 12, 13, 14, 15, 16, 17, 18, 19, 20, 42, 51, 75, 84, 90] hX ?_; simp [go_sem, ht, he]) | (refine awp_drawnG [0, 1, 2, 3, 4, 10, 11, 12, 13, 14, 15, 16, 17, 18, 19, 20, 42, 51, 75, 84, 90] hX mixed (by kernel_rfl) ?_; simp [go_sem, ht, he]) | (refine awp_ret ?_; simp [go_sem, ht, he]) | (refine awp_skip ?_; simp [go_sem, ht, he]) | (refine awp_exit ?_; simp [go_sem, ht, he])))
        by_cases h : (cnt L u vs).length < L.length
        · exact .inl h
        · exact .inr (hf (by omega))

end Go.Proofs.Ytgccheogieddnaa
