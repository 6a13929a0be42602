/-
  The walk of the fourth law of layer 31.
-/
import Derived.Test.YtgccheogieddnaaVoteF
import Derived.Test.YtgccheogieddnaaVoteQ
set_option linter.all false
namespace Go.Proofs.Ytgccheogieddnaa
open Go.RowKit Go.Ab
attribute [local irreducible] AWP Go.Ab.Sub Means CallK CallG

theorem plain_vo {l : List V} : ∀ n ∈ l.map vo, n.plain = true ∧ n.flat.length = 4 := by
  intro n hn
  obtain ⟨v, _, rfl⟩ := List.mem_map.1 hn
  exact ⟨rfl, rfl⟩

set_option maxRecDepth 20000 in
set_option maxHeartbeats 2000000 in
theorem voteTurns_m (L : List Int) (hl : L.length ≤ 9223372036854775807) (vs : List V) (share u day by_ : Int) (hby : 0 ≤ by_ ∧ by_ ≤ 255) (who : Int) :
    Means true Try.prog 6 [.sl (L.map ii), .sl (vs.map vo), ii share, ii u, ii day, .v (.int .u8 by_), ii who] (bb true) := by
  refine means_fn true 166 [.tmp 14] Try.func6 rfl rfl rfl (by simp) rfl fun X hX => ?_
  (repeat (first | refine awp_seq ?_ | refine awp_block ?_ | (refine awp_runG [0, 1, 2, 3, 4, 5, 6, 14, 15, 16, 17, 18, 19, 20, 21, 23, 25, 27, 29, 30, 52, 62, 82, 112] hX ?_; simp [go_sem]) | (refine awp_drawnG [0, 1, 2, 3, 4, 5, 6, 14, 15, 16, 17, 18, 19, 20, 21, 23, 25, 27, 29, 30, 52, 62, 82, 112] hX mixed (by kernel_rfl) ?_; simp [go_sem]) | (refine awp_ret ?_; simp [go_sem]) | (refine awp_skip ?_; simp [go_sem]) | (refine awp_exit ?_; simp [go_sem])))
  refine callK_intro (small_m) rfl (by simp [go_sem]) ?_
  try simp [go_sem]
  (repeat (first | refine awp_seq ?_ | refine awp_block ?_ | (refine awp_runG [0, 1, 2, 3, 4, 5, 6, 14, 15, 16, 17, 18, 19, 20, 21, 23, 25, 27, 29, 30, 52, 62, 82, 112] hX ?_; simp [go_sem]) | (refine awp_drawnG [0, 1, 2, 3, 4, 5, 6, 14, 15, 16, 17, 18, 19, 20, 21, 23, 25, 27, 29, 30, 52, 62, 82, 112] hX mixed (by kernel_rfl) ?_; simp [go_sem]) | (refine awp_ret ?_; simp [go_sem]) | (refine awp_skip ?_; simp [go_sem]) | (refine awp_exit ?_; simp [go_sem])))
  refine callG_intro (fun hg => members_m L hl) rfl (by simp [go_sem]) ?_
  try simp [go_sem]
  (repeat (first | refine awp_seq ?_ | refine awp_block ?_ | (refine awp_runG [0, 1, 2, 3, 4, 5, 6, 14, 15, 16, 17, 18, 19, 20, 21, 23, 25, 27, 29, 30, 52, 62, 82, 112] hX ?_; simp [go_sem]) | (refine awp_drawnG [0, 1, 2, 3, 4, 5, 6, 14, 15, 16, 17, 18, 19, 20, 21, 23, 25, 27, 29, 30, 52, 62, 82, 112] hX mixed (by kernel_rfl) ?_; simp [go_sem]) | (refine awp_ret ?_; simp [go_sem]) | (refine awp_skip ?_; simp [go_sem]) | (refine awp_exit ?_; simp [go_sem])))
  refine awp_cond (b := cBad L vs share) (by simp [go_sem, cBad]) (fun hb => ?_) (fun hb => ?_)
  · (repeat (first | refine awp_seq ?_ | refine awp_block ?_ | (refine awp_runG [0, 1, 2, 3, 4, 5, 6, 14, 15, 16, 17, 18, 19, 20, 21, 23, 25, 27, 29, 30, 52, 62, 82, 112] hX ?_; simp [go_sem]) | (refine awp_drawnG [0, 1, 2, 3, 4, 5, 6, 14, 15, 16, 17, 18, 19, 20, 21, 23, 25, 27, 29, 30, 52, 62, 82, 112] hX mixed (by kernel_rfl) ?_; simp [go_sem]) | (refine awp_ret ?_; simp [go_sem]) | (refine awp_skip ?_; simp [go_sem]) | (refine awp_exit ?_; simp [go_sem])))
  · simp [cBad] at hb
    have hok := hb.1.1.1.2
    have htb := tBad_ok hok hb.1.2 hb.2
    have hcl := cnt_len L u vs
    have hcm := cnt_le L u vs
    (repeat (first | refine awp_seq ?_ | refine awp_block ?_ | (refine awp_runG [0, 1, 2, 3, 4, 5, 6, 14, 15, 16, 17, 18, 19, 20, 21, 23, 25, 27, 29, 30, 52, 62, 82, 112] hX ?_; simp [go_sem]) | (refine awp_drawnG [0, 1, 2, 3, 4, 5, 6, 14, 15, 16, 17, 18, 19, 20, 21, 23, 25, 27, 29, 30, 52, 62, 82, 112] hX mixed (by kernel_rfl) ?_; simp [go_sem]) | (refine awp_ret ?_; simp [go_sem]) | (refine awp_skip ?_; simp [go_sem]) | (refine awp_exit ?_; simp [go_sem])))
    refine callK_intro (counted_m L hl vs (by omega) u) rfl (by simp [go_sem]) ?_
    try simp [go_sem]
    (repeat (first | refine awp_seq ?_ | refine awp_block ?_ | (refine awp_runG [0, 1, 2, 3, 4, 5, 6, 14, 15, 16, 17, 18, 19, 20, 21, 23, 25, 27, 29, 30, 52, 62, 82, 112] hX ?_; simp [go_sem]) | (refine awp_drawnG [0, 1, 2, 3, 4, 5, 6, 14, 15, 16, 17, 18, 19, 20, 21, 23, 25, 27, 29, 30, 52, 62, 82, 112] hX mixed (by kernel_rfl) ?_; simp [go_sem]) | (refine awp_ret ?_; simp [go_sem]) | (refine awp_skip ?_; simp [go_sem]) | (refine awp_exit ?_; simp [go_sem])))
    rw [counted_ok hok]
    refine awp_cond (b := false) (by simp [go_sem, counted_ok hok]; omega) (fun h => by simp at h) (fun _ => ?_)
    (repeat (first | refine awp_seq ?_ | refine awp_block ?_ | (refine awp_runG [0, 1, 2, 3, 4, 5, 6, 14, 15, 16, 17, 18, 19, 20, 21, 23, 25, 27, 29, 30, 52, 62, 82, 112] hX ?_; (simp [go_sem, counted_ok hok]; try simp (disch := omega) only [w64, td, tm])) | (refine awp_drawnG [0, 1, 2, 3, 4, 5, 6, 14, 15, 16, 17, 18, 19, 20, 21, 23, 25, 27, 29, 30, 52, 62, 82, 112] hX mixed (by kernel_rfl) ?_; (simp [go_sem, counted_ok hok]; try simp (disch := omega) only [w64, td, tm])) | (refine awp_ret ?_; (simp [go_sem, counted_ok hok]; try simp (disch := omega) only [w64, td, tm])) | (refine awp_skip ?_; (simp [go_sem, counted_ok hok]; try simp (disch := omega) only [w64, td, tm])) | (refine awp_exit ?_; (simp [go_sem, counted_ok hok]; try simp (disch := omega) only [w64, td, tm]))))
    refine ⟨by omega, ?_⟩
    have hm1 := Int.emod_nonneg by_ (b := ((cnt L u vs).length : Int) + 1) (by omega)
    have hm2 := Int.emod_lt_of_pos by_ (b := ((cnt L u vs).length : Int) + 1) (by omega)
    obtain ⟨m, hm⟩ : ∃ m : Nat, by_ % ((cnt L u vs).length + 1) = m := ⟨(by_ % ((cnt L u vs).length + 1)).toNat, by omega⟩
    have hml : m ≤ (cnt L u vs).length := by omega
    (repeat (first | refine awp_seq ?_ | refine awp_block ?_ | (refine awp_runG [0, 1, 2, 3, 4, 5, 6, 14, 15, 16, 17, 18, 19, 20, 21, 23, 25, 27, 29, 30, 52, 62, 82, 112] hX ?_; (simp [go_sem, hm]; try simp (disch := omega) only [w64, td, tm])) | (refine awp_drawnG [0, 1, 2, 3, 4, 5, 6, 14, 15, 16, 17, 18, 19, 20, 21, 23, 25, 27, 29, 30, 52, 62, 82, 112] hX mixed (by kernel_rfl) ?_; (simp [go_sem, hm]; try simp (disch := omega) only [w64, td, tm])) | (refine awp_ret ?_; (simp [go_sem, hm]; try simp (disch := omega) only [w64, td, tm])) | (refine awp_skip ?_; (simp [go_sem, hm]; try simp (disch := omega) only [w64, td, tm])) | (refine awp_exit ?_; (simp [go_sem, hm]; try simp (disch := omega) only [w64, td, tm]))))
    refine ⟨hml, ⟨⟨by omega, by unfold maxLen; omega⟩, fun n hn => plain_vo n (List.mem_of_mem_drop hn)⟩, hml, ⟨⟨by omega, by unfold maxLen; omega⟩, fun n hn => plain_vo n (List.mem_of_mem_take hn)⟩, ?_⟩
    (repeat (first | refine awp_seq ?_ | refine awp_block ?_ | (refine awp_runG [0, 1, 2, 3, 4, 5, 6, 14, 15, 16, 17, 18, 19, 20, 21, 23, 25, 27, 29, 30, 52, 62, 82, 112] hX ?_; (simp [go_sem]; try simp (disch := omega) only [w64, td, tm])) | (refine awp_drawnG [0, 1, 2, 3, 4, 5, 6, 14, 15, 16, 17, 18, 19, 20, 21, 23, 25, 27, 29, 30, 52, 62, 82, 112] hX mixed (by kernel_rfl) ?_; (simp [go_sem]; try simp (disch := omega) only [w64, td, tm])) | (refine awp_ret ?_; (simp [go_sem]; try simp (disch := omega) only [w64, td, tm])) | (refine awp_skip ?_; (simp [go_sem]; try simp (disch := omega) only [w64, td, tm])) | (refine awp_exit ?_; (simp [go_sem]; try simp (disch := omega) only [w64, td, tm]))))
    refine awp_loop (fun k : Nat => ⟨mkE [(0, .sl (L.map ii)), (1, .sl (vs.map vo)), (2, ii share), (3, ii u), (4, ii day), (6, ii who), (14, bb false), (15, bb true), (18, .ow 0), (19, .ow 1), (20, ii ((L.length : Int) - 1 - k))],
      [.row ⟨38, 4, ((cnt L u vs).drop m ++ (cnt L u vs).take m).map vo⟩, .row ⟨3, 1, (L.reverse.take k).map ii⟩]⟩) (fun k => k ≤ L.length) (fun k => L.length - k) 0 ?_ ?_ ?_
    · refine sub_of _ [.old 2 ⟨38, 4, ((cnt L u vs).drop m ++ (cnt L u vs).take m).map vo⟩, .birth 3 1] (by simp [go_sem]) ?_
      simp [go_sem]
    · simp
    · rintro k hk
      have hrl : (L.reverse.take k).length = k := by simp; omega
      (repeat (first | refine awp_seq ?_ | refine awp_block ?_ | (refine awp_runG [0, 1, 2, 3, 4, 5, 6, 14, 15, 16, 17, 18, 19, 20, 21, 23, 25, 27, 29, 30, 52, 62, 82, 112] hX ?_; simp [go_sem]) | (refine awp_drawnG [0, 1, 2, 3, 4, 5, 6, 14, 15, 16, 17, 18, 19, 20, 21, 23, 25, 27, 29, 30, 52, 62, 82, 112] hX mixed (by kernel_rfl) ?_; simp [go_sem]) | (refine awp_ret ?_; simp [go_sem]) | (refine awp_skip ?_; simp [go_sem]) | (refine awp_exit ?_; simp [go_sem])))
      refine awp_cond (b := decide (k < L.length)) (by simp [go_sem]; omega) (fun hc => ?_) (fun hc => ?_)
      · simp at hc
        have hx : ((L.length : Int) - 1 - k).toNat = L.length - 1 - k := by omega
        have hx2 : L.length - 1 - k < L.length := by omega
        (repeat (first | refine awp_seq ?_ | refine awp_block ?_ | (refine awp_runG [0, 1, 2, 3, 4, 5, 6, 14, 15, 16, 17, 18, 19, 20, 21, 23, 25, 27, 29, 30, 52, 62, 82, 112] hX ?_; (simp [go_sem, hx, hx2]; try simp (disch := omega) only [w64, td, tm])) | (refine awp_drawnG [0, 1, 2, 3, 4, 5, 6, 14, 15, 16, 17, 18, 19, 20, 21, 23, 25, 27, 29, 30, 52, 62, 82, 112] hX mixed (by kernel_rfl) ?_; (simp [go_sem, hx, hx2]; try simp (disch := omega) only [w64, td, tm])) | (refine awp_ret ?_; (simp [go_sem, hx, hx2]; try simp (disch := omega) only [w64, td, tm])) | (refine awp_skip ?_; (simp [go_sem, hx, hx2]; try simp (disch := omega) only [w64, td, tm])) | (refine awp_exit ?_; (simp [go_sem, hx, hx2]; try simp (disch := omega) only [w64, td, tm]))))
        refine ⟨⟨by omega, by omega⟩, ⟨by omega, by unfold maxLen; omega⟩, ?_⟩
        have er : (L.map ii).reverse.take (k + 1) = (L.map ii).reverse.take k ++ [ii L[L.length - 1 - k]] := by
          rw [List.take_succ_eq_append_getElem (by simpa using hc)]; simp
        (repeat (first | refine awp_seq ?_ | refine awp_block ?_ | (refine awp_runG [0, 1, 2, 3, 4, 5, 6, 14, 15, 16, 17, 18, 19, 20, 21, 23, 25, 27, 29, 30, 52, 62, 82, 112] hX ?_; (simp [go_sem]; try simp (disch := omega) only [w64, td, tm])) | (refine awp_drawnG [0, 1, 2, 3, 4, 5, 6, 14, 15, 16, 17, 18, 19, 20, 21, 23, 25, 27, 29, 30, 52, 62, 82, 112] hX mixed (by kernel_rfl) ?_; (simp [go_sem]; try simp (disch := omega) only [w64, td, tm])) | (refine awp_ret ?_; (simp [go_sem]; try simp (disch := omega) only [w64, td, tm])) | (refine awp_skip ?_; (simp [go_sem]; try simp (disch := omega) only [w64, td, tm])) | (refine awp_exit ?_; (simp [go_sem]; try simp (disch := omega) only [w64, td, tm]))))
        refine ⟨k + 1, by omega, by omega, ?_⟩
        rw [er]
        refine sub_of _ [.old 0 ⟨38, 4, (((cnt L u vs).map vo).drop m ++ ((cnt L u vs).map vo).take m)⟩, .old 3 ⟨3, 1, ((L.map ii).reverse.take k ++ [ii L[L.length - 1 - k]])⟩] (by simp [go_sem]) ?_
        simp [go_sem]
        omega
      · simp at hc
        have er : (L.map ii).reverse.take k = (L.map ii).reverse := List.take_of_length_le (by simp; omega)
        simp only [List.map_take, List.map_reverse, er]
        have ht := tally_turned (share := share) (day := day) (vs := vs) (u := u) m hok htb
        have hty := tally_yes (share := share) (day := day) (vs := vs) (u := u) who hok htb
        have htn := tally_no (share := share) (day := day) (vs := vs) (u := u) who hok htb
        have h1 := tally_m L.reverse (by simp; omega) ((cnt L u vs).drop m ++ (cnt L u vs).take m) (by simp; omega) share u day
        have h2 := tally_m L (by omega) (vs ++ [⟨0, who, true, u⟩]) (by simp; omega) share u day
        have h3 := tally_m L (by omega) (vs ++ [⟨0, who, false, u⟩]) (by simp; omega) share u day
        rw [ht] at h1
        simp only [List.map_reverse, List.map_append, List.map_drop, List.map_take, List.map_cons, List.map_nil] at h1 h2 h3
        (repeat (first | refine awp_seq ?_ | refine awp_block ?_ | (refine awp_runG [0, 1, 2, 3, 4, 5, 6, 14, 15, 16, 17, 18, 19, 20, 21, 23, 25, 27, 29, 30, 52, 62, 82, 112] hX ?_; simp [go_sem]) | (refine awp_drawnG [0, 1, 2, 3, 4, 5, 6, 14, 15, 16, 17, 18, 19, 20, 21, 23, 25, 27, 29, 30, 52, 62, 82, 112] hX mixed (by kernel_rfl) ?_; simp [go_sem]) | (refine awp_ret ?_; simp [go_sem]) | (refine awp_skip ?_; simp [go_sem]) | (refine awp_exit ?_; simp [go_sem])))
        refine callK_intro (tally_m L (by omega) vs (by omega) share u day) rfl (by simp [go_sem]) ?_
        try simp [go_sem]
        (repeat (first | refine awp_seq ?_ | refine awp_block ?_ | (refine awp_runG [0, 1, 2, 3, 4, 5, 6, 14, 15, 16, 17, 18, 19, 20, 21, 23, 25, 27, 29, 30, 52, 62, 82, 112] hX ?_; simp [go_sem]) | (refine awp_drawnG [0, 1, 2, 3, 4, 5, 6, 14, 15, 16, 17, 18, 19, 20, 21, 23, 25, 27, 29, 30, 52, 62, 82, 112] hX mixed (by kernel_rfl) ?_; simp [go_sem]) | (refine awp_ret ?_; simp [go_sem]) | (refine awp_skip ?_; simp [go_sem]) | (refine awp_exit ?_; simp [go_sem])))
        refine callK_intro (h1) rfl (by simp [go_sem]) ?_
        try simp [go_sem]
        (repeat (first | refine awp_seq ?_ | refine awp_block ?_ | (refine awp_runG [0, 1, 2, 3, 4, 5, 6, 14, 15, 16, 17, 18, 19, 20, 21, 23, 25, 27, 29, 30, 52, 62, 82, 112] hX ?_; simp [go_sem]) | (refine awp_drawnG [0, 1, 2, 3, 4, 5, 6, 14, 15, 16, 17, 18, 19, 20, 21, 23, 25, 27, 29, 30, 52, 62, 82, 112] hX mixed (by kernel_rfl) ?_; simp [go_sem]) | (refine awp_ret ?_; simp [go_sem]) | (refine awp_skip ?_; simp [go_sem]) | (refine awp_exit ?_; simp [go_sem])))
        refine awp_cond (b := false) (by simp [go_sem]) (fun h => by simp at h) (fun _ => ?_)
        (repeat (first | refine awp_seq ?_ | refine awp_block ?_ | (refine awp_runG [0, 1, 2, 3, 4, 5, 6, 14, 15, 16, 17, 18, 19, 20, 21, 23, 25, 27, 29, 30, 52, 62, 82, 112] hX ?_; (simp [go_sem]; try simp (disch := omega) only [w64, td, tm])) | (refine awp_drawnG [0, 1, 2, 3, 4, 5, 6, 14, 15, 16, 17, 18, 19, 20, 21, 23, 25, 27, 29, 30, 52, 62, 82, 112] hX mixed (by kernel_rfl) ?_; (simp [go_sem]; try simp (disch := omega) only [w64, td, tm])) | (refine awp_ret ?_; (simp [go_sem]; try simp (disch := omega) only [w64, td, tm])) | (refine awp_skip ?_; (simp [go_sem]; try simp (disch := omega) only [w64, td, tm])) | (refine awp_exit ?_; (simp [go_sem]; try simp (disch := omega) only [w64, td, tm]))))
        refine ⟨⟨by omega, by unfold maxLen; omega⟩, ⟨by omega, by unfold maxLen; omega⟩, ?_⟩
        refine callK_intro (h2) rfl (by simp [go_sem]) ?_
        try simp [go_sem]
        (repeat (first | refine awp_seq ?_ | refine awp_block ?_ | (refine awp_runG [0, 1, 2, 3, 4, 5, 6, 14, 15, 16, 17, 18, 19, 20, 21, 23, 25, 27, 29, 30, 52, 62, 82, 112] hX ?_; (simp [go_sem]; try simp (disch := omega) only [w64, td, tm])) | (refine awp_drawnG [0, 1, 2, 3, 4, 5, 6, 14, 15, 16, 17, 18, 19, 20, 21, 23, 25, 27, 29, 30, 52, 62, 82, 112] hX mixed (by kernel_rfl) ?_; (simp [go_sem]; try simp (disch := omega) only [w64, td, tm])) | (refine awp_ret ?_; (simp [go_sem]; try simp (disch := omega) only [w64, td, tm])) | (refine awp_skip ?_; (simp [go_sem]; try simp (disch := omega) only [w64, td, tm])) | (refine awp_exit ?_; (simp [go_sem]; try simp (disch := omega) only [w64, td, tm]))))
        refine ⟨⟨by omega, by unfold maxLen; omega⟩, ⟨by omega, by unfold maxLen; omega⟩, ?_⟩
        refine callK_intro (h3) rfl (by simp [go_sem]) ?_
        try simp [go_sem]
        (repeat (first | refine awp_seq ?_ | refine awp_block ?_ | (refine awp_runG [0, 1, 2, 3, 4, 5, 6, 14, 15, 16, 17, 18, 19, 20, 21, 23, 25, 27, 29, 30, 52, 62, 82, 112] hX ?_; (simp [go_sem]; try simp (disch := omega) only [w64, td, tm])) | (refine awp_drawnG [0, 1, 2, 3, 4, 5, 6, 14, 15, 16, 17, 18, 19, 20, 21, 23, 25, 27, 29, 30, 52, 62, 82, 112] hX mixed (by kernel_rfl) ?_; (simp [go_sem]; try simp (disch := omega) only [w64, td, tm])) | (refine awp_ret ?_; (simp [go_sem]; try simp (disch := omega) only [w64, td, tm])) | (refine awp_skip ?_; (simp [go_sem]; try simp (disch := omega) only [w64, td, tm])) | (refine awp_exit ?_; (simp [go_sem]; try simp (disch := omega) only [w64, td, tm]))))
        exact ⟨hty, htn⟩

end Go.Proofs.Ytgccheogieddnaa
