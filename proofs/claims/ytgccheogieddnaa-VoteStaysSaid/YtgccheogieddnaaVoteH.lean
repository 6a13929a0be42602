/-
  The walk of the fifth law of layer 31.
-/
import Derived.Test.YtgccheogieddnaaVoteF
import Derived.Test.YtgccheogieddnaaVoteQ
import Derived.Test.YtgccheogieddnaaVoteT
set_option linter.all false
namespace Go.Proofs.Ytgccheogieddnaa
open Go.RowKit Go.Ab
attribute [local irreducible] AWP Go.Ab.Sub Means CallK CallG

def sBad (L : List Int) (vs ms : List V) (share u day : Int) : Bool := decide (60 < (L.length : Int)) || !okM L || decide (40 < (vs.length : Int)) || decide (40 < (ms.length : Int)) || decide (share < 0) || decide (1000 < share) || decide (1099511627776 < day) || decide (1099511627776 < u)

set_option maxRecDepth 20000 in
set_option maxHeartbeats 2000000 in
theorem voteStays_m (L : List Int) (hl : L.length ≤ 9223372036854775807) (vs : List V) (ms : List V) (share u : Int) (hu : -9223372036854775808 ≤ u ∧ u ≤ 9223372036854775807) (day : Int) (hd : -9223372036854775808 ≤ day ∧ day ≤ 9223372036854775807) (later : Int) (hla : 0 ≤ later ∧ later ≤ 65535) :
    Means true Try.prog 4 [.sl (L.map ii), .sl (vs.map vo), .sl (ms.map vo), ii share, ii u, ii day, .v (.int .u16 later)] (bb true) := by
  refine means_fn true 192 [.tmp 14] Try.func4 rfl rfl rfl (by simp) rfl fun X hX => ?_
  (repeat (first | refine awp_seq ?_ | refine awp_block ?_ | (refine awp_runG [0, 1, 2, 3, 4, 5, 6, 14, 15, 16, 17, 18, 19, 20, 21, 22, 23, 24, 25, 26, 27, 62, 117, 156, 158] hX ?_; simp [go_sem]) | (refine awp_drawnG [0, 1, 2, 3, 4, 5, 6, 14, 15, 16, 17, 18, 19, 20, 21, 22, 23, 24, 25, 26, 27, 62, 117, 156, 158] hX mixed (by kernel_rfl) ?_; simp [go_sem]) | (refine awp_ret ?_; simp [go_sem]) | (refine awp_skip ?_; simp [go_sem]) | (refine awp_exit ?_; simp [go_sem])))
  refine callK_intro (small_m) rfl (by simp [go_sem]) ?_
  try simp [go_sem]
  (repeat (first | refine awp_seq ?_ | refine awp_block ?_ | (refine awp_runG [0, 1, 2, 3, 4, 5, 6, 14, 15, 16, 17, 18, 19, 20, 21, 22, 23, 24, 25, 26, 27, 62, 117, 156, 158] hX ?_; simp [go_sem]) | (refine awp_drawnG [0, 1, 2, 3, 4, 5, 6, 14, 15, 16, 17, 18, 19, 20, 21, 22, 23, 24, 25, 26, 27, 62, 117, 156, 158] hX mixed (by kernel_rfl) ?_; simp [go_sem]) | (refine awp_ret ?_; simp [go_sem]) | (refine awp_skip ?_; simp [go_sem]) | (refine awp_exit ?_; simp [go_sem])))
  refine callG_intro (fun hg => members_m L hl) rfl (by simp [go_sem]) ?_
  try simp [go_sem]
  (repeat (first | refine awp_seq ?_ | refine awp_block ?_ | (refine awp_runG [0, 1, 2, 3, 4, 5, 6, 14, 15, 16, 17, 18, 19, 20, 21, 22, 23, 24, 25, 26, 27, 62, 117, 156, 158] hX ?_; simp [go_sem]) | (refine awp_drawnG [0, 1, 2, 3, 4, 5, 6, 14, 15, 16, 17, 18, 19, 20, 21, 22, 23, 24, 25, 26, 27, 62, 117, 156, 158] hX mixed (by kernel_rfl) ?_; simp [go_sem]) | (refine awp_ret ?_; simp [go_sem]) | (refine awp_skip ?_; simp [go_sem]) | (refine awp_exit ?_; simp [go_sem])))
  refine awp_cond (b := sBad L vs ms share u day) (by simp [go_sem, sBad]) (fun hb => ?_) (fun hb => ?_)
  · (repeat (first | refine awp_seq ?_ | refine awp_block ?_ | (refine awp_runG [0, 1, 2, 3, 4, 5, 6, 14, 15, 16, 17, 18, 19, 20, 21, 22, 23, 24, 25, 26, 27, 62, 117, 156, 158] hX ?_; simp [go_sem]) | (refine awp_drawnG [0, 1, 2, 3, 4, 5, 6, 14, 15, 16, 17, 18, 19, 20, 21, 22, 23, 24, 25, 26, 27, 62, 117, 156, 158] hX mixed (by kernel_rfl) ?_; simp [go_sem]) | (refine awp_ret ?_; simp [go_sem]) | (refine awp_skip ?_; simp [go_sem]) | (refine awp_exit ?_; simp [go_sem])))
  · simp [sBad] at hb
    have hok : okM L = true := by simp [hb]
    have htb := tBad_ok hok (share := share) (by omega) (by omega)
    have he : tErr L share = 0 := by simp [tErr, htb]
    obtain ⟨s1, s2, s3, s4, s5⟩ := stays (vs := vs) (ms := ms) (u := u) (day := day) (later := later) hok htb
    have h2 := tally_m L (by omega) (vs ++ ms) (by simp; omega) share u (day + later)
    have h3 := tally_m L (by omega) (vs ++ ms) (by simp; omega) share u (u + 1)
    have h4 := decides_m L (by omega) (vs ++ ms) (by simp; omega) share u
    rw [he] at h2 h3
    simp only [List.map_append] at h2 h3 h4
    have h1 := tally_m L (by omega) vs (by omega) share u day
    rw [he] at h1
    (repeat (first | refine awp_seq ?_ | refine awp_block ?_ | (refine awp_runG [0, 1, 2, 3, 4, 5, 6, 14, 15, 16, 17, 18, 19, 20, 21, 22, 23, 24, 25, 26, 27, 62, 117, 156, 158] hX ?_; (simp [go_sem]; try simp (disch := omega) only [w64, td, tm])) | (refine awp_drawnG [0, 1, 2, 3, 4, 5, 6, 14, 15, 16, 17, 18, 19, 20, 21, 22, 23, 24, 25, 26, 27, 62, 117, 156, 158] hX mixed (by kernel_rfl) ?_; (simp [go_sem]; try simp (disch := omega) only [w64, td, tm])) | (refine awp_ret ?_; (simp [go_sem]; try simp (disch := omega) only [w64, td, tm])) | (refine awp_skip ?_; (simp [go_sem]; try simp (disch := omega) only [w64, td, tm])) | (refine awp_exit ?_; (simp [go_sem]; try simp (disch := omega) only [w64, td, tm]))))
    refine ⟨⟨by omega, by unfold maxLen; omega⟩, ⟨by omega, by unfold maxLen; omega⟩, ?_⟩
    (repeat (first | refine awp_seq ?_ | refine awp_block ?_ | (refine awp_runG [0, 1, 2, 3, 4, 5, 6, 14, 15, 16, 17, 18, 19, 20, 21, 22, 23, 24, 25, 26, 27, 62, 117, 156, 158] hX ?_; (simp [go_sem]; try simp (disch := omega) only [w64, td, tm])) | (refine awp_drawnG [0, 1, 2, 3, 4, 5, 6, 14, 15, 16, 17, 18, 19, 20, 21, 22, 23, 24, 25, 26, 27, 62, 117, 156, 158] hX mixed (by kernel_rfl) ?_; (simp [go_sem]; try simp (disch := omega) only [w64, td, tm])) | (refine awp_ret ?_; (simp [go_sem]; try simp (disch := omega) only [w64, td, tm])) | (refine awp_skip ?_; (simp [go_sem]; try simp (disch := omega) only [w64, td, tm])) | (refine awp_exit ?_; (simp [go_sem]; try simp (disch := omega) only [w64, td, tm]))))
    refine callK_intro (h1) rfl (by simp [go_sem]) ?_
    try simp [go_sem]
    (repeat (first | refine awp_seq ?_ | refine awp_block ?_ | (refine awp_runG [0, 1, 2, 3, 4, 5, 6, 14, 15, 16, 17, 18, 19, 20, 21, 22, 23, 24, 25, 26, 27, 62, 117, 156, 158] hX ?_; (simp [go_sem]; try simp (disch := omega) only [w64, td, tm])) | (refine awp_drawnG [0, 1, 2, 3, 4, 5, 6, 14, 15, 16, 17, 18, 19, 20, 21, 22, 23, 24, 25, 26, 27, 62, 117, 156, 158] hX mixed (by kernel_rfl) ?_; (simp [go_sem]; try simp (disch := omega) only [w64, td, tm])) | (refine awp_ret ?_; (simp [go_sem]; try simp (disch := omega) only [w64, td, tm])) | (refine awp_skip ?_; (simp [go_sem]; try simp (disch := omega) only [w64, td, tm])) | (refine awp_exit ?_; (simp [go_sem]; try simp (disch := omega) only [w64, td, tm]))))
    have hw : IntKind.i64.wrap later = later := by rw [w64] <;> omega
    try simp only [hw]
    have hw2 : IntKind.i64.wrap (day + later) = day + later := by rw [w64] <;> omega
    try simp only [hw2]
    refine callK_intro (h2) rfl (by simp [go_sem]) ?_
    try simp [go_sem]
    (repeat (first | refine awp_seq ?_ | refine awp_block ?_ | (refine awp_runG [0, 1, 2, 3, 4, 5, 6, 14, 15, 16, 17, 18, 19, 20, 21, 22, 23, 24, 25, 26, 27, 62, 117, 156, 158] hX ?_; (simp [go_sem]; try simp (disch := omega) only [w64, td, tm])) | (refine awp_drawnG [0, 1, 2, 3, 4, 5, 6, 14, 15, 16, 17, 18, 19, 20, 21, 22, 23, 24, 25, 26, 27, 62, 117, 156, 158] hX mixed (by kernel_rfl) ?_; (simp [go_sem]; try simp (disch := omega) only [w64, td, tm])) | (refine awp_ret ?_; (simp [go_sem]; try simp (disch := omega) only [w64, td, tm])) | (refine awp_skip ?_; (simp [go_sem]; try simp (disch := omega) only [w64, td, tm])) | (refine awp_exit ?_; (simp [go_sem]; try simp (disch := omega) only [w64, td, tm]))))
    refine callK_intro (h3) rfl (by simp [go_sem]) ?_
    try simp [go_sem]
    (repeat (first | refine awp_seq ?_ | refine awp_block ?_ | (refine awp_runG [0, 1, 2, 3, 4, 5, 6, 14, 15, 16, 17, 18, 19, 20, 21, 22, 23, 24, 25, 26, 27, 62, 117, 156, 158] hX ?_; (simp [go_sem]; try simp (disch := omega) only [w64, td, tm])) | (refine awp_drawnG [0, 1, 2, 3, 4, 5, 6, 14, 15, 16, 17, 18, 19, 20, 21, 22, 23, 24, 25, 26, 27, 62, 117, 156, 158] hX mixed (by kernel_rfl) ?_; (simp [go_sem]; try simp (disch := omega) only [w64, td, tm])) | (refine awp_ret ?_; (simp [go_sem]; try simp (disch := omega) only [w64, td, tm])) | (refine awp_skip ?_; (simp [go_sem]; try simp (disch := omega) only [w64, td, tm])) | (refine awp_exit ?_; (simp [go_sem]; try simp (disch := omega) only [w64, td, tm]))))
    refine awp_cond (b := false) (by simp [go_sem]; rcases s1 with h | h <;> simp [h]) (fun h => by simp at h) (fun _ => ?_)
    (repeat (first | refine awp_seq ?_ | refine awp_block ?_ | (refine awp_runG [0, 1, 2, 3, 4, 5, 6, 14, 15, 16, 17, 18, 19, 20, 21, 22, 23, 24, 25, 26, 27, 62, 117, 156, 158] hX ?_; (simp [go_sem]; try simp (disch := omega) only [w64, td, tm])) | (refine awp_drawnG [0, 1, 2, 3, 4, 5, 6, 14, 15, 16, 17, 18, 19, 20, 21, 22, 23, 24, 25, 26, 27, 62, 117, 156, 158] hX mixed (by kernel_rfl) ?_; (simp [go_sem]; try simp (disch := omega) only [w64, td, tm])) | (refine awp_ret ?_; (simp [go_sem]; try simp (disch := omega) only [w64, td, tm])) | (refine awp_skip ?_; (simp [go_sem]; try simp (disch := omega) only [w64, td, tm])) | (refine awp_exit ?_; (simp [go_sem]; try simp (disch := omega) only [w64, td, tm]))))
    refine callK_intro (decides_m L (by omega) vs (by omega) share u) rfl (by simp [go_sem]) ?_
    try simp [go_sem]
    (repeat (first | refine awp_seq ?_ | refine awp_block ?_ | (refine awp_runG [0, 1, 2, 3, 4, 5, 6, 14, 15, 16, 17, 18, 19, 20, 21, 22, 23, 24, 25, 26, 27, 62, 117, 156, 158] hX ?_; (simp [go_sem]; try simp (disch := omega) only [w64, td, tm])) | (refine awp_drawnG [0, 1, 2, 3, 4, 5, 6, 14, 15, 16, 17, 18, 19, 20, 21, 22, 23, 24, 25, 26, 27, 62, 117, 156, 158] hX mixed (by kernel_rfl) ?_; (simp [go_sem]; try simp (disch := omega) only [w64, td, tm])) | (refine awp_ret ?_; (simp [go_sem]; try simp (disch := omega) only [w64, td, tm])) | (refine awp_skip ?_; (simp [go_sem]; try simp (disch := omega) only [w64, td, tm])) | (refine awp_exit ?_; (simp [go_sem]; try simp (disch := omega) only [w64, td, tm]))))
    refine callK_intro (h4) rfl (by simp [go_sem]) ?_
    try simp [go_sem]
    (repeat (first | refine awp_seq ?_ | refine awp_block ?_ | (refine awp_runG [0, 1, 2, 3, 4, 5, 6, 14, 15, 16, 17, 18, 19, 20, 21, 22, 23, 24, 25, 26, 27, 62, 117, 156, 158] hX ?_; (simp [go_sem]; try simp (disch := omega) only [w64, td, tm])) | (refine awp_drawnG [0, 1, 2, 3, 4, 5, 6, 14, 15, 16, 17, 18, 19, 20, 21, 22, 23, 24, 25, 26, 27, 62, 117, 156, 158] hX mixed (by kernel_rfl) ?_; (simp [go_sem]; try simp (disch := omega) only [w64, td, tm])) | (refine awp_ret ?_; (simp [go_sem]; try simp (disch := omega) only [w64, td, tm])) | (refine awp_skip ?_; (simp [go_sem]; try simp (disch := omega) only [w64, td, tm])) | (refine awp_exit ?_; (simp [go_sem]; try simp (disch := omega) only [w64, td, tm]))))
    refine ⟨by grind, by grind, by grind, by grind, ?_⟩
    refine awp_cond (b := false) (by simp [go_sem]; grind) (fun h => by simp at h) (fun _ => ?_)
    (repeat (first | refine awp_seq ?_ | refine awp_block ?_ | (refine awp_runG [0, 1, 2, 3, 4, 5, 6, 14, 15, 16, 17, 18, 19, 20, 21, 22, 23, 24, 25, 26, 27, 62, 117, 156, 158] hX ?_; (simp [go_sem]; try simp (disch := omega) only [w64, td, tm])) | (refine awp_drawnG [0, 1, 2, 3, 4, 5, 6, 14, 15, 16, 17, 18, 19, 20, 21, 22, 23, 24, 25, 26, 27, 62, 117, 156, 158] hX mixed (by kernel_rfl) ?_; (simp [go_sem]; try simp (disch := omega) only [w64, td, tm])) | (refine awp_ret ?_; (simp [go_sem]; try simp (disch := omega) only [w64, td, tm])) | (refine awp_skip ?_; (simp [go_sem]; try simp (disch := omega) only [w64, td, tm])) | (refine awp_exit ?_; (simp [go_sem]; try simp (disch := omega) only [w64, td, tm]))))
    refine awp_cond (b := decide (tally L vs share u day = 0)) (by simp [go_sem]) (fun h0 => ?_) (fun h0 => ?_)
    · simp at h0
      (repeat (first | refine awp_seq ?_ | refine awp_block ?_ | (refine awp_runG [0, 1, 2, 3, 4, 5, 6, 14, 15, 16, 17, 18, 19, 20, 21, 22, 23, 24, 25, 26, 27, 62, 117, 156, 158] hX ?_; (simp [go_sem]; try simp (disch := omega) only [w64, td, tm])) | (refine awp_drawnG [0, 1, 2, 3, 4, 5, 6, 14, 15, 16, 17, 18, 19, 20, 21, 22, 23, 24, 25, 26, 27, 62, 117, 156, 158] hX mixed (by kernel_rfl) ?_; (simp [go_sem]; try simp (disch := omega) only [w64, td, tm])) | (refine awp_ret ?_; (simp [go_sem]; try simp (disch := omega) only [w64, td, tm])) | (refine awp_skip ?_; (simp [go_sem]; try simp (disch := omega) only [w64, td, tm])) | (refine awp_exit ?_; (simp [go_sem]; try simp (disch := omega) only [w64, td, tm]))))
      grind
    · simp at h0
      (repeat (first | refine awp_seq ?_ | refine awp_block ?_ | (refine awp_runG [0, 1, 2, 3, 4, 5, 6, 14, 15, 16, 17, 18, 19, 20, 21, 22, 23, 24, 25, 26, 27, 62, 117, 156, 158] hX ?_; (simp [go_sem]; try simp (disch := omega) only [w64, td, tm])) | (refine awp_drawnG [0, 1, 2, 3, 4, 5, 6, 14, 15, 16, 17, 18, 19, 20, 21, 22, 23, 24, 25, 26, 27, 62, 117, 156, 158] hX mixed (by kernel_rfl) ?_; (simp [go_sem]; try simp (disch := omega) only [w64, td, tm])) | (refine awp_ret ?_; (simp [go_sem]; try simp (disch := omega) only [w64, td, tm])) | (refine awp_skip ?_; (simp [go_sem]; try simp (disch := omega) only [w64, td, tm])) | (refine awp_exit ?_; (simp [go_sem]; try simp (disch := omega) only [w64, td, tm]))))
      (repeat refine ⟨by grind, ?_⟩)
      (repeat (first | refine awp_seq ?_ | refine awp_block ?_ | (refine awp_runG [0, 1, 2, 3, 4, 5, 6, 14, 15, 16, 17, 18, 19, 20, 21, 22, 23, 24, 25, 26, 27, 62, 117, 156, 158] hX ?_; (simp [go_sem]; try simp (disch := omega) only [w64, td, tm])) | (refine awp_drawnG [0, 1, 2, 3, 4, 5, 6, 14, 15, 16, 17, 18, 19, 20, 21, 22, 23, 24, 25, 26, 27, 62, 117, 156, 158] hX mixed (by kernel_rfl) ?_; (simp [go_sem]; try simp (disch := omega) only [w64, td, tm])) | (refine awp_ret ?_; (simp [go_sem]; try simp (disch := omega) only [w64, td, tm])) | (refine awp_skip ?_; (simp [go_sem]; try simp (disch := omega) only [w64, td, tm])) | (refine awp_exit ?_; (simp [go_sem]; try simp (disch := omega) only [w64, td, tm]))))
      grind

end Go.Proofs.Ytgccheogieddnaa
