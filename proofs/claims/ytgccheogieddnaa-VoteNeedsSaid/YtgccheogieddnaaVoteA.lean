/-
  The walks of the functions of layer 31 that call little.
-/
import Derived.Test.YtgccheogieddnaaFacts
import Derived.Test.YtgccheogieddnaaVoteS
set_option linter.all false
namespace Go.Proofs.Ytgccheogieddnaa
open Go.RowKit Go.Ab
attribute [local irreducible] AWP Go.Ab.Sub Means CallK CallG
theorem mixed : Try.prog.follows .mixedOrders = true := by kernel_rfl

abbrev ii (n : Int) : AV := .v (.int .i64 n)
abbrev bb (b : Bool) : AV := .v (.bool b)
@[go_sem] theorem nth_ii {L : List Int} {k : Nat} (h : k < L.length) : nth (L.map ii) k = ii L[k] := nth_map ii h

@[go_sem] theorem beqI (a b : Int) : (a == b) = decide (a = b) := rfl
@[go_sem] theorem bneI (a b : Int) : (a != b) = !decide (a = b) := rfl

set_option maxHeartbeats 400000 in
theorem needed_m (m s : Int) : Means true Try.prog 9 [ii m, ii s] (.tup [ii (if nBad m s then 0 else nNeed m s), ii (if nBad m s then 1 else 0)]) := by
  refine means_fn true 26 [.tmp 4, .tmp 5] Try.func9 rfl rfl rfl (by simp) rfl fun X hX => ?_
  (repeat (first | refine awp_seq ?_ | refine awp_block ?_ | (refine awp_runG [0, 1, 4, 5, 19] hX ?_; simp [go_sem]) | (refine awp_drawnG [0, 1, 4, 5, 19] hX mixed (by kernel_rfl) ?_; simp [go_sem]) | (refine awp_ret ?_; simp [go_sem]) | (refine awp_skip ?_; simp [go_sem]) | (refine awp_exit ?_; simp [go_sem])))
  refine awp_cond (b := nBad m s) (by simp [go_sem, nBad]) (fun hb => ?_) (fun hb => ?_)
  · (repeat (first | refine awp_seq ?_ | refine awp_block ?_ | (refine awp_runG [0, 1, 4, 5, 19] hX ?_; simp [go_sem]) | (refine awp_drawnG [0, 1, 4, 5, 19] hX mixed (by kernel_rfl) ?_; simp [go_sem]) | (refine awp_ret ?_; simp [go_sem]) | (refine awp_skip ?_; simp [go_sem]) | (refine awp_exit ?_; simp [go_sem])))
    simp [hb]
  · have hb' := hb
    simp [nBad] at hb
    have := mul_bd hb.1.1.1 hb.1.1.2 hb.1.2 hb.2
    (repeat (first | refine awp_seq ?_ | refine awp_block ?_ | (refine awp_runG [0, 1, 4, 5, 19] hX ?_; (simp [go_sem]; try simp (disch := omega) only [w64, td, tm])) | (refine awp_drawnG [0, 1, 4, 5, 19] hX mixed (by kernel_rfl) ?_; (simp [go_sem]; try simp (disch := omega) only [w64, td, tm])) | (refine awp_ret ?_; (simp [go_sem]; try simp (disch := omega) only [w64, td, tm])) | (refine awp_skip ?_; (simp [go_sem]; try simp (disch := omega) only [w64, td, tm])) | (refine awp_exit ?_; (simp [go_sem]; try simp (disch := omega) only [w64, td, tm]))))
    simp [hb', nNeed]

set_option maxHeartbeats 400000 in
theorem neededR_m (m s : Int) : Means true Try.prog 10 [ii m, ii s] (.tup [ii (if nBad m s then 0 else nNeed m s), ii (if nBad m s then 1 else 0)]) := by
  refine means_fn true 30 [.tmp 4, .tmp 5] Try.func10 rfl rfl rfl (by simp) rfl fun X hX => ?_
  (repeat (first | refine awp_seq ?_ | refine awp_block ?_ | (refine awp_runG [0, 1, 4, 5, 6, 20, 26] hX ?_; simp [go_sem]) | (refine awp_drawnG [0, 1, 4, 5, 6, 20, 26] hX mixed (by kernel_rfl) ?_; simp [go_sem]) | (refine awp_ret ?_; simp [go_sem]) | (refine awp_skip ?_; simp [go_sem]) | (refine awp_exit ?_; simp [go_sem])))
  refine awp_cond (b := nBad m s) (by simp [go_sem, nBad]) (fun hb => ?_) (fun hb => ?_)
  · (repeat (first | refine awp_seq ?_ | refine awp_block ?_ | (refine awp_runG [0, 1, 4, 5, 6, 20, 26] hX ?_; simp [go_sem]) | (refine awp_drawnG [0, 1, 4, 5, 6, 20, 26] hX mixed (by kernel_rfl) ?_; simp [go_sem]) | (refine awp_ret ?_; simp [go_sem]) | (refine awp_skip ?_; simp [go_sem]) | (refine awp_exit ?_; simp [go_sem])))
    simp [hb]
  · have hb' := hb
    simp [nBad] at hb
    have := mul_bd hb.1.1.1 hb.1.1.2 hb.1.2 hb.2
    (repeat (first | refine awp_seq ?_ | refine awp_block ?_ | (refine awp_runG [0, 1, 4, 5, 6, 20, 26] hX ?_; simp [go_sem]) | (refine awp_drawnG [0, 1, 4, 5, 6, 20, 26] hX mixed (by kernel_rfl) ?_; simp [go_sem]) | (refine awp_ret ?_; simp [go_sem]) | (refine awp_skip ?_; simp [go_sem]) | (refine awp_exit ?_; simp [go_sem])))
    refine awp_loop (fun k : Int => ⟨mkE [(0, ii m), (1, ii s), (4, ii 0), (5, ii 0), (6, ii k)], []⟩) (fun k => 1 ≤ k ∧ k ≤ nNeed m s) (fun k => (100 - k).toNat) 1 ?_ ?_ ?_
    · refine sub_of _ [] (by simp [go_sem]) ?_
      simp [go_sem]
    · simp [nNeed]; omega
    · rintro k ⟨h1, h2⟩
      have hk : k ≤ 61 := by unfold nNeed at h2; omega
      (repeat (first | refine awp_seq ?_ | refine awp_block ?_ | (refine awp_runG [0, 1, 4, 5, 6, 20, 26] hX ?_; (simp [go_sem]; try simp (disch := omega) only [w64, td, tm])) | (refine awp_drawnG [0, 1, 4, 5, 6, 20, 26] hX mixed (by kernel_rfl) ?_; (simp [go_sem]; try simp (disch := omega) only [w64, td, tm])) | (refine awp_ret ?_; (simp [go_sem]; try simp (disch := omega) only [w64, td, tm])) | (refine awp_skip ?_; (simp [go_sem]; try simp (disch := omega) only [w64, td, tm])) | (refine awp_exit ?_; (simp [go_sem]; try simp (disch := omega) only [w64, td, tm]))))
      refine awp_cond (b := decide (k * 1000 < m * s)) (by simp [go_sem]) (fun hb => ?_) (fun hb => ?_)
      · simp at hb
        (repeat (first | refine awp_seq ?_ | refine awp_block ?_ | (refine awp_runG [0, 1, 4, 5, 6, 20, 26] hX ?_; (simp [go_sem]; try simp (disch := omega) only [w64, td, tm])) | (refine awp_drawnG [0, 1, 4, 5, 6, 20, 26] hX mixed (by kernel_rfl) ?_; (simp [go_sem]; try simp (disch := omega) only [w64, td, tm])) | (refine awp_ret ?_; (simp [go_sem]; try simp (disch := omega) only [w64, td, tm])) | (refine awp_skip ?_; (simp [go_sem]; try simp (disch := omega) only [w64, td, tm])) | (refine awp_exit ?_; (simp [go_sem]; try simp (disch := omega) only [w64, td, tm]))))
        refine ⟨k + 1, ⟨by omega, by unfold nNeed; omega⟩, by omega, ?_⟩
        refine sub_of _ [] (by simp [go_sem]) ?_
        simp [go_sem]
      · simp at hb
        (repeat (first | refine awp_seq ?_ | refine awp_block ?_ | (refine awp_runG [0, 1, 4, 5, 6, 20, 26] hX ?_; (simp [go_sem]; try simp (disch := omega) only [w64, td, tm])) | (refine awp_drawnG [0, 1, 4, 5, 6, 20, 26] hX mixed (by kernel_rfl) ?_; (simp [go_sem]; try simp (disch := omega) only [w64, td, tm])) | (refine awp_ret ?_; (simp [go_sem]; try simp (disch := omega) only [w64, td, tm])) | (refine awp_skip ?_; (simp [go_sem]; try simp (disch := omega) only [w64, td, tm])) | (refine awp_exit ?_; (simp [go_sem]; try simp (disch := omega) only [w64, td, tm]))))
        simp [hb']
        unfold nNeed at h2 ⊢
        omega

set_option maxHeartbeats 400000 in
theorem index_m (L : List Int) (hl : L.length ≤ 9223372036854775807) (x : Int) : Means true Try.prog 24 [.sl (L.map ii), ii x] (ii (idx L x)) := by
  refine means_fn true 19 [.tmp 4] Try.func24 rfl rfl rfl (by simp) rfl fun X hX => ?_
  (repeat (first | refine awp_seq ?_ | refine awp_block ?_ | (refine awp_runG [0, 1, 4, 5, 7, 8, 9, 16] hX ?_; simp [go_sem]) | (refine awp_drawnG [0, 1, 4, 5, 7, 8, 9, 16] hX mixed (by kernel_rfl) ?_; simp [go_sem]) | (refine awp_ret ?_; simp [go_sem]) | (refine awp_skip ?_; simp [go_sem]) | (refine awp_exit ?_; simp [go_sem])))
  refine awp_loop (fun k : Nat => ⟨mkE [(0, .sl (L.map ii)), (1, ii x), (4, ii 0), (7, ii L.length), (8, ii k)], []⟩) (fun k => k ≤ L.length ∧ x ∉ L.take k) (fun k => L.length - k) 0 ?_ ?_ ?_
  · refine sub_of _ [] (by simp [go_sem]) ?_
    simp [go_sem]
  · simp
  · rintro k ⟨hk, hn⟩
    (repeat (first | refine awp_seq ?_ | refine awp_block ?_ | (refine awp_runG [0, 1, 4, 5, 7, 8, 9, 16] hX ?_; simp [go_sem]) | (refine awp_drawnG [0, 1, 4, 5, 7, 8, 9, 16] hX mixed (by kernel_rfl) ?_; simp [go_sem]) | (refine awp_ret ?_; simp [go_sem]) | (refine awp_skip ?_; simp [go_sem]) | (refine awp_exit ?_; simp [go_sem])))
    refine awp_cond (b := decide (k < L.length)) (by simp [go_sem]) (fun hb => ?_) (fun hb => ?_)
    · simp at hb
      (repeat (first | refine awp_seq ?_ | refine awp_block ?_ | (refine awp_runG [0, 1, 4, 5, 7, 8, 9, 16] hX ?_; simp [go_sem, hb]) | (refine awp_drawnG [0, 1, 4, 5, 7, 8, 9, 16] hX mixed (by kernel_rfl) ?_; simp [go_sem, hb]) | (refine awp_ret ?_; simp [go_sem, hb]) | (refine awp_skip ?_; simp [go_sem, hb]) | (refine awp_exit ?_; simp [go_sem, hb])))
      refine awp_cond (b := decide (x = L[k])) (by simp [go_sem]) (fun hc => ?_) (fun hc => ?_)
      · simp at hc
        subst hc
        (repeat (first | refine awp_seq ?_ | refine awp_block ?_ | (refine awp_runG [0, 1, 4, 5, 7, 8, 9, 16] hX ?_; simp [go_sem]) | (refine awp_drawnG [0, 1, 4, 5, 7, 8, 9, 16] hX mixed (by kernel_rfl) ?_; simp [go_sem]) | (refine awp_ret ?_; simp [go_sem]) | (refine awp_skip ?_; simp [go_sem]) | (refine awp_exit ?_; simp [go_sem])))
        simp [idx_at hb hn]
      · simp at hc
        (repeat (first | refine awp_seq ?_ | refine awp_block ?_ | (refine awp_runG [0, 1, 4, 5, 7, 8, 9, 16] hX ?_; (simp [go_sem]; try simp (disch := omega) only [w64, td, tm])) | (refine awp_drawnG [0, 1, 4, 5, 7, 8, 9, 16] hX mixed (by kernel_rfl) ?_; (simp [go_sem]; try simp (disch := omega) only [w64, td, tm])) | (refine awp_ret ?_; (simp [go_sem]; try simp (disch := omega) only [w64, td, tm])) | (refine awp_skip ?_; (simp [go_sem]; try simp (disch := omega) only [w64, td, tm])) | (refine awp_exit ?_; (simp [go_sem]; try simp (disch := omega) only [w64, td, tm]))))
        refine ⟨k + 1, ⟨by omega, by rw [mem_take_succ hb]; exact fun h => h.elim hn hc⟩, by omega, ?_⟩
        refine sub_of _ [] (by simp [go_sem]) ?_
        simp [go_sem]
    · simp at hb
      (repeat (first | refine awp_seq ?_ | refine awp_block ?_ | (refine awp_runG [0, 1, 4, 5, 7, 8, 9, 16] hX ?_; simp [go_sem]) | (refine awp_drawnG [0, 1, 4, 5, 7, 8, 9, 16] hX mixed (by kernel_rfl) ?_; simp [go_sem]) | (refine awp_ret ?_; simp [go_sem]) | (refine awp_skip ?_; simp [go_sem]) | (refine awp_exit ?_; simp [go_sem])))
      have : k = L.length := by omega
      subst this
      rw [List.take_length] at hn
      simp [idx_none hn]

theorem contains_m (L : List Int) (hl : L.length ≤ 9223372036854775807) (x : Int) : Means true Try.prog 23 [.sl (L.map ii), ii x] (bb (decide (x ∈ L))) := by
  refine means_fn true 9 [.tmp 4] Try.func23 rfl rfl rfl (by simp) rfl fun X hX => ?_
  (repeat (first | refine awp_seq ?_ | refine awp_block ?_ | (refine awp_runG [0, 1, 4] hX ?_; simp [go_sem]) | (refine awp_drawnG [0, 1, 4] hX mixed (by kernel_rfl) ?_; simp [go_sem]) | (refine awp_ret ?_; simp [go_sem]) | (refine awp_skip ?_; simp [go_sem]) | (refine awp_exit ?_; simp [go_sem])))
  refine callK_intro (index_m L hl x) rfl (by simp [go_sem]) ?_
  simp [go_sem, idx_nonneg]
  (repeat (first | refine awp_seq ?_ | refine awp_block ?_ | (refine awp_runG [0, 1, 4] hX ?_; simp [go_sem]) | (refine awp_drawnG [0, 1, 4] hX mixed (by kernel_rfl) ?_; simp [go_sem]) | (refine awp_ret ?_; simp [go_sem]) | (refine awp_skip ?_; simp [go_sem]) | (refine awp_exit ?_; simp [go_sem])))

theorem containsT_m (L : List Int) (k : Nat) (hl : L.length ≤ 9223372036854775807) (x : Int) : Means true Try.prog 23 [.sl ((L.map ii).take k), ii x] (bb (decide (x ∈ L.take k))) := by
  rw [← List.map_take]
  exact contains_m _ (by simp; omega) x

set_option maxHeartbeats 400000 in
theorem at_m (L : List Int) (hl : L.length ≤ 9223372036854775807) (x : Int) : Means true Try.prog 19 [.sl (L.map ii), ii x] (ii (idx L x)) := by
  refine means_fn true 19 [.tmp 4] Try.func19 rfl rfl rfl (by simp) rfl fun X hX => ?_
  (repeat (first | refine awp_seq ?_ | refine awp_block ?_ | (refine awp_runG [0, 1, 4, 5, 9, 17] hX ?_; simp [go_sem]) | (refine awp_drawnG [0, 1, 4, 5, 9, 17] hX mixed (by kernel_rfl) ?_; simp [go_sem]) | (refine awp_ret ?_; simp [go_sem]) | (refine awp_skip ?_; simp [go_sem]) | (refine awp_exit ?_; simp [go_sem])))
  refine awp_loop (fun k : Nat => ⟨mkE [(0, .sl (L.map ii)), (1, ii x), (4, ii 0), (5, ii k)], []⟩) (fun k => k ≤ L.length ∧ x ∉ L.take k) (fun k => L.length - k) 0 ?_ ?_ ?_
  · refine sub_of _ [] (by simp [go_sem]) ?_
    simp [go_sem]
  · simp
  · rintro k ⟨hk, hn⟩
    (repeat (first | refine awp_seq ?_ | refine awp_block ?_ | (refine awp_runG [0, 1, 4, 5, 9, 17] hX ?_; simp [go_sem]) | (refine awp_drawnG [0, 1, 4, 5, 9, 17] hX mixed (by kernel_rfl) ?_; simp [go_sem]) | (refine awp_ret ?_; simp [go_sem]) | (refine awp_skip ?_; simp [go_sem]) | (refine awp_exit ?_; simp [go_sem])))
    refine awp_cond (b := decide (k < L.length)) (by simp [go_sem]) (fun hb => ?_) (fun hb => ?_)
    · simp at hb
      (repeat (first | refine awp_seq ?_ | refine awp_block ?_ | (refine awp_runG [0, 1, 4, 5, 9, 17] hX ?_; simp [go_sem, hb]) | (refine awp_drawnG [0, 1, 4, 5, 9, 17] hX mixed (by kernel_rfl) ?_; simp [go_sem, hb]) | (refine awp_ret ?_; simp [go_sem, hb]) | (refine awp_skip ?_; simp [go_sem, hb]) | (refine awp_exit ?_; simp [go_sem, hb])))
      refine awp_cond (b := decide (L[k] = x)) (by simp [go_sem]) (fun hc => ?_) (fun hc => ?_)
      · simp at hc
        subst hc
        (repeat (first | refine awp_seq ?_ | refine awp_block ?_ | (refine awp_runG [0, 1, 4, 5, 9, 17] hX ?_; simp [go_sem]) | (refine awp_drawnG [0, 1, 4, 5, 9, 17] hX mixed (by kernel_rfl) ?_; simp [go_sem]) | (refine awp_ret ?_; simp [go_sem]) | (refine awp_skip ?_; simp [go_sem]) | (refine awp_exit ?_; simp [go_sem])))
        simp [idx_at hb hn]
      · simp at hc
        (repeat (first | refine awp_seq ?_ | refine awp_block ?_ | (refine awp_runG [0, 1, 4, 5, 9, 17] hX ?_; (simp [go_sem]; try simp (disch := omega) only [w64, td, tm])) | (refine awp_drawnG [0, 1, 4, 5, 9, 17] hX mixed (by kernel_rfl) ?_; (simp [go_sem]; try simp (disch := omega) only [w64, td, tm])) | (refine awp_ret ?_; (simp [go_sem]; try simp (disch := omega) only [w64, td, tm])) | (refine awp_skip ?_; (simp [go_sem]; try simp (disch := omega) only [w64, td, tm])) | (refine awp_exit ?_; (simp [go_sem]; try simp (disch := omega) only [w64, td, tm]))))
        refine ⟨k + 1, ⟨by omega, by rw [mem_take_succ hb]; exact fun h => h.elim hn (fun e => hc e.symm)⟩, by omega, ?_⟩
        refine sub_of _ [] (by simp [go_sem]) ?_
        simp [go_sem]
    · simp at hb
      (repeat (first | refine awp_seq ?_ | refine awp_block ?_ | (refine awp_runG [0, 1, 4, 5, 9, 17] hX ?_; simp [go_sem]) | (refine awp_drawnG [0, 1, 4, 5, 9, 17] hX mixed (by kernel_rfl) ?_; simp [go_sem]) | (refine awp_ret ?_; simp [go_sem]) | (refine awp_skip ?_; simp [go_sem]) | (refine awp_exit ?_; simp [go_sem])))
      have : k = L.length := by omega
      subst this
      rw [List.take_length] at hn
      simp [idx_none hn]

set_option maxHeartbeats 400000 in
theorem members_m (L : List Int) (hl : L.length ≤ 9223372036854775807) : Means true Try.prog 18 [.sl (L.map ii)] (bb (okM L)) := by
  refine means_fn true 40 [.tmp 2] Try.func18 rfl rfl rfl (by simp) rfl fun X hX => ?_
  (repeat (first | refine awp_seq ?_ | refine awp_block ?_ | (refine awp_runG [0, 2, 3, 7, 31] hX ?_; simp [go_sem]) | (refine awp_drawnG [0, 2, 3, 7, 31] hX mixed (by kernel_rfl) ?_; simp [go_sem]) | (refine awp_ret ?_; simp [go_sem]) | (refine awp_skip ?_; simp [go_sem]) | (refine awp_exit ?_; simp [go_sem])))
  refine awp_loop (fun k : Nat => ⟨mkE [(0, .sl (L.map ii)), (2, bb false), (3, ii k)], []⟩) (fun k => k ≤ L.length ∧ (L.take k).all inK = true ∧ (L.take k).Nodup) (fun k => L.length - k) 0 ?_ ?_ ?_
  · refine sub_of _ [] (by simp [go_sem]) ?_
    simp [go_sem]
  · simp
  · rintro k ⟨hk, hn, hd⟩
    (repeat (first | refine awp_seq ?_ | refine awp_block ?_ | (refine awp_runG [0, 2, 3, 7, 31] hX ?_; simp [go_sem]) | (refine awp_drawnG [0, 2, 3, 7, 31] hX mixed (by kernel_rfl) ?_; simp [go_sem]) | (refine awp_ret ?_; simp [go_sem]) | (refine awp_skip ?_; simp [go_sem]) | (refine awp_exit ?_; simp [go_sem])))
    refine awp_cond (b := decide (k < L.length)) (by simp [go_sem]) (fun hb => ?_) (fun hb => ?_)
    · simp at hb
      (repeat (first | refine awp_seq ?_ | refine awp_block ?_ | (refine awp_runG [0, 2, 3, 7, 31] hX ?_; simp [go_sem, hb]) | (refine awp_drawnG [0, 2, 3, 7, 31] hX mixed (by kernel_rfl) ?_; simp [go_sem, hb]) | (refine awp_ret ?_; simp [go_sem, hb]) | (refine awp_skip ?_; simp [go_sem, hb]) | (refine awp_exit ?_; simp [go_sem, hb])))
      refine callG_intro (fun hg => at_m L hl L[k]) rfl (by simp [go_sem]) ?_
      simp [go_sem]
      refine awp_cond (b := !inK L[k] || !decide (idx L L[k] = k)) (by simp [go_sem, inK]) (fun hc => ?_) (fun hc => ?_)
      · (repeat (first | refine awp_seq ?_ | refine awp_block ?_ | (refine awp_runG [0, 2, 3, 7, 31] hX ?_; simp [go_sem]) | (refine awp_drawnG [0, 2, 3, 7, 31] hX mixed (by kernel_rfl) ?_; simp [go_sem]) | (refine awp_ret ?_; simp [go_sem]) | (refine awp_skip ?_; simp [go_sem]) | (refine awp_exit ?_; simp [go_sem])))
        simp at hc
        rcases hc with hc | hc
        · simp [okM_range hb hc]
        · have : L[k] ∈ L.take k := by
            refine Classical.byContradiction fun h => hc (idx_at hb h)
          simp [okM_dup hb this]
      · simp at hc
        (repeat (first | refine awp_seq ?_ | refine awp_block ?_ | (refine awp_runG [0, 2, 3, 7, 31] hX ?_; (simp [go_sem]; try simp (disch := omega) only [w64, td, tm])) | (refine awp_drawnG [0, 2, 3, 7, 31] hX mixed (by kernel_rfl) ?_; (simp [go_sem]; try simp (disch := omega) only [w64, td, tm])) | (refine awp_ret ?_; (simp [go_sem]; try simp (disch := omega) only [w64, td, tm])) | (refine awp_skip ?_; (simp [go_sem]; try simp (disch := omega) only [w64, td, tm])) | (refine awp_exit ?_; (simp [go_sem]; try simp (disch := omega) only [w64, td, tm]))))
        have hm : L[k] ∉ L.take k := idx_at' hb hc.2
        refine ⟨k + 1, ⟨by omega, by simpa using all_take_succ hb hn hc.1, nodup_take_succ hb hd hm⟩, by omega, ?_⟩
        refine sub_of _ [] (by simp [go_sem]) ?_
        simp [go_sem]
    · simp at hb
      (repeat (first | refine awp_seq ?_ | refine awp_block ?_ | (refine awp_runG [0, 2, 3, 7, 31] hX ?_; simp [go_sem]) | (refine awp_drawnG [0, 2, 3, 7, 31] hX mixed (by kernel_rfl) ?_; simp [go_sem]) | (refine awp_ret ?_; simp [go_sem]) | (refine awp_skip ?_; simp [go_sem]) | (refine awp_exit ?_; simp [go_sem])))
      have : k = L.length := by omega
      subst this
      rw [List.take_length] at hn hd
      simp [okM, hn, hd]

set_option maxHeartbeats 400000 in
theorem valid_m (L : List Int) (hl : L.length ≤ 9223372036854775807) : Means true Try.prog 21 [.sl (L.map ii)] (bb (okM L)) := by
  refine means_fn true 34 [.tmp 2] Try.func21 rfl rfl rfl (by simp) rfl fun X hX => ?_
  (repeat (first | refine awp_seq ?_ | refine awp_block ?_ | (refine awp_runG [0, 2, 3, 4, 12, 13, 14, 15, 16, 32] hX ?_; simp [go_sem]) | (refine awp_drawnG [0, 2, 3, 4, 12, 13, 14, 15, 16, 32] hX mixed (by kernel_rfl) ?_; simp [go_sem]) | (refine awp_ret ?_; simp [go_sem]) | (refine awp_skip ?_; simp [go_sem]) | (refine awp_exit ?_; simp [go_sem])))
  refine awp_cond (b := decide (L.length = 0) || decide (60 < (L.length : Int))) (by simp [go_sem]) (fun hb => ?_) (fun hb => ?_)
  · (repeat (first | refine awp_seq ?_ | refine awp_block ?_ | (refine awp_runG [0, 2, 3, 4, 12, 13, 14, 15, 16, 32] hX ?_; simp [go_sem]) | (refine awp_drawnG [0, 2, 3, 4, 12, 13, 14, 15, 16, 32] hX mixed (by kernel_rfl) ?_; simp [go_sem]) | (refine awp_ret ?_; simp [go_sem]) | (refine awp_skip ?_; simp [go_sem]) | (refine awp_exit ?_; simp [go_sem])))
    simp at hb
    rcases hb with rfl | hb
    · rfl
    · simp [okM]; omega
  · simp at hb
    (repeat (first | refine awp_seq ?_ | refine awp_block ?_ | (refine awp_runG [0, 2, 3, 4, 12, 13, 14, 15, 16, 32] hX ?_; simp [go_sem]) | (refine awp_drawnG [0, 2, 3, 4, 12, 13, 14, 15, 16, 32] hX mixed (by kernel_rfl) ?_; simp [go_sem]) | (refine awp_ret ?_; simp [go_sem]) | (refine awp_skip ?_; simp [go_sem]) | (refine awp_exit ?_; simp [go_sem])))
    refine awp_loop (fun k : Nat => ⟨mkE [(0, .sl (L.map ii)), (2, bb false), (13, .sl (L.map ii)), (14, ii L.length), (15, ii k)], []⟩) (fun k => k ≤ L.length ∧ (L.take k).all inK = true ∧ (L.take k).Nodup) (fun k => L.length - k) 0 ?_ ?_ ?_
    · refine sub_of _ [] (by simp [go_sem]) ?_
      simp [go_sem]
    · simp
    · rintro k ⟨hk, hn, hd⟩
      (repeat (first | refine awp_seq ?_ | refine awp_block ?_ | (refine awp_runG [0, 2, 3, 4, 12, 13, 14, 15, 16, 32] hX ?_; simp [go_sem]) | (refine awp_drawnG [0, 2, 3, 4, 12, 13, 14, 15, 16, 32] hX mixed (by kernel_rfl) ?_; simp [go_sem]) | (refine awp_ret ?_; simp [go_sem]) | (refine awp_skip ?_; simp [go_sem]) | (refine awp_exit ?_; simp [go_sem])))
      refine awp_cond (b := decide (k < L.length)) (by simp [go_sem]) (fun hb' => ?_) (fun hb' => ?_)
      · simp at hb'
        (repeat (first | refine awp_seq ?_ | refine awp_block ?_ | (refine awp_runG [0, 2, 3, 4, 12, 13, 14, 15, 16, 32] hX ?_; simp [go_sem, hb']) | (refine awp_drawnG [0, 2, 3, 4, 12, 13, 14, 15, 16, 32] hX mixed (by kernel_rfl) ?_; simp [go_sem, hb']) | (refine awp_ret ?_; simp [go_sem, hb']) | (refine awp_skip ?_; simp [go_sem, hb']) | (refine awp_exit ?_; simp [go_sem, hb'])))
        refine ⟨fun _ _ => by omega, ?_⟩
        refine callG_intro (fun hg => containsT_m L k hl L[k]) rfl (by simp [go_sem]) ?_
        simp [go_sem]
        refine awp_cond (b := !inK L[k] || decide (L[k] ∈ L.take k)) (by simp [go_sem, inK]) (fun hc => ?_) (fun hc => ?_)
        · (repeat (first | refine awp_seq ?_ | refine awp_block ?_ | (refine awp_runG [0, 2, 3, 4, 12, 13, 14, 15, 16, 32] hX ?_; simp [go_sem]) | (refine awp_drawnG [0, 2, 3, 4, 12, 13, 14, 15, 16, 32] hX mixed (by kernel_rfl) ?_; simp [go_sem]) | (refine awp_ret ?_; simp [go_sem]) | (refine awp_skip ?_; simp [go_sem]) | (refine awp_exit ?_; simp [go_sem])))
          simp at hc
          rcases hc with hc | hc
          · simp [okM_range hb' hc]
          · simp [okM_dup hb' hc]
        · simp at hc
          (repeat (first | refine awp_seq ?_ | refine awp_block ?_ | (refine awp_runG [0, 2, 3, 4, 12, 13, 14, 15, 16, 32] hX ?_; (simp [go_sem]; try simp (disch := omega) only [w64, td, tm])) | (refine awp_drawnG [0, 2, 3, 4, 12, 13, 14, 15, 16, 32] hX mixed (by kernel_rfl) ?_; (simp [go_sem]; try simp (disch := omega) only [w64, td, tm])) | (refine awp_ret ?_; (simp [go_sem]; try simp (disch := omega) only [w64, td, tm])) | (refine awp_skip ?_; (simp [go_sem]; try simp (disch := omega) only [w64, td, tm])) | (refine awp_exit ?_; (simp [go_sem]; try simp (disch := omega) only [w64, td, tm]))))
          refine ⟨k + 1, ⟨by omega, by simpa using all_take_succ hb' hn hc.1, nodup_take_succ hb' hd hc.2⟩, by omega, ?_⟩
          refine sub_of _ [] (by simp [go_sem]) ?_
          simp [go_sem]
      · simp at hb'
        (repeat (first | refine awp_seq ?_ | refine awp_block ?_ | (refine awp_runG [0, 2, 3, 4, 12, 13, 14, 15, 16, 32] hX ?_; simp [go_sem]) | (refine awp_drawnG [0, 2, 3, 4, 12, 13, 14, 15, 16, 32] hX mixed (by kernel_rfl) ?_; simp [go_sem]) | (refine awp_ret ?_; simp [go_sem]) | (refine awp_skip ?_; simp [go_sem]) | (refine awp_exit ?_; simp [go_sem])))
        have : k = L.length := by omega
        subst this
        rw [List.take_length] at hn hd
        simp [okM, hn, hd]
        have := List.length_pos_iff.2 hb.1
        omega

end Go.Proofs.Ytgccheogieddnaa
