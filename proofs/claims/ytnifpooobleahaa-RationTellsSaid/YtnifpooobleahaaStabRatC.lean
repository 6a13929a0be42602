/-
  Sorting places: at most nineteen.
-/
import Derived.Test.YtnifpooobleahaaSortRatC
set_option linter.all false
namespace Go.Proofs.Ytnifpooobleahaa
open Go.RowKit Go.Ab
attribute [local irreducible] AWP Go.Ab.Sub Means MeansH CallK CallG CallT CallGT

set_option maxHeartbeats 4000000 in
set_option maxRecDepth 20000 in
theorem stable_m (l R : List Int) (hn : l.Nodup) (hord : ∀ i j (hi : i < l.length) (hj : j < l.length), i < j → l[i] < l[j]) (hr : ∀ x ∈ l, 0 ≤ x ∧ x < R.length) (hlt : l.length < 20) (hR : R.length ≤ 100000) (hok : okR R) :
    MeansH Try.prog 34 (sH l R) [.ow 0, ii l.length, clo] (.tup []) (sH (srt (kf R) l) R) := by
  have hi : MeansH Try.prog 51 (sH l R) [.ow 0, ii 0, ii l.length, clo] (.tup []) (sH (srt (kf R) l) R) := by
    have := insSort_m [] l [] R hn hord hr (by simp; omega) hR hok
    simpa [r3] using this
  have hlt2 : ¬ (20 : Int) ≤ l.length := by omega
  have hlt3 : ¬ (20 : Int) < l.length := by omega
  refine meansH_fn 3 63 [] Try.func34 rfl rfl rfl (by simp) (by decide) rfl fun X hX => ?_
  (repeat (first | refine awp_seq ?_ | refine awp_block ?_ | ((first | refine awp_runG [0, 1, 2, 6, 7, 8, 9, 13, 30, 35, 54, 1000000, 1000001, 1000002] hX ?_ | refine awp_drawnG [0, 1, 2, 6, 7, 8, 9, 13, 30, 35, 54, 1000000, 1000001, 1000002] hX mixed ?_ | refine awp_skip ?_ | refine awp_exit ?_); (simp [go_sem]; (try simp (disch := omega) only [w64, td, tm]); try (refine ⟨by kernel_rfl, ?_⟩)))))
  refine awp_loop (fun _ : Nat => ⟨mkE [(0, .ow 0), (1, ii l.length), (2, clo), (6, ii 20), (7, ii 0), (8, ii 20), (1000000, .ow 0), (1000001, .ow 1), (1000002, .ow 2)], sH l R⟩) (fun _ => True) (fun _ => 0) 0 ?_ ?_ ?_
  · refine sub_of _ [.old 0 ⟨3, 1, l.map ii⟩, .old 1 ⟨22, 1, [.ow 2]⟩, .old 2 ⟨3, 1, R.map ii⟩] (by simp [go_sem]) ?_
    simp [go_sem]
  · trivial
  · intro _ _
    (repeat (first | refine awp_seq ?_ | refine awp_block ?_ | ((first | refine awp_runG [0, 1, 2, 6, 7, 8, 9, 13, 30, 35, 54, 1000000, 1000001, 1000002] hX ?_ | refine awp_drawnG [0, 1, 2, 6, 7, 8, 9, 13, 30, 35, 54, 1000000, 1000001, 1000002] hX mixed ?_ | refine awp_skip ?_ | refine awp_exit ?_); (simp [go_sem, hlt2]; (try simp (disch := omega) only [w64, td, tm]); try (refine ⟨by kernel_rfl, ?_⟩)))))
    refine awp_cond (b := false) (by simp [go_sem]; try omega) (fun h => by cases h) (fun _ => ?_)
    (repeat (first | refine awp_seq ?_ | refine awp_block ?_ | ((first | refine awp_runG [0, 1, 2, 6, 7, 8, 9, 13, 30, 35, 54, 1000000, 1000001, 1000002] hX ?_ | refine awp_drawnG [0, 1, 2, 6, 7, 8, 9, 13, 30, 35, 54, 1000000, 1000001, 1000002] hX mixed ?_ | refine awp_skip ?_ | refine awp_exit ?_); (simp [go_sem]; try (refine ⟨by kernel_rfl, ?_⟩)))))
    first | refine callH_intro [0, 1, 2] (hi) (by simp [go_sem]) ?_ | refine callTQ_intro [0, 1, 2] (hi) (by simp [go_sem]) ?_ | refine callTE_intro [0, 1, 2] (hi) (by simp [go_sem]) ?_
    try (simp [go_sem]; try (refine ⟨by kernel_rfl, ?_⟩))
    (repeat (first | refine awp_seq ?_ | refine awp_block ?_ | ((first | refine awp_runG [0, 1, 2, 6, 7, 8, 9, 13, 30, 35, 54, 1000000, 1000001, 1000002] hX ?_ | refine awp_drawnG [0, 1, 2, 6, 7, 8, 9, 13, 30, 35, 54, 1000000, 1000001, 1000002] hX mixed ?_ | refine awp_skip ?_ | refine awp_exit ?_); (simp [go_sem]; try (refine ⟨by kernel_rfl, ?_⟩)))))
    refine awp_loop (fun _ : Nat => ⟨mkE [(0, .ow 0), (1, ii l.length), (2, clo), (6, ii 20), (1000000, .ow 0), (1000001, .ow 1), (1000002, .ow 2)], sH (srt (kf R) l) R⟩) (fun _ => True) (fun _ => 0) 0 ?_ ?_ ?_
    · refine sub_of _ [.old 0 ⟨3, 1, (srt (kf R) l).map ii⟩, .old 1 ⟨22, 1, [.ow 2]⟩, .old 2 ⟨3, 1, R.map ii⟩] (by simp [go_sem]) ?_
      simp [go_sem]
    · trivial
    · intro _ _
      (repeat (first | refine awp_seq ?_ | refine awp_block ?_ | ((first | refine awp_runG [0, 1, 2, 6, 7, 8, 9, 13, 30, 35, 54, 1000000, 1000001, 1000002] hX ?_ | refine awp_drawnG [0, 1, 2, 6, 7, 8, 9, 13, 30, 35, 54, 1000000, 1000001, 1000002] hX mixed ?_ | refine awp_skip ?_ | refine awp_exit ?_); (simp [go_sem, hlt3]; (try simp (disch := omega) only [w64, td, tm]); try (refine ⟨by kernel_rfl, ?_⟩)))))
      refine awp_cond (b := false) (by simp [go_sem]; try omega) (fun h => by cases h) (fun _ => ?_)
      (repeat (first | refine awp_seq ?_ | refine awp_block ?_ | ((first | refine awp_runG [0, 1, 2, 6, 7, 8, 9, 13, 30, 35, 54, 1000000, 1000001, 1000002] hX ?_ | refine awp_drawnG [0, 1, 2, 6, 7, 8, 9, 13, 30, 35, 54, 1000000, 1000001, 1000002] hX mixed ?_ | refine awp_skip ?_ | refine awp_exit ?_); (simp [go_sem]; try (refine ⟨by kernel_rfl, ?_⟩)))))
      (try refine awp_ret ?_); (try simp only [thenQ, blkQ, loopQ]); refine retH_normal [(1000000, .ow 0), (1000001, .ow 1), (1000002, .ow 2)] [.old 0 ⟨3, 1, (srt (kf R) l).map ii⟩, .old 1 ⟨22, 1, [.ow 2]⟩, .old 2 ⟨3, 1, R.map ii⟩] ?_
      simp [go_sem]

set_option maxHeartbeats 4000000 in
set_option maxRecDepth 20000 in
theorem sortS_m (l R : List Int) (hn : l.Nodup) (hord : ∀ i j (hi : i < l.length) (hj : j < l.length), i < j → l[i] < l[j]) (hr : ∀ x ∈ l, 0 ≤ x ∧ x < R.length) (hlt : l.length < 20) (hR : R.length ≤ 100000) (hok : okR R) :
    MeansH Try.prog 23 (sH l R) [.ow 0, clo] (.tup []) (sH (srt (kf R) l) R) := by
  refine meansH_fn 3 9 [] Try.func23 rfl rfl rfl (by simp) (by decide) rfl fun X hX => ?_
  (repeat (first | refine awp_seq ?_ | refine awp_block ?_ | ((first | refine awp_runG [0, 1, 1000000, 1000001, 1000002] hX ?_ | refine awp_drawnG [0, 1, 1000000, 1000001, 1000002] hX mixed ?_ | refine awp_skip ?_ | refine awp_exit ?_); (simp [go_sem]; try (refine ⟨by kernel_rfl, ?_⟩)))))
  first | refine callH_intro [0, 1, 2] (stable_m l R hn hord hr hlt hR hok) (by simp [go_sem]) ?_ | refine callTQ_intro [0, 1, 2] (stable_m l R hn hord hr hlt hR hok) (by simp [go_sem]) ?_ | refine callTE_intro [0, 1, 2] (stable_m l R hn hord hr hlt hR hok) (by simp [go_sem]) ?_
  try (simp [go_sem]; try (refine ⟨by kernel_rfl, ?_⟩))
  (repeat (first | refine awp_seq ?_ | refine awp_block ?_ | ((first | refine awp_runG [0, 1, 1000000, 1000001, 1000002] hX ?_ | refine awp_drawnG [0, 1, 1000000, 1000001, 1000002] hX mixed ?_ | refine awp_skip ?_ | refine awp_exit ?_); (simp [go_sem]; try (refine ⟨by kernel_rfl, ?_⟩)))))
  (try refine awp_ret ?_); (try simp only [thenQ, blkQ, loopQ]); refine retH_normal [(1000000, .ow 0), (1000001, .ow 1), (1000002, .ow 2)] [.old 0 ⟨3, 1, (srt (kf R) l).map ii⟩, .old 1 ⟨22, 1, [.ow 2]⟩, .old 2 ⟨3, 1, R.map ii⟩] ?_
  simp [go_sem]

end Go.Proofs.Ytnifpooobleahaa
