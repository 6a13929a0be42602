/-
  Layer 24: a clash, a right list, a copy; put, open.
-/
import Derived.Test.YtjgkjenbgadacaaDoorBidA
set_option linter.all false
namespace Go.Proofs.YtjgkjenbgadacaaDoor
open Go.RowKit Go.Ab
attribute [local irreducible] AWP Go.Ab.Sub Means MeansH CallK CallG CallT CallGT CallU

/-- The box of a bid. -/
abbrev boxB (b : Bd) : Cell := .row ⟨24, 4, [ob b]⟩
def clashP (b x : Bd) : Bool := decide (x.m = b.m) || decide (x.w = b.w)

set_option maxHeartbeats 4000000 in
theorem clash1_m (b x : Bd) : MeansH Tryd.prog 54 [boxB b] [ob x, .el 0 4 0 0] (bb (clashP b x)) [boxB b] := by
  refine meansH_fn 1 16 [.tmp 3] Tryd.func54 rfl rfl rfl (by simp) (by decide) rfl fun X hX => ?_
  (repeat (first | refine awp_seq ?_ | refine awp_block ?_ | ((first | refine awp_runG [0, 1, 2, 3, 1000000] hX ?_ | refine awp_drawnG [0, 1, 2, 3, 1000000] hX mixed ?_ | refine awp_skip ?_ | refine awp_exit ?_); (simp [go_sem]; try (refine ⟨by kernel_rfl, ?_⟩)))))
  refine awp_ret ?_; (try simp only [thenQ, blkQ, loopQ]); refine retH_ret [(3, bb (clashP b x)), (1000000, .ow 0)] [.old 0 ⟨24, 4, [ob b]⟩] ?_
  simp [go_sem, clashP]

theorem findIdx_any {p : Bd → Bool} (L : List Bd) : decide (L.findIdx p < L.length) = L.any p := by
  rw [Bool.eq_iff_iff]
  simp [List.findIdx_lt_length]

set_option maxHeartbeats 4000000 in
theorem containsF_m (b : Bd) (L : List Bd) (hl : L.length ≤ 9223372036854775807) : MeansH Tryd.prog 53 [boxB b] [bl L, .fn 54 [] [.el 0 4 0 0]] (bb (clashB L b)) [boxB b] := by
  have h := indexF_m 54 24 4 (ob b) (clashP b) L hl (by simp [go_sem]) (fun x _ => clash1_m b x) (by kernel_rfl)
  have e : clashB L b = decide (L.findIdx (clashP b) < L.length) := by rw [findIdx_any]; rfl
  rw [e]
  generalize L.findIdx (clashP b) = q at *
  refine meansH_fn 1 9 [.tmp 4] Tryd.func53 rfl rfl rfl (by simp) (by decide) rfl fun X hX => ?_
  (repeat (first | refine awp_seq ?_ | refine awp_block ?_ | ((first | refine awp_runG [0, 1, 4, 1000000] hX ?_ | refine awp_drawnG [0, 1, 4, 1000000] hX mixed ?_ | refine awp_skip ?_ | refine awp_exit ?_); (simp [go_sem]; try (refine ⟨by kernel_rfl, ?_⟩)))))
  first | refine callH_intro [0] (h) (by simp [go_sem]) ?_ | refine callTQ_intro [0] (h) (by simp [go_sem]) ?_ | refine callTE_intro [0] (h) (by simp [go_sem]) ?_
  try (simp [go_sem]; try (refine ⟨by kernel_rfl, ?_⟩))
  by_cases hq : q < L.length
  · (repeat (first | refine awp_seq ?_ | refine awp_block ?_ | ((first | refine awp_runG [0, 1, 4, 1000000] hX ?_ | refine awp_drawnG [0, 1, 4, 1000000] hX mixed ?_ | refine awp_skip ?_ | refine awp_exit ?_); (simp [go_sem, hq]; try (refine ⟨by kernel_rfl, ?_⟩)))))
    refine awp_ret ?_; (try simp only [thenQ, blkQ, loopQ]); refine retH_ret [(4, bb true), (1000000, .ow 0)] [.old 0 ⟨24, 4, [ob b]⟩] ?_
    simp [go_sem, hq]
  · (repeat (first | refine awp_seq ?_ | refine awp_block ?_ | ((first | refine awp_runG [0, 1, 4, 1000000] hX ?_ | refine awp_drawnG [0, 1, 4, 1000000] hX mixed ?_ | refine awp_skip ?_ | refine awp_exit ?_); (simp [go_sem, hq]; try (refine ⟨by kernel_rfl, ?_⟩)))))
    refine awp_ret ?_; (try simp only [thenQ, blkQ, loopQ]); refine retH_ret [(4, bb false), (1000000, .ow 0)] [.old 0 ⟨24, 4, [ob b]⟩] ?_
    simp [go_sem, hq]

theorem clash_m (b : Bd) (L : List Bd) (hl : L.length ≤ 9223372036854775807) : Means true Tryd.prog 32 [bl L, ob b] (bb (clashB L b)) := by
  refine means_fn true 8 [.tmp 4] Tryd.func32 rfl rfl rfl (by simp) (by decide) rfl fun X hX => ?_
  (repeat (first | refine awp_seq ?_ | refine awp_block ?_ | ((first | refine awp_runG [0, 1, 3, 4] hX ?_ | refine awp_drawnG [0, 1, 3, 4] hX mixed ?_ | refine awp_ret ?_ | refine awp_skip ?_ | refine awp_exit ?_); (simp [go_sem]; try (refine ⟨by kernel_rfl, ?_⟩)))))
  first | refine callH_intro [0] (containsF_m b L hl) (by simp [go_sem]) ?_ | refine callTQ_intro [0] (containsF_m b L hl) (by simp [go_sem]) ?_ | refine callTE_intro [0] (containsF_m b L hl) (by simp [go_sem]) ?_
  try (simp [go_sem]; try (refine ⟨by kernel_rfl, ?_⟩))
  (repeat (first | refine awp_seq ?_ | refine awp_block ?_ | ((first | refine awp_runG [0, 1, 3, 4] hX ?_ | refine awp_drawnG [0, 1, 3, 4] hX mixed ?_ | refine awp_ret ?_ | refine awp_skip ?_ | refine awp_exit ?_); (simp [go_sem]; try (refine ⟨by kernel_rfl, ?_⟩)))))

end Go.Proofs.YtjgkjenbgadacaaDoor
