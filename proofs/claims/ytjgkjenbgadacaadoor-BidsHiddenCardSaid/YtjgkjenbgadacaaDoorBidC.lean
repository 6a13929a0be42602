/-
  Layer 24: how two places are compared.
-/
import Derived.Test.YtjgkjenbgadacaaDoorBidP
import Derived.Test.YtjgkjenbgadacaaDoorSplC
set_option linter.all false
namespace Go.Proofs.YtjgkjenbgadacaaDoor
open Go.RowKit Go.Ab
attribute [local irreducible] AWP Go.Ab.Sub Means MeansH CallK CallG CallT CallGT

abbrev ob (b : Bd) : AV := .agg [ii b.m, ii b.w, ii b.n, bb b.o]
abbrev bl (L : List Bd) : AV := .sl (L.map ob)
theorem nth_ob {L : List Bd} {k : Nat} (h : k < L.length) : nth (L.map ob) k = ob L[k] := nth_map _ h

namespace B
abbrev bsl (R : List Bd) : AV := bl R
def okR (_ : List Bd) : Prop := True
def cmpC (R : List Bd) (x y : Int) : Int := if kf R y < kf R x then -1 else if kf R x < kf R y then 1 else 0
theorem cmp_neg (R : List Bd) (x y : Int) : cmpC R x y < 0 ↔ kf R y < kf R x := by unfold cmpC; split <;> (try split) <;> omega

set_option maxHeartbeats 4000000 in
set_option maxRecDepth 20000 in
theorem clo_m (R : List Bd) (_hok : okR R) (x y : Int) (hx : 0 ≤ x ∧ x < R.length) (hy : 0 ≤ y ∧ y < R.length) : MeansH Tryd.prog 47 [.row ⟨22, 1, [bsl R]⟩] [ii x, ii y, .el 0 1 0 0] (ii (cmpC R x y)) [.row ⟨22, 1, [bsl R]⟩] := by
  obtain ⟨i, hi, rfl, e1⟩ := kf_at hx
  obtain ⟨j, hj, rfl, e2⟩ := kf_at hy
  unfold cmpC
  rw [e1, e2]
  have n1 := nth_ob hi
  have n2 := nth_ob hj
  refine meansH_fn 1 30 [.tmp 5] Tryd.func47 rfl rfl rfl (by simp) (by decide) rfl fun X hX => ?_
  (repeat (first | refine awp_seq ?_ | refine awp_block ?_ | ((first | refine awp_runG [0, 1, 2, 5, 6, 18, 1000000] hX ?_ | refine awp_drawnG [0, 1, 2, 5, 6, 18, 1000000] hX mixed ?_ | refine awp_skip ?_ | refine awp_exit ?_); (simp [go_sem, hi, hj, n1, n2]; try (refine ⟨by kernel_rfl, ?_⟩)))))
  refine awp_cond (b := decide (R[j].n < R[i].n)) (by simp [go_sem]) (fun hd => ?_) (fun hd => ?_)
  · simp at hd
    (repeat (first | refine awp_seq ?_ | refine awp_block ?_ | ((first | refine awp_runG [0, 1, 2, 5, 6, 18, 1000000] hX ?_ | refine awp_drawnG [0, 1, 2, 5, 6, 18, 1000000] hX mixed ?_ | refine awp_skip ?_ | refine awp_exit ?_); (simp [go_sem]; try (refine ⟨by kernel_rfl, ?_⟩)))))
    refine awp_ret ?_; (try simp only [thenQ, blkQ, loopQ]); refine retH_ret [(5, ii (-1)), (1000000, .ow 0)] [.old 0 ⟨22, 1, [bsl R]⟩] ?_
    simp [go_sem, hd]
  · simp at hd
    have hd2 : ¬ R[j].n < R[i].n := by omega
    (repeat (first | refine awp_seq ?_ | refine awp_block ?_ | ((first | refine awp_runG [0, 1, 2, 5, 6, 18, 1000000] hX ?_ | refine awp_drawnG [0, 1, 2, 5, 6, 18, 1000000] hX mixed ?_ | refine awp_skip ?_ | refine awp_exit ?_); (simp [go_sem, hi, hj, n1, n2]; try (refine ⟨by kernel_rfl, ?_⟩)))))
    refine awp_cond (b := decide (R[i].n < R[j].n)) (by simp [go_sem]) (fun hq => ?_) (fun hq => ?_)
    · simp at hq
      (repeat (first | refine awp_seq ?_ | refine awp_block ?_ | ((first | refine awp_runG [0, 1, 2, 5, 6, 18, 1000000] hX ?_ | refine awp_drawnG [0, 1, 2, 5, 6, 18, 1000000] hX mixed ?_ | refine awp_skip ?_ | refine awp_exit ?_); (simp [go_sem]; try (refine ⟨by kernel_rfl, ?_⟩)))))
      refine awp_ret ?_; (try simp only [thenQ, blkQ, loopQ]); refine retH_ret [(5, ii 1), (1000000, .ow 0)] [.old 0 ⟨22, 1, [bsl R]⟩] ?_
      simp [go_sem, hd2, hq]
    · simp at hq
      have hq2 : ¬ R[i].n < R[j].n := by omega
      (repeat (first | refine awp_seq ?_ | refine awp_block ?_ | ((first | refine awp_runG [0, 1, 2, 5, 6, 18, 1000000] hX ?_ | refine awp_drawnG [0, 1, 2, 5, 6, 18, 1000000] hX mixed ?_ | refine awp_skip ?_ | refine awp_exit ?_); (simp [go_sem]; try (refine ⟨by kernel_rfl, ?_⟩)))))
      refine awp_ret ?_; (try simp only [thenQ, blkQ, loopQ]); refine retH_ret [(5, ii 0), (1000000, .ow 0)] [.old 0 ⟨22, 1, [bsl R]⟩] ?_
      simp [go_sem, hd2, hq2]
end B

end Go.Proofs.YtjgkjenbgadacaaDoor
