/-
  Layer 18: how two places are compared.
-/
import Derived.Test.YtjgkjenbgadacaaDoorBigS
import Derived.Test.YtjgkjenbgadacaaDoorFw5
import Derived.Test.YtjgkjenbgadacaaDoorSortP
set_option linter.all false
namespace Go.Proofs.YtjgkjenbgadacaaDoor
open Go.RowKit Go.Ab
attribute [local irreducible] AWP Go.Ab.Sub Means MeansH CallK CallG CallT CallGT

theorem isNaN_m (x : Int) : Means false Tryd.prog 78 [ii x] (bb false) := by
  refine means_fn false 6 [.tmp 2] Tryd.func78 rfl rfl rfl (by simp) (by decide) rfl fun X hX => ?_
  (repeat (first | refine awp_seq ?_ | refine awp_block ?_ | ((first | refine awp_runG [0, 2] hX ?_ | refine awp_drawnG [0, 2] hX mixed ?_ | refine awp_ret ?_ | refine awp_skip ?_ | refine awp_exit ?_); (simp [go_sem]; try (refine ⟨by kernel_rfl, ?_⟩)))))
/-- The order of two numbers. -/
def cmpI (x y : Int) : Int := if x < y then -1 else if y < x then 1 else 0
theorem cmpI_lt {x y : Int} : cmpI x y < 0 ↔ x < y := by unfold cmpI; split <;> (try split) <;> omega
theorem cmp_m (x y : Int) : Means false Tryd.prog 67 [ii x, ii y] (ii (cmpI x y)) := by
  refine means_fn false 20 [.tmp 4] Tryd.func67 rfl rfl rfl (by simp) (by decide) rfl fun X hX => ?_
  (repeat (first | refine awp_seq ?_ | refine awp_block ?_ | ((first | refine awp_runG [0, 1, 4, 5, 6, 11, 12, 13, 16, 19] hX ?_ | refine awp_drawnG [0, 1, 4, 5, 6, 11, 12, 13, 16, 19] hX mixed ?_ | refine awp_ret ?_ | refine awp_skip ?_ | refine awp_exit ?_); (simp [go_sem]; try (refine ⟨by kernel_rfl, ?_⟩)))))
  first | refine callK_intro (isNaN_m x) rfl (by simp [go_sem]) rfl ?_ | refine callT_intro (isNaN_m x) rfl (by simp [go_sem]) rfl ?_
  try (simp [go_sem]; try (refine ⟨by kernel_rfl, ?_⟩))
  (repeat (first | refine awp_seq ?_ | refine awp_block ?_ | ((first | refine awp_runG [0, 1, 4, 5, 6, 11, 12, 13, 16, 19] hX ?_ | refine awp_drawnG [0, 1, 4, 5, 6, 11, 12, 13, 16, 19] hX mixed ?_ | refine awp_ret ?_ | refine awp_skip ?_ | refine awp_exit ?_); (simp [go_sem]; try (refine ⟨by kernel_rfl, ?_⟩)))))
  first | refine callK_intro (isNaN_m y) rfl (by simp [go_sem]) rfl ?_ | refine callT_intro (isNaN_m y) rfl (by simp [go_sem]) rfl ?_
  try (simp [go_sem]; try (refine ⟨by kernel_rfl, ?_⟩))
  (repeat (first | refine awp_seq ?_ | refine awp_block ?_ | ((first | refine awp_runG [0, 1, 4, 5, 6, 11, 12, 13, 16, 19] hX ?_ | refine awp_drawnG [0, 1, 4, 5, 6, 11, 12, 13, 16, 19] hX mixed ?_ | refine awp_ret ?_ | refine awp_skip ?_ | refine awp_exit ?_); (simp [go_sem]; try (refine ⟨by kernel_rfl, ?_⟩)))))
  refine awp_cond (b := false) (by simp [go_sem]) (fun hb => by cases hb) (fun _ => ?_)
  (repeat (first | refine awp_seq ?_ | refine awp_block ?_ | ((first | refine awp_runG [0, 1, 4, 5, 6, 11, 12, 13, 16, 19] hX ?_ | refine awp_drawnG [0, 1, 4, 5, 6, 11, 12, 13, 16, 19] hX mixed ?_ | refine awp_ret ?_ | refine awp_skip ?_ | refine awp_exit ?_); (simp [go_sem]; try (refine ⟨by kernel_rfl, ?_⟩)))))
  refine awp_cond (b := false) (by simp [go_sem]) (fun hb => by cases hb) (fun _ => ?_)
  (repeat (first | refine awp_seq ?_ | refine awp_block ?_ | ((first | refine awp_runG [0, 1, 4, 5, 6, 11, 12, 13, 16, 19] hX ?_ | refine awp_drawnG [0, 1, 4, 5, 6, 11, 12, 13, 16, 19] hX mixed ?_ | refine awp_ret ?_ | refine awp_skip ?_ | refine awp_exit ?_); (simp [go_sem]; try (refine ⟨by kernel_rfl, ?_⟩)))))
  refine awp_cond (b := decide (x < y)) (by simp [go_sem]) (fun hb => ?_) (fun hb => ?_)
  · simp at hb
    (repeat (first | refine awp_seq ?_ | refine awp_block ?_ | ((first | refine awp_runG [0, 1, 4, 5, 6, 11, 12, 13, 16, 19] hX ?_ | refine awp_drawnG [0, 1, 4, 5, 6, 11, 12, 13, 16, 19] hX mixed ?_ | refine awp_ret ?_ | refine awp_skip ?_ | refine awp_exit ?_); (simp [go_sem]; try (refine ⟨by kernel_rfl, ?_⟩)))))
    simp [cmpI, hb]
  · simp at hb
    (repeat (first | refine awp_seq ?_ | refine awp_block ?_ | ((first | refine awp_runG [0, 1, 4, 5, 6, 11, 12, 13, 16, 19] hX ?_ | refine awp_drawnG [0, 1, 4, 5, 6, 11, 12, 13, 16, 19] hX mixed ?_ | refine awp_ret ?_ | refine awp_skip ?_ | refine awp_exit ?_); (simp [go_sem]; try (refine ⟨by kernel_rfl, ?_⟩)))))
    refine awp_cond (b := decide (y < x)) (by simp [go_sem]) (fun hc => ?_) (fun hc => ?_)
    · simp at hc
      (repeat (first | refine awp_seq ?_ | refine awp_block ?_ | ((first | refine awp_runG [0, 1, 4, 5, 6, 11, 12, 13, 16, 19] hX ?_ | refine awp_drawnG [0, 1, 4, 5, 6, 11, 12, 13, 16, 19] hX mixed ?_ | refine awp_ret ?_ | refine awp_skip ?_ | refine awp_exit ?_); (simp [go_sem]; try (refine ⟨by kernel_rfl, ?_⟩)))))
      rw [cmpI, if_neg (by omega), if_pos hc]
    · simp at hc
      (repeat (first | refine awp_seq ?_ | refine awp_block ?_ | ((first | refine awp_runG [0, 1, 4, 5, 6, 11, 12, 13, 16, 19] hX ?_ | refine awp_drawnG [0, 1, 4, 5, 6, 11, 12, 13, 16, 19] hX mixed ?_ | refine awp_ret ?_ | refine awp_skip ?_ | refine awp_exit ?_); (simp [go_sem]; try (refine ⟨by kernel_rfl, ?_⟩)))))
      rw [cmpI, if_neg (by omega), if_neg (by omega)]

abbrev rowI (L : List Int) : Cell := .row ⟨3, 1, L.map ii⟩
theorem getD_lt {L : List Int} {j : Nat} (h : j < L.length) : L.getD j 0 = L[j] := by rw [List.getD_eq_getElem?_getD, List.getElem?_eq_getElem h]; rfl
/-- What stands at a place. -/
def kf (R : List Int) (x : Int) : Int := R.getD x.toNat 0
def okR (R : List Int) : Prop := ∀ r ∈ R, 0 ≤ r ∧ r ≤ 4611686018427387904
def cmpC (R : List Int) (x y : Int) : Int := cmpI (kf R y) (kf R x)
theorem cmp_neg (R : List Int) (x y : Int) : cmpC R x y < 0 ↔ kf R y < kf R x := by unfold cmpC; exact cmpI_lt
theorem kf_at {R : List Int} {x : Int} (h : 0 ≤ x ∧ x < R.length) : ∃ k, ∃ hk : k < R.length, x = (k : Int) ∧ kf R x = R[k] := ⟨x.toNat, by omega, by omega, getD_lt (by omega)⟩
theorem clo_m (R : List Int) (hok : okR R) (x y : Int) (hx : 0 ≤ x ∧ x < R.length) (hy : 0 ≤ y ∧ y < R.length) : MeansH Tryd.prog 66 [.row ⟨25, 1, [.ow 1]⟩, rowI R] [ii x, ii y, .el 0 1 0 0] (ii (cmpC R x y)) [.row ⟨25, 1, [.ow 1]⟩, rowI R] := by
  obtain ⟨i, hi, rfl, e1⟩ := kf_at hx
  obtain ⟨j, hj, rfl, e2⟩ := kf_at hy
  have e : cmpC R i j = cmpI R[j] R[i] := by unfold cmpC; rw [e1, e2]
  rw [e]
  refine meansH_fn 2 15 [.tmp 5] Tryd.func66 rfl rfl rfl (by simp) (by decide) rfl fun X hX => ?_
  (repeat (first | refine awp_seq ?_ | refine awp_block ?_ | ((first | refine awp_runG [0, 1, 2, 5, 1000000, 1000001] hX ?_ | refine awp_drawnG [0, 1, 2, 5, 1000000, 1000001] hX mixed ?_ | refine awp_skip ?_ | refine awp_exit ?_); (simp [go_sem, hi, hj]; try (refine ⟨by kernel_rfl, ?_⟩)))))
  first | refine callK_intro (cmp_m R[j] R[i]) rfl (by simp [go_sem]) rfl ?_ | refine callT_intro (cmp_m R[j] R[i]) rfl (by simp [go_sem]) rfl ?_
  try (simp [go_sem]; try (refine ⟨by kernel_rfl, ?_⟩))
  (repeat (first | refine awp_seq ?_ | refine awp_block ?_ | ((first | refine awp_runG [0, 1, 2, 5, 1000000, 1000001] hX ?_ | refine awp_drawnG [0, 1, 2, 5, 1000000, 1000001] hX mixed ?_ | refine awp_skip ?_ | refine awp_exit ?_); (simp [go_sem]; try (refine ⟨by kernel_rfl, ?_⟩)))))
  refine awp_ret ?_; (try simp only [thenQ, blkQ, loopQ]); refine retH_ret [(5, ii (cmpI R[j] R[i])), (1000000, .ow 0), (1000001, .ow 1)] [.old 0 ⟨25, 1, [.ow 1]⟩, .old 1 ⟨3, 1, R.map ii⟩] ?_
  simp [go_sem]

end Go.Proofs.YtjgkjenbgadacaaDoor
