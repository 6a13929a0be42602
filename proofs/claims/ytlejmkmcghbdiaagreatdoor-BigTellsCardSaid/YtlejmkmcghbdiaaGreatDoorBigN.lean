/-
  Layer 4: texts: lengths, what is refused.
-/
import Derived.Test.YtlejmkmcghbdiaaGreatDoorBigZ
import Derived.Test.YtlejmkmcghbdiaaGreatDoorBigM
set_option linter.all false
namespace Go.Proofs.YtlejmkmcghbdiaaGreatDoor
open Go.RowKit Go.Ab
attribute [local irreducible] AWP Go.Ab.Sub Means MeansH CallK CallG CallT CallGT

theorem Read_bad {s : List UInt8} (hs : s.length ≤ 100000) (h1 : s ≠ [48]) (h2 : ¬ good (Lib.trimPrefix s [45])) : Means false Tryz.prog 17 [sb s] (.tup [bigZ 0, ii 2]) := by
  have := Read_m s hs
  unfold rd at this
  rwa [if_neg h1, if_neg h2] at this
theorem dd_len : ∀ (k n : Nat), 0 < k → n < 10 ^ k → (dd n).length ≤ k
  | 0, n, h0, h => by omega
  | k + 1, n, h0, h => by
    by_cases h1 : n < 10
    · rw [dd_small h1]; simp
    · have hk : 0 < k := by
        refine Nat.pos_of_ne_zero fun e => ?_
        subst e
        simp at h; omega
      rw [dd_cut (by omega)]
      have := dd_len k (n / 10) hk (by rw [Nat.pow_succ] at h; omega)
      simp; omega
theorem pow_big2 : (1048576 : Nat) ^ 60 < (10 ^ 200) ^ 2 := by decide
theorem dd_len2 (k n : Nat) (h0 : 0 < k) (h : n < (10 ^ k) ^ 2) : (dd n).length ≤ k * 2 := dd_len (k * 2) n (by omega) (by rw [Nat.pow_mul]; exact h)
theorem txt_len {z : Int} (h : rz z) : (txt z).length ≤ 401 := by
  have h2 : z.natAbs < (10 ^ 200) ^ 2 := by
    refine Nat.lt_trans ?_ pow_big2
    unfold rz at h
    rw [ab_nat] at h
    have e : ((1048576 : Int) ^ 60) = ((1048576 ^ 60 : Nat) : Int) := (Int.natCast_pow 1048576 60).symm
    rw [e] at h
    exact Int.ofNat_lt.1 h
  have := dd_len2 200 z.natAbs (by decide) h2
  clear h2
  unfold txt
  split
  · simp
  · split
    · rw [List.length_cons]; omega
    · omega
theorem Text_bad (s : Int) (L : List Int) (hl : L.length ≤ 9223372036854775807) (h : ¬ isR s L) : Means false Tryz.prog 26 [big2 s L] (sb []) := by
  have hr := right_m s L hl
  rw [decide_eq_false h] at hr
  refine means_fn false 51 [.tmp 2] Tryz.func26 rfl rfl rfl (by simp) (by decide) rfl fun X hX => ?_
  (repeat (first | refine awp_seq ?_ | refine awp_block ?_ | ((first | refine awp_runG [0, 1, 2, 3, 4, 5, 6, 7, 8, 11, 16, 26, 43, 44, 46] hX ?_ | refine awp_drawnG [0, 1, 2, 3, 4, 5, 6, 7, 8, 11, 16, 26, 43, 44, 46] hX mixed ?_ | refine awp_ret ?_ | refine awp_skip ?_ | refine awp_exit ?_); (simp [go_sem]; try (refine ⟨by kernel_rfl, ?_⟩)))))
  first | refine callK_intro (hr) rfl (by simp [go_sem]) rfl ?_ | refine callT_intro (hr) rfl (by simp [go_sem]) rfl ?_
  try (simp [go_sem]; try (refine ⟨by kernel_rfl, ?_⟩))
  refine awp_cond (b := true) (by simp [go_sem]) (fun _ => ?_) (fun h => by cases h)
  (repeat (first | refine awp_seq ?_ | refine awp_block ?_ | ((first | refine awp_runG [0, 1, 2, 3, 4, 5, 6, 7, 8, 11, 16, 26, 43, 44, 46] hX ?_ | refine awp_drawnG [0, 1, 2, 3, 4, 5, 6, 7, 8, 11, 16, 26, 43, 44, 46] hX mixed ?_ | refine awp_ret ?_ | refine awp_skip ?_ | refine awp_exit ?_); (simp [go_sem]; try (refine ⟨by kernel_rfl, ?_⟩)))))

end Go.Proofs.YtlejmkmcghbdiaaGreatDoor
