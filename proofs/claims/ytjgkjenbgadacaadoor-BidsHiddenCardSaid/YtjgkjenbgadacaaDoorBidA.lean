/-
  Layer 24: a bid, a list of bids; what the library looks for.
-/
import Derived.Test.YtjgkjenbgadacaaDoorBidC
import Derived.Test.YtjgkjenbgadacaaDoorBidS
set_option linter.all false
namespace Go.Proofs.YtjgkjenbgadacaaDoor
open Go.RowKit Go.Ab
attribute [local irreducible] AWP Go.Ab.Sub Means MeansH CallK CallG CallT CallGT CallU

theorem key_m (n : Int) : Means true Tryd.prog 52 [ii n] (bb (keyB n)) := by
  refine means_fn true 9 [.tmp 2] Tryd.func52 rfl rfl rfl (by simp) (by decide) rfl fun X hX => ?_
  (repeat (first | refine awp_seq ?_ | refine awp_block ?_ | ((first | refine awp_runG [0, 2] hX ?_ | refine awp_drawnG [0, 2] hX mixed ?_ | refine awp_ret ?_ | refine awp_skip ?_ | refine awp_exit ?_); (simp [go_sem]; try (refine ⟨by kernel_rfl, ?_⟩)))))
  simp [keyB]
theorem coins_m (n : Int) : Means true Tryd.prog 35 [ii n] (bb (coinB n)) := by
  refine means_fn true 9 [.tmp 2] Tryd.func35 rfl rfl rfl (by simp) (by decide) rfl fun X hX => ?_
  (repeat (first | refine awp_seq ?_ | refine awp_block ?_ | ((first | refine awp_runG [0, 2] hX ?_ | refine awp_drawnG [0, 2] hX mixed ?_ | refine awp_ret ?_ | refine awp_skip ?_ | refine awp_exit ?_); (simp [go_sem]; try (refine ⟨by kernel_rfl, ?_⟩)))))
  simp [coinB]

set_option maxHeartbeats 4000000 in
theorem right_m (b : Bd) : Means true Tryd.prog 31 [ob b] (bb (okB b)) := by
  have c1 := key_m b.w
  have c2 := coins_m b.n
  obtain ⟨m, w, n, o⟩ := b
  simp only [okB]
  refine means_fn true 35 [.tmp 2] Tryd.func31 rfl rfl rfl (by simp) (by decide) rfl fun X hX => ?_
  (repeat (first | refine awp_seq ?_ | refine awp_block ?_ | ((first | refine awp_runG [0, 1, 2] hX ?_ | refine awp_drawnG [0, 1, 2] hX mixed ?_ | refine awp_ret ?_ | refine awp_skip ?_ | refine awp_exit ?_); (simp [go_sem]; try (refine ⟨by kernel_rfl, ?_⟩)))))
  first | refine callG_intro (fun hg => c1) rfl (by simp [go_sem]) rfl ?_ | refine callGT_intro (fun hg => c1) rfl (by simp [go_sem]) rfl ?_
  try (simp [go_sem]; try (refine ⟨by kernel_rfl, ?_⟩))
  first | refine callG_intro (fun hg => c2) rfl (by simp [go_sem]) rfl ?_ | refine callGT_intro (fun hg => c2) rfl (by simp [go_sem]) rfl ?_
  try (simp [go_sem]; try (refine ⟨by kernel_rfl, ?_⟩))
  refine ⟨by intros; cases o <;> simp_all, by intros; cases o <;> simp_all, by intros; cases o <;> simp_all, ?_⟩
  (repeat (first | refine awp_seq ?_ | refine awp_block ?_ | ((first | refine awp_runG [0, 1, 2] hX ?_ | refine awp_drawnG [0, 1, 2] hX mixed ?_ | refine awp_ret ?_ | refine awp_skip ?_ | refine awp_exit ?_); (simp [go_sem]; try (refine ⟨by kernel_rfl, ?_⟩)))))
  cases o <;> simp

/-- A closure over one row that answers of bids. -/
theorem indexF_m (f : FuncId) (E k : Nat) (c : AV) (p : Bd → Bool) (L : List Bd) (hl : L.length ≤ 9223372036854775807) (hz : c.flat.all AV.zone = true)
    (hf : ∀ b ∈ L, MeansH Tryd.prog f [.row ⟨E, k, [c]⟩] [ob b, .el 0 k 0 0] (bb (p b)) [.row ⟨E, k, [c]⟩]) (hcall : callable Tryd.prog f = true) :
    MeansH Tryd.prog 36 [.row ⟨E, k, [c]⟩] [bl L, .fn f [] [.el 0 k 0 0]] (ii (if L.findIdx p < L.length then (L.findIdx p : Int) else -1)) [.row ⟨E, k, [c]⟩] := by
  have hz2 : ∀ x ∈ c.flat, x.zone = true := by simpa using hz
  refine meansH_fn 1 19 [.tmp 4] Tryd.func36 rfl rfl rfl (by simp) (by decide) rfl fun X hX => ?_
  (repeat (first | refine awp_seq ?_ | refine awp_block ?_ | ((first | refine awp_runG [0, 1, 4, 5, 7, 8, 9, 16, 1000000] hX ?_ | refine awp_drawnG [0, 1, 4, 5, 7, 8, 9, 16, 1000000] hX mixed ?_ | refine awp_skip ?_ | refine awp_exit ?_); (simp [go_sem]; try (refine ⟨by kernel_rfl, ?_⟩)))))
  refine awp_loop (fun n : Nat => ⟨mkE [(0, bl L), (1, .fn f [] [.el 0 k 0 0]), (7, ii L.length), (8, ii n), (1000000, .ow 0)], [.row ⟨E, k, [c]⟩]⟩) (fun n => n ≤ L.findIdx p ∧ n ≤ L.length) (fun n => L.length - n) 0 ?_ ?_ ?_
  · refine sub_of _ [.old 0 ⟨E, k, [c]⟩] (by simp [go_sem, hz, hz2]) ?_
    simp [go_sem, hz, hz2]
  · omega
  · rintro n ⟨hn, hn2⟩
    (repeat (first | refine awp_seq ?_ | refine awp_block ?_ | ((first | refine awp_runG [0, 1, 4, 5, 7, 8, 9, 16, 1000000] hX ?_ | refine awp_drawnG [0, 1, 4, 5, 7, 8, 9, 16, 1000000] hX mixed ?_ | refine awp_skip ?_ | refine awp_exit ?_); (simp [go_sem]; try (refine ⟨by kernel_rfl, ?_⟩)))))
    refine awp_cond (b := decide (n < L.length)) (by simp [go_sem]) (fun hc => ?_) (fun hc => ?_)
    · simp at hc
      have hq := nth_ob hc
      (repeat (first | refine awp_seq ?_ | refine awp_block ?_ | ((first | refine awp_runG [0, 1, 4, 5, 7, 8, 9, 16, 1000000] hX ?_ | refine awp_drawnG [0, 1, 4, 5, 7, 8, 9, 16, 1000000] hX mixed ?_ | refine awp_skip ?_ | refine awp_exit ?_); (simp [go_sem, hc, hq, hcall]; try (refine ⟨by kernel_rfl, ?_⟩)))))
      refine callH_intro [0] (hf L[n] (List.getElem_mem hc)) (by simp [go_sem, hz, hz2]) ?_
      try (simp [go_sem, hz]; try (refine ⟨by kernel_rfl, ?_⟩))
      refine awp_cond (b := p L[n]) (by simp [go_sem]) (fun hd => ?_) (fun hd => ?_)
      · have e : L.findIdx p = n := by
          have h1 : ¬ n < L.findIdx p := fun h => by have := List.not_of_lt_findIdx h; rw [hd] at this; simp at this
          omega
        (repeat (first | refine awp_seq ?_ | refine awp_block ?_ | ((first | refine awp_runG [0, 1, 4, 5, 7, 8, 9, 16, 1000000] hX ?_ | refine awp_drawnG [0, 1, 4, 5, 7, 8, 9, 16, 1000000] hX mixed ?_ | refine awp_skip ?_ | refine awp_exit ?_); (simp [go_sem]; try (refine ⟨by kernel_rfl, ?_⟩)))))
        refine awp_ret ?_; (try simp only [thenQ, blkQ, loopQ]); refine retH_ret [(4, ii n), (1000000, .ow 0)] [.old 0 ⟨E, k, [c]⟩] ?_
        simp [go_sem, e, hc, hz, hz2]
        exact ⟨L[n], List.getElem_mem hc, hd⟩
      · have e : n + 1 ≤ L.findIdx p := by
          by_cases h : L.findIdx p = n
          · have h2 : L.findIdx p < L.length := by omega
            have := List.findIdx_getElem (p := p) (w := h2)
            simp only [h] at this
            rw [hd] at this; cases this
          · omega
        have wk := w64 (x := (n : Int) + 1) (by omega) (by omega)
        (repeat (first | refine awp_seq ?_ | refine awp_block ?_ | ((first | refine awp_runG [0, 1, 4, 5, 7, 8, 9, 16, 1000000] hX ?_ | refine awp_drawnG [0, 1, 4, 5, 7, 8, 9, 16, 1000000] hX mixed ?_ | refine awp_skip ?_ | refine awp_exit ?_); (simp [go_sem, wk]; try (refine ⟨by kernel_rfl, ?_⟩)))))
        refine ⟨n + 1, ⟨e, by omega⟩, by omega, ?_⟩
        refine sub_of _ [.old 0 ⟨E, k, [c]⟩] (by simp [go_sem, hz, hz2]) ?_
        simp [go_sem, hz, hz2]
    · simp at hc
      have e : ¬ L.findIdx p < L.length := by omega
      (repeat (first | refine awp_seq ?_ | refine awp_block ?_ | ((first | refine awp_runG [0, 1, 4, 5, 7, 8, 9, 16, 1000000] hX ?_ | refine awp_drawnG [0, 1, 4, 5, 7, 8, 9, 16, 1000000] hX mixed ?_ | refine awp_skip ?_ | refine awp_exit ?_); (simp [go_sem]; try (refine ⟨by kernel_rfl, ?_⟩)))))
      refine awp_ret ?_; (try simp only [thenQ, blkQ, loopQ]); refine retH_ret [(4, ii (-1)), (1000000, .ow 0)] [.old 0 ⟨E, k, [c]⟩] ?_
      simp [go_sem, e, hz, hz2]
      simpa using e

end Go.Proofs.YtjgkjenbgadacaaDoor
