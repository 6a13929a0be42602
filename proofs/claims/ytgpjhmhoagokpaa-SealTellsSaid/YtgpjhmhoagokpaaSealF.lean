/-
  The walks of layer 6: the reference's ring, on.
-/
import Derived.Test.YtgpjhmhoagokpaaSealP
import Derived.Test.YtgpjhmhoagokpaaAbsDual
set_option linter.all false
namespace Go.Proofs.Ytgpjhmhoagokpaa
open Go.RowKit Go.Ab
attribute [local irreducible] AWP Go.Ab.Sub Means MeansH CallK CallG CallT CallGT

/-- Whether a signature holds, by the reference. -/
def rholds (L : List E) (g : G) : Bool := decide (0 ≤ g.mark) && decide (L[g.mark.toNat]? = some ⟨g.key, g.text⟩)

theorem nth_out (L : List E) {i : Nat} (h : L.length ≤ i) : nth (L.map eo) i = .bad := by
  unfold nth; rw [List.getD_eq_getElem?_getD, List.getElem?_eq_none (by simpa using h)]; rfl

set_option maxHeartbeats 1000000 in
set_option maxRecDepth 20000 in
theorem rvalid_m (L : List E) (g : G) : MeansH Try.prog 16 (refH L) [.el 0 1 0 0, go g] (bb (rholds L g)) (refH L) := by
  obtain ⟨k, t, m⟩ := g
  refine meansH_fn 2 46 [.tmp 4] Try.func16 rfl rfl rfl (by simp) (by decide) rfl fun X hX => ?_
  by_cases h0 : 0 ≤ m
  · obtain ⟨n, rfl⟩ : ∃ n : Nat, m = n := ⟨m.toNat, by omega⟩
    by_cases h1 : n < L.length
    · (repeat (first | refine awp_seq ?_ | refine awp_block ?_ | (refine awp_runG [0, 1, 3, 4, 1000000, 1000001] hX ?_; (simp [go_sem, h1]; try (refine ⟨by kernel_rfl, ?_⟩))) | (refine awp_drawnG [0, 1, 3, 4, 1000000, 1000001] hX mixed ?_; (simp [go_sem, h1]; try (refine ⟨by kernel_rfl, ?_⟩))) | (refine awp_skip ?_; (simp [go_sem, h1]; try (refine ⟨by kernel_rfl, ?_⟩))) | (refine awp_exit ?_; (simp [go_sem, h1]; try (refine ⟨by kernel_rfl, ?_⟩)))))
      refine awp_ret ?_; (try simp only [thenQ, blkQ, loopQ]); refine retH_ret [(4, bb (rholds L ⟨k, t, n⟩)), (1000000, .ow 0), (1000001, .ow 1)] [.old 0 ⟨53, 1, [.agg [.ow 1]]⟩, .old 1 ⟨32, 2, (L).map eo⟩] ?_
      simp [go_sem, rholds, h1, E.eq_iff]
    · have h1' : L.length ≤ n := by omega
      (repeat (first | refine awp_seq ?_ | refine awp_block ?_ | (refine awp_runG [0, 1, 3, 4, 1000000, 1000001] hX ?_; (simp [go_sem, h1, nth_out L h1']; try (refine ⟨by kernel_rfl, ?_⟩))) | (refine awp_drawnG [0, 1, 3, 4, 1000000, 1000001] hX mixed ?_; (simp [go_sem, h1, nth_out L h1']; try (refine ⟨by kernel_rfl, ?_⟩))) | (refine awp_skip ?_; (simp [go_sem, h1, nth_out L h1']; try (refine ⟨by kernel_rfl, ?_⟩))) | (refine awp_exit ?_; (simp [go_sem, h1, nth_out L h1']; try (refine ⟨by kernel_rfl, ?_⟩)))))
      refine awp_ret ?_; (try simp only [thenQ, blkQ, loopQ]); refine retH_ret [(4, bb (rholds L ⟨k, t, n⟩)), (1000000, .ow 0), (1000001, .ow 1)] [.old 0 ⟨53, 1, [.agg [.ow 1]]⟩, .old 1 ⟨32, 2, (L).map eo⟩] ?_
      simp [go_sem, rholds, h1]
  · have h0' : m < 0 := by omega
    have h2 : m.toNat = 0 := by omega
    cases L with
    | nil =>
      (repeat (first | refine awp_seq ?_ | refine awp_block ?_ | (refine awp_runG [0, 1, 3, 4, 1000000, 1000001] hX ?_; (simp [go_sem, h0, h0', h2, show nth [] 0 = .bad from rfl]; try (refine ⟨by kernel_rfl, ?_⟩))) | (refine awp_drawnG [0, 1, 3, 4, 1000000, 1000001] hX mixed ?_; (simp [go_sem, h0, h0', h2, show nth [] 0 = .bad from rfl]; try (refine ⟨by kernel_rfl, ?_⟩))) | (refine awp_skip ?_; (simp [go_sem, h0, h0', h2, show nth [] 0 = .bad from rfl]; try (refine ⟨by kernel_rfl, ?_⟩))) | (refine awp_exit ?_; (simp [go_sem, h0, h0', h2, show nth [] 0 = .bad from rfl]; try (refine ⟨by kernel_rfl, ?_⟩)))))
      refine awp_ret ?_; (try simp only [thenQ, blkQ, loopQ]); refine retH_ret [(4, bb (rholds [] ⟨k, t, m⟩)), (1000000, .ow 0), (1000001, .ow 1)] [.old 0 ⟨53, 1, [.agg [.ow 1]]⟩, .old 1 ⟨32, 2, ([]).map eo⟩] ?_
      simp [go_sem, rholds, h0]
    | cons e L =>
      (repeat (first | refine awp_seq ?_ | refine awp_block ?_ | (refine awp_runG [0, 1, 3, 4, 1000000, 1000001] hX ?_; (simp [go_sem, h0, h0', h2]; try (refine ⟨by kernel_rfl, ?_⟩))) | (refine awp_drawnG [0, 1, 3, 4, 1000000, 1000001] hX mixed ?_; (simp [go_sem, h0, h0', h2]; try (refine ⟨by kernel_rfl, ?_⟩))) | (refine awp_skip ?_; (simp [go_sem, h0, h0', h2]; try (refine ⟨by kernel_rfl, ?_⟩))) | (refine awp_exit ?_; (simp [go_sem, h0, h0', h2]; try (refine ⟨by kernel_rfl, ?_⟩)))))
      refine awp_ret ?_; (try simp only [thenQ, blkQ, loopQ]); refine retH_ret [(4, bb (rholds (e :: L) ⟨k, t, m⟩)), (1000000, .ow 0), (1000001, .ow 1)] [.old 0 ⟨53, 1, [.agg [.ow 1]]⟩, .old 1 ⟨32, 2, (e :: L).map eo⟩] ?_
      simp [go_sem, rholds, h0]

theorem posI_in {L : List E} {e : E} (h : e ∈ L) : posI L e = (L.findIdx (· = e) : Nat) := if_pos h
theorem posI_out {L : List E} {e : E} (h : e ∉ L) : posI L e = -1 := if_neg h

set_option maxHeartbeats 1000000 in
theorem rsign_m (L : List E) (hl : L.length ≤ 1000) (k : Int) (t : ByteArray) : MeansH Try.prog 15 (refH L) [.el 0 1 0 0, ii k, ss t] (go (sigOf L k t)) (refN (sigL L k t)) := by
  refine meansH_fn 2 42 [.cell 6 24] Try.func15 rfl rfl rfl (by simp) (by decide) rfl fun X hX => ?_
  (repeat (first | refine awp_seq ?_ | refine awp_block ?_ | (refine awp_runG [0, 1, 2, 6, 7, 13, 20, 1000000, 1000001] hX ?_; (simp [go_sem]; try (refine ⟨by kernel_rfl, ?_⟩))) | (refine awp_drawnG [0, 1, 2, 6, 7, 13, 20, 1000000, 1000001] hX mixed ?_; (simp [go_sem]; try (refine ⟨by kernel_rfl, ?_⟩))) | (refine awp_skip ?_; (simp [go_sem]; try (refine ⟨by kernel_rfl, ?_⟩))) | (refine awp_exit ?_; (simp [go_sem]; try (refine ⟨by kernel_rfl, ?_⟩)))))
  refine awp_cond (b := !isKey k) (by simp [go_sem, isKey]; rw [Bool.eq_iff_iff]; simp) (fun hb => ?_) (fun hb => ?_)
  · simp at hb
    (repeat (first | refine awp_seq ?_ | refine awp_block ?_ | (refine awp_runG [0, 1, 2, 6, 7, 13, 20, 1000000, 1000001] hX ?_; (simp [go_sem]; try (refine ⟨by kernel_rfl, ?_⟩))) | (refine awp_drawnG [0, 1, 2, 6, 7, 13, 20, 1000000, 1000001] hX mixed ?_; (simp [go_sem]; try (refine ⟨by kernel_rfl, ?_⟩))) | (refine awp_skip ?_; (simp [go_sem]; try (refine ⟨by kernel_rfl, ?_⟩))) | (refine awp_exit ?_; (simp [go_sem]; try (refine ⟨by kernel_rfl, ?_⟩)))))
    refine awp_ret ?_; (try simp only [thenQ, blkQ, loopQ]); refine retH_ret [(1000000, .ow 0), (1000001, .ow 1)] [.old 0 ⟨53, 1, [.agg [.ow 2]]⟩, .gone 1, .old 1 ⟨32, 2, L.map eo⟩] ?_
    simp [go_sem, sigOf, sigL, hb]
  · simp at hb
    (repeat (first | refine awp_seq ?_ | refine awp_block ?_ | (refine awp_runG [0, 1, 2, 6, 7, 13, 20, 1000000, 1000001] hX ?_; (simp [go_sem]; try (refine ⟨by kernel_rfl, ?_⟩))) | (refine awp_drawnG [0, 1, 2, 6, 7, 13, 20, 1000000, 1000001] hX mixed ?_; (simp [go_sem]; try (refine ⟨by kernel_rfl, ?_⟩))) | (refine awp_skip ?_; (simp [go_sem]; try (refine ⟨by kernel_rfl, ?_⟩))) | (refine awp_exit ?_; (simp [go_sem]; try (refine ⟨by kernel_rfl, ?_⟩)))))
    first | refine callH_intro [0, 1] (find_m L (by omega) k t) (by simp [go_sem]) ?_ | refine callTQ_intro [0, 1] (find_m L (by omega) k t) (by simp [go_sem]) ?_ | refine callTE_intro [0, 1] (find_m L (by omega) k t) (by simp [go_sem]) ?_
    try (simp [go_sem]; try (refine ⟨by kernel_rfl, ?_⟩))
    (repeat (first | refine awp_seq ?_ | refine awp_block ?_ | (refine awp_runG [0, 1, 2, 6, 7, 13, 20, 1000000, 1000001] hX ?_; (simp [go_sem]; try (refine ⟨by kernel_rfl, ?_⟩))) | (refine awp_drawnG [0, 1, 2, 6, 7, 13, 20, 1000000, 1000001] hX mixed ?_; (simp [go_sem]; try (refine ⟨by kernel_rfl, ?_⟩))) | (refine awp_skip ?_; (simp [go_sem]; try (refine ⟨by kernel_rfl, ?_⟩))) | (refine awp_exit ?_; (simp [go_sem]; try (refine ⟨by kernel_rfl, ?_⟩)))))
    refine awp_cond (b := !decide (⟨k, t⟩ ∈ L)) (by simp [go_sem]; by_cases h : (⟨k, t⟩ : E) ∈ L <;> simp [h, posI]; try omega) (fun hc => ?_) (fun hc => ?_)
    · simp at hc
      (repeat (first | refine awp_seq ?_ | refine awp_block ?_ | (refine awp_runG [0, 1, 2, 6, 7, 13, 20, 1000000, 1000001] hX ?_; (simp [go_sem]; try (refine ⟨by kernel_rfl, ?_⟩))) | (refine awp_drawnG [0, 1, 2, 6, 7, 13, 20, 1000000, 1000001] hX mixed ?_; (simp [go_sem]; try (refine ⟨by kernel_rfl, ?_⟩))) | (refine awp_skip ?_; (simp [go_sem]; try (refine ⟨by kernel_rfl, ?_⟩))) | (refine awp_exit ?_; (simp [go_sem]; try (refine ⟨by kernel_rfl, ?_⟩)))))
      (repeat refine And.intro (by first | omega | (unfold maxLen; omega) | kernel_rfl | (refine ⟨by first | omega | (unfold maxLen; omega), by first | omega | (unfold maxLen; omega)⟩) | grind) ?_)
      (repeat (first | refine awp_seq ?_ | refine awp_block ?_ | (refine awp_runG [0, 1, 2, 6, 7, 13, 20, 1000000, 1000001] hX ?_; (simp [go_sem]; try (refine ⟨by kernel_rfl, ?_⟩))) | (refine awp_drawnG [0, 1, 2, 6, 7, 13, 20, 1000000, 1000001] hX mixed ?_; (simp [go_sem]; try (refine ⟨by kernel_rfl, ?_⟩))) | (refine awp_skip ?_; (simp [go_sem]; try (refine ⟨by kernel_rfl, ?_⟩))) | (refine awp_exit ?_; (simp [go_sem]; try (refine ⟨by kernel_rfl, ?_⟩)))))
      refine awp_ret ?_; (try simp only [thenQ, blkQ, loopQ]); refine retH_ret [(1000000, .ow 0), (1000001, .ow 1)] [.old 0 ⟨53, 1, [.agg [.ow 2]]⟩, .gone 1, .old 4 ⟨32, 2, L.map eo ++ [eo ⟨k, t⟩]⟩] ?_
      simp [go_sem, sigOf, sigL, hb, hc]
    · simp at hc
      (repeat (first | refine awp_seq ?_ | refine awp_block ?_ | (refine awp_runG [0, 1, 2, 6, 7, 13, 20, 1000000, 1000001] hX ?_; (simp [go_sem]; try (refine ⟨by kernel_rfl, ?_⟩))) | (refine awp_drawnG [0, 1, 2, 6, 7, 13, 20, 1000000, 1000001] hX mixed ?_; (simp [go_sem]; try (refine ⟨by kernel_rfl, ?_⟩))) | (refine awp_skip ?_; (simp [go_sem]; try (refine ⟨by kernel_rfl, ?_⟩))) | (refine awp_exit ?_; (simp [go_sem]; try (refine ⟨by kernel_rfl, ?_⟩)))))
      refine awp_ret ?_; (try simp only [thenQ, blkQ, loopQ]); refine retH_ret [(1000000, .ow 0), (1000001, .ow 1)] [.old 0 ⟨53, 1, [.agg [.ow 2]]⟩, .gone 1, .old 1 ⟨32, 2, L.map eo⟩] ?_
      simp [go_sem, sigOf, sigL, hb, hc, posI]

theorem rall_m (L : List E) (hl : L.length ≤ 1000) : MeansH Try.prog 19 (refH L) [.el 0 1 0 0] (.sl (L.map eo)) (refH L) := by
  refine meansH_fn 2 9 [.tmp 2] Try.func19 rfl rfl rfl (by simp) (by decide) rfl fun X hX => ?_
  (repeat (first | refine awp_seq ?_ | refine awp_block ?_ | (refine awp_runG [0, 2, 1000000, 1000001] hX ?_; (simp [go_sem]; try (refine ⟨by kernel_rfl, ?_⟩))) | (refine awp_drawnG [0, 2, 1000000, 1000001] hX mixed ?_; (simp [go_sem]; try (refine ⟨by kernel_rfl, ?_⟩))) | (refine awp_skip ?_; (simp [go_sem]; try (refine ⟨by kernel_rfl, ?_⟩))) | (refine awp_exit ?_; (simp [go_sem]; try (refine ⟨by kernel_rfl, ?_⟩)))))
  (repeat refine And.intro (by first | omega | (unfold maxLen; omega) | kernel_rfl | (refine ⟨by first | omega | (unfold maxLen; omega), by first | omega | (unfold maxLen; omega)⟩) | grind) ?_)
  (repeat (first | refine awp_seq ?_ | refine awp_block ?_ | (refine awp_runG [0, 2, 1000000, 1000001] hX ?_; (simp [go_sem]; try (refine ⟨by kernel_rfl, ?_⟩))) | (refine awp_drawnG [0, 2, 1000000, 1000001] hX mixed ?_; (simp [go_sem]; try (refine ⟨by kernel_rfl, ?_⟩))) | (refine awp_skip ?_; (simp [go_sem]; try (refine ⟨by kernel_rfl, ?_⟩))) | (refine awp_exit ?_; (simp [go_sem]; try (refine ⟨by kernel_rfl, ?_⟩)))))
  refine awp_ret ?_; (try simp only [thenQ, blkQ, loopQ]); refine retH_ret [(2, .sl (L.map eo)), (1000000, .ow 0), (1000001, .ow 1)] [.old 0 ⟨53, 1, [.agg [.ow 1]]⟩, .old 1 ⟨32, 2, L.map eo⟩] ?_
  simp [go_sem]

end Go.Proofs.Ytgpjhmhoagokpaa
