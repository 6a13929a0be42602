/-
  The walks of layer 6: lists, the reference's ring.
-/
import Derived.Test.YtgpjhmhoagokpaaSealA
set_option linter.all false
namespace Go.Proofs.Ytgpjhmhoagokpaa
open Go.RowKit Go.Ab
attribute [local irreducible] AWP Go.Ab.Sub Means MeansH CallK CallG CallT CallGT

def shortE (e : E) : Bool := !decide (500 < (e.text.size : Int))
def allS (L : List E) : Bool := L.all shortE
def few (L : List E) (n : Int) : Bool := decide ((L.length : Int) ≤ n) && allS L
theorem allS_succ {L : List E} {k : Nat} (h : k < L.length) (h1 : allS (L.take k) = true) (h2 : shortE L[k] = true) : allS (L.take (k + 1)) = true := by
  unfold allS at *
  rw [List.take_succ_eq_append_getElem h, List.all_append, h1]; simp [h2]
theorem allS_false {L : List E} {k : Nat} (h : k < L.length) (h2 : shortE L[k] = false) : allS L = false := List.all_eq_false.2 ⟨L[k], List.getElem_mem h, by simp [h2]⟩
theorem allS_nil : allS [] = true := rfl

theorem few_m (L : List E) (hl : L.length ≤ 9223372036854775807) (n : Int) (hn : 0 ≤ n ∧ n ≤ 1000) : Means true Try.prog 9 [.sl (L.map eo), ii n] (bb (few L n)) := by
  refine means_fn true 28 [.tmp 4] Try.func9 rfl rfl rfl (by simp) (by decide) rfl fun X hX => ?_
  (repeat (first | refine awp_seq ?_ | refine awp_block ?_ | (refine awp_runG [0, 1, 4, 5, 14, 23] hX ?_; (simp [go_sem]; try (refine ⟨by kernel_rfl, ?_⟩))) | (refine awp_drawnG [0, 1, 4, 5, 14, 23] hX mixed ?_; (simp [go_sem]; try (refine ⟨by kernel_rfl, ?_⟩))) | (refine awp_ret ?_; (simp [go_sem]; try (refine ⟨by kernel_rfl, ?_⟩))) | (refine awp_skip ?_; (simp [go_sem]; try (refine ⟨by kernel_rfl, ?_⟩))) | (refine awp_exit ?_; (simp [go_sem]; try (refine ⟨by kernel_rfl, ?_⟩)))))
  refine awp_loop (fun k : Nat => ⟨mkE [(0, .sl (L.map eo)), (1, ii n), (4, bb false), (5, ii k)], []⟩) (fun k => k ≤ L.length ∧ allS (L.take k) = true) (fun k => L.length - k) 0 ?_ ?_ ?_
  · refine sub_of _ [] (by simp [go_sem]) ?_
    simp [go_sem]
  · simp [allS_nil]
  · rintro k ⟨hk, ha⟩
    (repeat (first | refine awp_seq ?_ | refine awp_block ?_ | (refine awp_runG [0, 1, 4, 5, 14, 23] hX ?_; (simp [go_sem]; try (refine ⟨by kernel_rfl, ?_⟩))) | (refine awp_drawnG [0, 1, 4, 5, 14, 23] hX mixed ?_; (simp [go_sem]; try (refine ⟨by kernel_rfl, ?_⟩))) | (refine awp_ret ?_; (simp [go_sem]; try (refine ⟨by kernel_rfl, ?_⟩))) | (refine awp_skip ?_; (simp [go_sem]; try (refine ⟨by kernel_rfl, ?_⟩))) | (refine awp_exit ?_; (simp [go_sem]; try (refine ⟨by kernel_rfl, ?_⟩)))))
    refine awp_cond (b := decide (k < L.length) && decide ((k : Int) ≤ n)) (by simp [go_sem]) (fun hb => ?_) (fun hb => ?_)
    · simp at hb
      (repeat (first | refine awp_seq ?_ | refine awp_block ?_ | (refine awp_runG [0, 1, 4, 5, 14, 23] hX ?_; (simp [go_sem, hb.1]; try (refine ⟨by kernel_rfl, ?_⟩))) | (refine awp_drawnG [0, 1, 4, 5, 14, 23] hX mixed ?_; (simp [go_sem, hb.1]; try (refine ⟨by kernel_rfl, ?_⟩))) | (refine awp_ret ?_; (simp [go_sem, hb.1]; try (refine ⟨by kernel_rfl, ?_⟩))) | (refine awp_skip ?_; (simp [go_sem, hb.1]; try (refine ⟨by kernel_rfl, ?_⟩))) | (refine awp_exit ?_; (simp [go_sem, hb.1]; try (refine ⟨by kernel_rfl, ?_⟩)))))
      refine awp_cond (b := !shortE L[k]) (by simp [go_sem, shortE]) (fun hc => ?_) (fun hc => ?_)
      · simp at hc
        (repeat (first | refine awp_seq ?_ | refine awp_block ?_ | (refine awp_runG [0, 1, 4, 5, 14, 23] hX ?_; (simp [go_sem]; try (refine ⟨by kernel_rfl, ?_⟩))) | (refine awp_drawnG [0, 1, 4, 5, 14, 23] hX mixed ?_; (simp [go_sem]; try (refine ⟨by kernel_rfl, ?_⟩))) | (refine awp_ret ?_; (simp [go_sem]; try (refine ⟨by kernel_rfl, ?_⟩))) | (refine awp_skip ?_; (simp [go_sem]; try (refine ⟨by kernel_rfl, ?_⟩))) | (refine awp_exit ?_; (simp [go_sem]; try (refine ⟨by kernel_rfl, ?_⟩)))))
        simp [few, allS_false hb.1 hc]
      · simp at hc
        (repeat (first | refine awp_seq ?_ | refine awp_block ?_ | (refine awp_runG [0, 1, 4, 5, 14, 23] hX ?_; (simp [go_sem]; (try simp (disch := omega) only [w64, td, tm]); try (refine ⟨by kernel_rfl, ?_⟩))) | (refine awp_drawnG [0, 1, 4, 5, 14, 23] hX mixed ?_; (simp [go_sem]; (try simp (disch := omega) only [w64, td, tm]); try (refine ⟨by kernel_rfl, ?_⟩))) | (refine awp_ret ?_; (simp [go_sem]; (try simp (disch := omega) only [w64, td, tm]); try (refine ⟨by kernel_rfl, ?_⟩))) | (refine awp_skip ?_; (simp [go_sem]; (try simp (disch := omega) only [w64, td, tm]); try (refine ⟨by kernel_rfl, ?_⟩))) | (refine awp_exit ?_; (simp [go_sem]; (try simp (disch := omega) only [w64, td, tm]); try (refine ⟨by kernel_rfl, ?_⟩)))))
        refine ⟨k + 1, ⟨by omega, allS_succ hb.1 ha hc⟩, by omega, ?_⟩
        refine sub_of _ [] (by simp [go_sem]) ?_
        simp [go_sem]
    · simp at hb
      (repeat (first | refine awp_seq ?_ | refine awp_block ?_ | (refine awp_runG [0, 1, 4, 5, 14, 23] hX ?_; (simp [go_sem]; try (refine ⟨by kernel_rfl, ?_⟩))) | (refine awp_drawnG [0, 1, 4, 5, 14, 23] hX mixed ?_; (simp [go_sem]; try (refine ⟨by kernel_rfl, ?_⟩))) | (refine awp_ret ?_; (simp [go_sem]; try (refine ⟨by kernel_rfl, ?_⟩))) | (refine awp_skip ?_; (simp [go_sem]; try (refine ⟨by kernel_rfl, ?_⟩))) | (refine awp_exit ?_; (simp [go_sem]; try (refine ⟨by kernel_rfl, ?_⟩)))))
      unfold few
      by_cases h : k = L.length
      · subst h; rw [List.take_length] at ha; simp [ha]
      · have h2 : ¬ ((L.length : Int) ≤ n) := by have := hb (by omega); omega
        simp [h2]

theorem same_m (A B : List E) (hl : A.length ≤ 9223372036854775807) : Means true Try.prog 12 [.sl (A.map eo), .sl (B.map eo)] (bb (decide (A = B))) := by
  refine means_fn true 26 [.tmp 4] Try.func12 rfl rfl rfl (by simp) (by decide) rfl fun X hX => ?_
  (repeat (first | refine awp_seq ?_ | refine awp_block ?_ | (refine awp_runG [0, 1, 4, 5, 10, 14, 25] hX ?_; (simp [go_sem]; try (refine ⟨by kernel_rfl, ?_⟩))) | (refine awp_drawnG [0, 1, 4, 5, 10, 14, 25] hX mixed ?_; (simp [go_sem]; try (refine ⟨by kernel_rfl, ?_⟩))) | (refine awp_ret ?_; (simp [go_sem]; try (refine ⟨by kernel_rfl, ?_⟩))) | (refine awp_skip ?_; (simp [go_sem]; try (refine ⟨by kernel_rfl, ?_⟩))) | (refine awp_exit ?_; (simp [go_sem]; try (refine ⟨by kernel_rfl, ?_⟩)))))
  refine awp_cond (b := !decide ((A.length : Int) = B.length)) (by simp [go_sem]) (fun hb => ?_) (fun hb => ?_)
  · simp at hb
    (repeat (first | refine awp_seq ?_ | refine awp_block ?_ | (refine awp_runG [0, 1, 4, 5, 10, 14, 25] hX ?_; (simp [go_sem]; try (refine ⟨by kernel_rfl, ?_⟩))) | (refine awp_drawnG [0, 1, 4, 5, 10, 14, 25] hX mixed ?_; (simp [go_sem]; try (refine ⟨by kernel_rfl, ?_⟩))) | (refine awp_ret ?_; (simp [go_sem]; try (refine ⟨by kernel_rfl, ?_⟩))) | (refine awp_skip ?_; (simp [go_sem]; try (refine ⟨by kernel_rfl, ?_⟩))) | (refine awp_exit ?_; (simp [go_sem]; try (refine ⟨by kernel_rfl, ?_⟩)))))
    have : A ≠ B := by rintro rfl; exact hb rfl
    simp [this]
  · simp at hb
    have hb : A.length = B.length := by omega
    (repeat (first | refine awp_seq ?_ | refine awp_block ?_ | (refine awp_runG [0, 1, 4, 5, 10, 14, 25] hX ?_; (simp [go_sem]; try (refine ⟨by kernel_rfl, ?_⟩))) | (refine awp_drawnG [0, 1, 4, 5, 10, 14, 25] hX mixed ?_; (simp [go_sem]; try (refine ⟨by kernel_rfl, ?_⟩))) | (refine awp_ret ?_; (simp [go_sem]; try (refine ⟨by kernel_rfl, ?_⟩))) | (refine awp_skip ?_; (simp [go_sem]; try (refine ⟨by kernel_rfl, ?_⟩))) | (refine awp_exit ?_; (simp [go_sem]; try (refine ⟨by kernel_rfl, ?_⟩)))))
    refine awp_loop (fun k : Nat => ⟨mkE [(0, .sl (A.map eo)), (1, .sl (B.map eo)), (4, bb false), (5, ii k)], []⟩) (fun k => k ≤ A.length ∧ A.take k = B.take k) (fun k => A.length - k) 0 ?_ ?_ ?_
    · refine sub_of _ [] (by simp [go_sem]) ?_
      simp [go_sem]
    · simp
    · rintro k ⟨hk, hn⟩
      (repeat (first | refine awp_seq ?_ | refine awp_block ?_ | (refine awp_runG [0, 1, 4, 5, 10, 14, 25] hX ?_; (simp [go_sem]; try (refine ⟨by kernel_rfl, ?_⟩))) | (refine awp_drawnG [0, 1, 4, 5, 10, 14, 25] hX mixed ?_; (simp [go_sem]; try (refine ⟨by kernel_rfl, ?_⟩))) | (refine awp_ret ?_; (simp [go_sem]; try (refine ⟨by kernel_rfl, ?_⟩))) | (refine awp_skip ?_; (simp [go_sem]; try (refine ⟨by kernel_rfl, ?_⟩))) | (refine awp_exit ?_; (simp [go_sem]; try (refine ⟨by kernel_rfl, ?_⟩)))))
      refine awp_cond (b := decide (k < A.length)) (by simp [go_sem]) (fun hc => ?_) (fun hc => ?_)
      · simp at hc
        have hc' : k < B.length := by omega
        (repeat (first | refine awp_seq ?_ | refine awp_block ?_ | (refine awp_runG [0, 1, 4, 5, 10, 14, 25] hX ?_; (simp [go_sem, hc, hc']; try (refine ⟨by kernel_rfl, ?_⟩))) | (refine awp_drawnG [0, 1, 4, 5, 10, 14, 25] hX mixed ?_; (simp [go_sem, hc, hc']; try (refine ⟨by kernel_rfl, ?_⟩))) | (refine awp_ret ?_; (simp [go_sem, hc, hc']; try (refine ⟨by kernel_rfl, ?_⟩))) | (refine awp_skip ?_; (simp [go_sem, hc, hc']; try (refine ⟨by kernel_rfl, ?_⟩))) | (refine awp_exit ?_; (simp [go_sem, hc, hc']; try (refine ⟨by kernel_rfl, ?_⟩)))))
        refine awp_cond (b := !decide (A[k] = B[k])) (by simp [go_sem, E.eq_iff]) (fun hd => ?_) (fun hd => ?_)
        · simp at hd
          (repeat (first | refine awp_seq ?_ | refine awp_block ?_ | (refine awp_runG [0, 1, 4, 5, 10, 14, 25] hX ?_; (simp [go_sem]; try (refine ⟨by kernel_rfl, ?_⟩))) | (refine awp_drawnG [0, 1, 4, 5, 10, 14, 25] hX mixed ?_; (simp [go_sem]; try (refine ⟨by kernel_rfl, ?_⟩))) | (refine awp_ret ?_; (simp [go_sem]; try (refine ⟨by kernel_rfl, ?_⟩))) | (refine awp_skip ?_; (simp [go_sem]; try (refine ⟨by kernel_rfl, ?_⟩))) | (refine awp_exit ?_; (simp [go_sem]; try (refine ⟨by kernel_rfl, ?_⟩)))))
          have : A ≠ B := by rintro rfl; exact hd rfl
          simp [this]
        · simp at hd
          (repeat (first | refine awp_seq ?_ | refine awp_block ?_ | (refine awp_runG [0, 1, 4, 5, 10, 14, 25] hX ?_; (simp [go_sem]; (try simp (disch := omega) only [w64, td, tm]); try (refine ⟨by kernel_rfl, ?_⟩))) | (refine awp_drawnG [0, 1, 4, 5, 10, 14, 25] hX mixed ?_; (simp [go_sem]; (try simp (disch := omega) only [w64, td, tm]); try (refine ⟨by kernel_rfl, ?_⟩))) | (refine awp_ret ?_; (simp [go_sem]; (try simp (disch := omega) only [w64, td, tm]); try (refine ⟨by kernel_rfl, ?_⟩))) | (refine awp_skip ?_; (simp [go_sem]; (try simp (disch := omega) only [w64, td, tm]); try (refine ⟨by kernel_rfl, ?_⟩))) | (refine awp_exit ?_; (simp [go_sem]; (try simp (disch := omega) only [w64, td, tm]); try (refine ⟨by kernel_rfl, ?_⟩)))))
          refine ⟨k + 1, ⟨by omega, by rw [List.take_succ_eq_append_getElem hc, List.take_succ_eq_append_getElem hc', hn, hd]⟩, by omega, ?_⟩
          refine sub_of _ [] (by simp [go_sem]) ?_
          simp [go_sem]
      · simp at hc
        (repeat (first | refine awp_seq ?_ | refine awp_block ?_ | (refine awp_runG [0, 1, 4, 5, 10, 14, 25] hX ?_; (simp [go_sem]; try (refine ⟨by kernel_rfl, ?_⟩))) | (refine awp_drawnG [0, 1, 4, 5, 10, 14, 25] hX mixed ?_; (simp [go_sem]; try (refine ⟨by kernel_rfl, ?_⟩))) | (refine awp_ret ?_; (simp [go_sem]; try (refine ⟨by kernel_rfl, ?_⟩))) | (refine awp_skip ?_; (simp [go_sem]; try (refine ⟨by kernel_rfl, ?_⟩))) | (refine awp_exit ?_; (simp [go_sem]; try (refine ⟨by kernel_rfl, ?_⟩)))))
        have : k = A.length := by omega
        subst this
        rw [List.take_length, hb, List.take_length] at hn
        simp [hn]

/-- Where an entry stands, or -1. -/
def posI (L : List E) (e : E) : Int := if e ∈ L then (L.findIdx (· = e) : Nat) else -1
theorem posI_at {L : List E} {k : Nat} (hk : k < L.length) (h : L[k] ∉ L.take k) : posI L L[k] = k := by
  unfold posI
  rw [if_pos (List.getElem_mem hk)]
  congr 1
  have h1 : L.findIdx (· = L[k]) ≤ k := by
    refine Nat.le_of_not_lt fun hlt => ?_
    have := List.not_of_lt_findIdx hlt
    simp at this
  have h2 : ¬ L.findIdx (· = L[k]) < k := by
    intro hlt
    have hl : L.findIdx (· = L[k]) < L.length := by omega
    have := List.findIdx_getElem (w := hl)
    simp only [decide_eq_true_eq] at this
    exact h (by
      rw [← this]
      exact List.mem_take_iff_getElem.2 ⟨_, by omega, rfl⟩)
  omega

set_option maxRecDepth 20000 in
theorem find_m (L : List E) (hl : L.length ≤ 9223372036854775807) (k : Int) (t : ByteArray) : MeansH Try.prog 23 (refH L) [.el 0 1 0 0, ii k, ss t] (ii (posI L ⟨k, t⟩)) (refH L) := by
  refine meansH_fn 2 40 [.tmp 6] Try.func23 rfl rfl rfl (by simp) (by decide) rfl fun X hX => ?_
  (repeat (first | refine awp_seq ?_ | refine awp_block ?_ | (refine awp_runG [0, 1, 2, 6, 7, 14, 38, 1000000, 1000001] hX ?_; (simp [go_sem]; try (refine ⟨by kernel_rfl, ?_⟩))) | (refine awp_drawnG [0, 1, 2, 6, 7, 14, 38, 1000000, 1000001] hX mixed ?_; (simp [go_sem]; try (refine ⟨by kernel_rfl, ?_⟩))) | (refine awp_skip ?_; (simp [go_sem]; try (refine ⟨by kernel_rfl, ?_⟩))) | (refine awp_exit ?_; (simp [go_sem]; try (refine ⟨by kernel_rfl, ?_⟩)))))
  refine awp_loop (fun j : Nat => ⟨mkE [(0, .el 0 1 0 0), (1, ii k), (2, ss t), (7, ii j), (1000000, .ow 0), (1000001, .ow 1)], refH L⟩) (fun j => j ≤ L.length ∧ ⟨k, t⟩ ∉ L.take j) (fun j => L.length - j) 0 ?_ ?_ ?_
  · refine sub_of _ [.old 0 ⟨53, 1, [.agg [.ow 1]]⟩, .old 1 ⟨32, 2, L.map eo⟩] (by simp [go_sem]) ?_
    simp [go_sem]
  · simp
  · rintro j ⟨hj, hn⟩
    (repeat (first | refine awp_seq ?_ | refine awp_block ?_ | (refine awp_runG [0, 1, 2, 6, 7, 14, 38, 1000000, 1000001] hX ?_; (simp [go_sem]; try (refine ⟨by kernel_rfl, ?_⟩))) | (refine awp_drawnG [0, 1, 2, 6, 7, 14, 38, 1000000, 1000001] hX mixed ?_; (simp [go_sem]; try (refine ⟨by kernel_rfl, ?_⟩))) | (refine awp_skip ?_; (simp [go_sem]; try (refine ⟨by kernel_rfl, ?_⟩))) | (refine awp_exit ?_; (simp [go_sem]; try (refine ⟨by kernel_rfl, ?_⟩)))))
    refine awp_cond (b := decide (j < L.length)) (by simp [go_sem]) (fun hb => ?_) (fun hb => ?_)
    · simp at hb
      (repeat (first | refine awp_seq ?_ | refine awp_block ?_ | (refine awp_runG [0, 1, 2, 6, 7, 14, 38, 1000000, 1000001] hX ?_; (simp [go_sem, hb]; try (refine ⟨by kernel_rfl, ?_⟩))) | (refine awp_drawnG [0, 1, 2, 6, 7, 14, 38, 1000000, 1000001] hX mixed ?_; (simp [go_sem, hb]; try (refine ⟨by kernel_rfl, ?_⟩))) | (refine awp_skip ?_; (simp [go_sem, hb]; try (refine ⟨by kernel_rfl, ?_⟩))) | (refine awp_exit ?_; (simp [go_sem, hb]; try (refine ⟨by kernel_rfl, ?_⟩)))))
      refine awp_cond (b := decide (L[j] = ⟨k, t⟩)) (by simp [go_sem, E.eq_iff]) (fun hc => ?_) (fun hc => ?_)
      · simp at hc
        (repeat (first | refine awp_seq ?_ | refine awp_block ?_ | (refine awp_runG [0, 1, 2, 6, 7, 14, 38, 1000000, 1000001] hX ?_; (simp [go_sem]; try (refine ⟨by kernel_rfl, ?_⟩))) | (refine awp_drawnG [0, 1, 2, 6, 7, 14, 38, 1000000, 1000001] hX mixed ?_; (simp [go_sem]; try (refine ⟨by kernel_rfl, ?_⟩))) | (refine awp_skip ?_; (simp [go_sem]; try (refine ⟨by kernel_rfl, ?_⟩))) | (refine awp_exit ?_; (simp [go_sem]; try (refine ⟨by kernel_rfl, ?_⟩)))))
        have := posI_at hb (by rw [hc]; exact hn)
        refine awp_ret ?_; (try simp only [thenQ, blkQ, loopQ]); refine retH_ret [(6, ii j), (1000000, .ow 0), (1000001, .ow 1)] [.old 0 ⟨53, 1, [.agg [.ow 1]]⟩, .old 1 ⟨32, 2, L.map eo⟩] ?_
        simp [go_sem, ← hc, this]
      · simp at hc
        (repeat (first | refine awp_seq ?_ | refine awp_block ?_ | (refine awp_runG [0, 1, 2, 6, 7, 14, 38, 1000000, 1000001] hX ?_; (simp [go_sem]; (try simp (disch := omega) only [w64, td, tm]); try (refine ⟨by kernel_rfl, ?_⟩))) | (refine awp_drawnG [0, 1, 2, 6, 7, 14, 38, 1000000, 1000001] hX mixed ?_; (simp [go_sem]; (try simp (disch := omega) only [w64, td, tm]); try (refine ⟨by kernel_rfl, ?_⟩))) | (refine awp_skip ?_; (simp [go_sem]; (try simp (disch := omega) only [w64, td, tm]); try (refine ⟨by kernel_rfl, ?_⟩))) | (refine awp_exit ?_; (simp [go_sem]; (try simp (disch := omega) only [w64, td, tm]); try (refine ⟨by kernel_rfl, ?_⟩)))))
        refine ⟨j + 1, ⟨by omega, ?_⟩, by omega, ?_⟩
        · rw [List.take_succ_eq_append_getElem hb]
          simp only [List.mem_append, List.mem_singleton, not_or]
          exact ⟨hn, fun h => hc h.symm⟩
        · refine sub_of _ [.old 0 ⟨53, 1, [.agg [.ow 1]]⟩, .old 1 ⟨32, 2, L.map eo⟩] (by simp [go_sem]) ?_
          simp [go_sem]
    · simp at hb
      have : j = L.length := by omega
      subst this
      rw [List.take_length] at hn
      (repeat (first | refine awp_seq ?_ | refine awp_block ?_ | (refine awp_runG [0, 1, 2, 6, 7, 14, 38, 1000000, 1000001] hX ?_; (simp [go_sem]; try (refine ⟨by kernel_rfl, ?_⟩))) | (refine awp_drawnG [0, 1, 2, 6, 7, 14, 38, 1000000, 1000001] hX mixed ?_; (simp [go_sem]; try (refine ⟨by kernel_rfl, ?_⟩))) | (refine awp_skip ?_; (simp [go_sem]; try (refine ⟨by kernel_rfl, ?_⟩))) | (refine awp_exit ?_; (simp [go_sem]; try (refine ⟨by kernel_rfl, ?_⟩)))))
      refine awp_ret ?_; (try simp only [thenQ, blkQ, loopQ]); refine retH_ret [(6, ii (-1)), (1000000, .ow 0), (1000001, .ow 1)] [.old 0 ⟨53, 1, [.agg [.ow 1]]⟩, .old 1 ⟨32, 2, L.map eo⟩] ?_
      simp [go_sem, posI, hn]

end Go.Proofs.Ytgpjhmhoagokpaa
