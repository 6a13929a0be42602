/-
  The walks of layer 6: lists, the reference's ring.
-/
import Derived.Test.YtgfgajofilcniaaSealA
set_option linter.all false
namespace Go.Proofs.Ytgfgajofilcniaa
open Go.RowKit Go.Ab
attribute [local irreducible] AWP Go.Ab.Sub Means MeansH CallK CallG CallT CallGT

def shortE (e : E) : Bool := !decide (500 < (e.text.size : Int))
def allS (L : List E) : Bool := L.all shortE
def few (L : List E) (n : Int) : Bool := decide ((L.length : Int) ≤ n) && allS L
theorem allS_succ {L : List E} {k : Nat} (h : k < L.length) (h1 : allS (L.take k) = true) (h2 : shortE L[k] = true) : allS (L.take (k + 1)) = true := by
  unfold allS at *
  rw [List.take_succ_eq_append_getElem h, List.all_append, h1]; simp [h2]
theorem allS_false {L : List E} {k : Nat} (h : k < L.length) (h2 : shortE L[k] = false) : allS L = false := List.all_eq_false.2 ⟨L[k], List.getElem_mem h, by simp [h2]⟩
theorem allS_nil : allS [] = true := rfl

theorem few_m (L : List E) (hl : L.length ≤ 9223372036854775807) (n : Int) (hn : 0 ≤ n ∧ n ≤ 1000) : Means true Try.prog 6 [.sl (L.map eo), ii n] (bb (few L n)) := by
  refine means_fn true 28 [.tmp 4] Try.func6 rfl rfl rfl (by simp) (by decide) rfl fun X hX => ?_
  (repeat (refine awp_stepG [0, 1, 4, 5, 14, 23] hX mixed rfl ?_; (simp [go_sem]; try (refine ⟨by kernel_rfl, ?_⟩))))
  refine awp_loop (fun k : Nat => ⟨mkE [(0, .sl (L.map eo)), (1, ii n), (4, bb false), (5, ii k)], []⟩) (fun k => k ≤ L.length ∧ allS (L.take k) = true) (fun k => L.length - k) 0 ?_ ?_ ?_
  · refine sub_of _ [] (by simp [go_sem]) ?_
    simp [go_sem]
  · simp [allS_nil]
  · rintro k ⟨hk, ha⟩
    (repeat (refine awp_stepG [0, 1, 4, 5, 14, 23] hX mixed rfl ?_; (simp [go_sem]; try (refine ⟨by kernel_rfl, ?_⟩))))
    refine awp_cond (b := decide (k < L.length) && decide ((k : Int) ≤ n)) (by simp [go_sem]) (fun hb => ?_) (fun hb => ?_)
    · simp at hb
      (repeat (refine awp_stepG [0, 1, 4, 5, 14, 23] hX mixed rfl ?_; (simp [go_sem, hb.1]; try (refine ⟨by kernel_rfl, ?_⟩))))
      refine awp_cond (b := !shortE L[k]) (by simp [go_sem, shortE]) (fun hc => ?_) (fun hc => ?_)
      · simp at hc
        (repeat (refine awp_stepG [0, 1, 4, 5, 14, 23] hX mixed rfl ?_; (simp [go_sem]; try (refine ⟨by kernel_rfl, ?_⟩))))
        simp [few, allS_false hb.1 hc]
      · simp at hc
        (repeat (refine awp_stepG [0, 1, 4, 5, 14, 23] hX mixed rfl ?_; (simp [go_sem]; (try simp (disch := omega) only [w64, td, tm]); try (refine ⟨by kernel_rfl, ?_⟩))))
        refine ⟨k + 1, ⟨by omega, allS_succ hb.1 ha hc⟩, by omega, ?_⟩
        refine sub_of _ [] (by simp [go_sem]) ?_
        simp [go_sem]
    · simp at hb
      (repeat (refine awp_stepG [0, 1, 4, 5, 14, 23] hX mixed rfl ?_; (simp [go_sem]; try (refine ⟨by kernel_rfl, ?_⟩))))
      unfold few
      by_cases h : k = L.length
      · subst h; rw [List.take_length] at ha; simp [ha]
      · have h2 : ¬ ((L.length : Int) ≤ n) := by have := hb (by omega); omega
        simp [h2]

theorem same_m (A B : List E) (hl : A.length ≤ 9223372036854775807) : Means true Try.prog 10 [.sl (A.map eo), .sl (B.map eo)] (bb (decide (A = B))) := by
  refine means_fn true 26 [.tmp 4] Try.func10 rfl rfl rfl (by simp) (by decide) rfl fun X hX => ?_
  (repeat (refine awp_stepG [0, 1, 4, 5, 10, 14, 25] hX mixed rfl ?_; (simp [go_sem]; try (refine ⟨by kernel_rfl, ?_⟩))))
  refine awp_cond (b := !decide ((A.length : Int) = B.length)) (by simp [go_sem]) (fun hb => ?_) (fun hb => ?_)
  · simp at hb
    (repeat (refine awp_stepG [0, 1, 4, 5, 10, 14, 25] hX mixed rfl ?_; (simp [go_sem]; try (refine ⟨by kernel_rfl, ?_⟩))))
    have : A ≠ B := by rintro rfl; exact hb rfl
    simp [this]
  · simp at hb
    have hb : A.length = B.length := by omega
    (repeat (refine awp_stepG [0, 1, 4, 5, 10, 14, 25] hX mixed rfl ?_; (simp [go_sem]; try (refine ⟨by kernel_rfl, ?_⟩))))
    refine awp_loop (fun k : Nat => ⟨mkE [(0, .sl (A.map eo)), (1, .sl (B.map eo)), (4, bb false), (5, ii k)], []⟩) (fun k => k ≤ A.length ∧ A.take k = B.take k) (fun k => A.length - k) 0 ?_ ?_ ?_
    · refine sub_of _ [] (by simp [go_sem]) ?_
      simp [go_sem]
    · simp
    · rintro k ⟨hk, hn⟩
      (repeat (refine awp_stepG [0, 1, 4, 5, 10, 14, 25] hX mixed rfl ?_; (simp [go_sem]; try (refine ⟨by kernel_rfl, ?_⟩))))
      refine awp_cond (b := decide (k < A.length)) (by simp [go_sem]) (fun hc => ?_) (fun hc => ?_)
      · simp at hc
        have hc' : k < B.length := by omega
        (repeat (refine awp_stepG [0, 1, 4, 5, 10, 14, 25] hX mixed rfl ?_; (simp [go_sem, hc, hc']; try (refine ⟨by kernel_rfl, ?_⟩))))
        refine awp_cond (b := !decide (A[k] = B[k])) (by simp [go_sem, E.eq_iff]) (fun hd => ?_) (fun hd => ?_)
        · simp at hd
          (repeat (refine awp_stepG [0, 1, 4, 5, 10, 14, 25] hX mixed rfl ?_; (simp [go_sem]; try (refine ⟨by kernel_rfl, ?_⟩))))
          have : A ≠ B := by rintro rfl; exact hd rfl
          simp [this]
        · simp at hd
          (repeat (refine awp_stepG [0, 1, 4, 5, 10, 14, 25] hX mixed rfl ?_; (simp [go_sem]; (try simp (disch := omega) only [w64, td, tm]); try (refine ⟨by kernel_rfl, ?_⟩))))
          refine ⟨k + 1, ⟨by omega, by rw [List.take_succ_eq_append_getElem hc, List.take_succ_eq_append_getElem hc', hn, hd]⟩, by omega, ?_⟩
          refine sub_of _ [] (by simp [go_sem]) ?_
          simp [go_sem]
      · simp at hc
        (repeat (refine awp_stepG [0, 1, 4, 5, 10, 14, 25] hX mixed rfl ?_; (simp [go_sem]; try (refine ⟨by kernel_rfl, ?_⟩))))
        have : k = A.length := by omega
        subst this
        rw [List.take_length, hb, List.take_length] at hn
        simp [hn]

/-- Where an entry stands, or -1. -/
def posI (L : List E) (e : E) : Int := if e ∈ L then (L.findIdx (· = e) : Nat) else -1
theorem posI_at {L : List E} {k : Nat} (hk : k < L.length) (h : L[k] ∉ L.take k) : posI L L[k] = k := by
  unfold posI
  rw [if_pos (List.getElem_mem hk)]
  congr 1
  have h1 : L.findIdx (· = L[k]) ≤ k := by
    refine Nat.le_of_not_lt fun hlt => ?_
    have := List.not_of_lt_findIdx hlt
    simp at this
  have h2 : ¬ L.findIdx (· = L[k]) < k := by
    intro hlt
    have hl : L.findIdx (· = L[k]) < L.length := by omega
    have := List.findIdx_getElem (w := hl)
    simp only [decide_eq_true_eq] at this
    exact h (by
      rw [← this]
      exact List.mem_take_iff_getElem.2 ⟨_, by omega, rfl⟩)
  omega


end Go.Proofs.Ytgfgajofilcniaa
