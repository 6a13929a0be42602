/-
  The walks of layer 6: opening.
-/
import Derived.Test.YtgfgajofilcniaaSealF
import Derived.Test.YtgfgajofilcniaaSealQ
set_option linter.all false
namespace Go.Proofs.Ytgfgajofilcniaa
open Go.RowKit Go.Ab
attribute [-simp] List.map_take
attribute [local irreducible] AWP Go.Ab.Sub Means MeansH CallK CallG CallT CallGT

/-- A key that is none. -/
def badK (L : List E) : Bool := L.any fun e => !isKey e.key
/-- What opening returns: the ring, the error. -/
def openE (L : List E) : Int := if badK L then 1 else if (ent L).length < L.length then 5 else 0
def openR (L : List E) : AV := if openE L = 0 then .tup [.el 0 2 0 0, ii 0] else .tup [.v (.pointer none), ii (openE L)]
def openH (L : List E) : List Cell := if openE L = 0 then ringH (ent L) else []
theorem badK_at {L : List E} {k : Nat} (h : k < L.length) (hk : isKey L[k].key = false) : badK L = true := List.any_eq_true.2 ⟨L[k], List.getElem_mem h, by simp [hk]⟩
theorem badK_succ {L : List E} {k : Nat} (h : k < L.length) (h0 : badK (L.take k) = false) (hk : isKey L[k].key = true) : badK (L.take (k + 1)) = false := by
  unfold badK at *
  rw [List.take_succ_eq_append_getElem h, List.any_append, h0]; simp [hk]
theorem key_of {L : List E} (h : badK L = false) {e : E} (he : e ∈ L) : isKey e.key = true := by
  unfold badK at h
  have := List.any_eq_false.1 h e he
  simpa using this
theorem ent_le (L : List E) : (ent L).length ≤ L.length := by have := ent_len L L.length (Nat.le_refl _); rwa [List.take_length] at this
theorem mem_take_ent {L : List E} {k : Nat} (hk : k ≤ L.length) (h0 : badK (L.take k) = false) {e : E} : e ∈ ent (L.take k) ↔ e ∈ L.take k := by
  constructor
  · intro h
    obtain ⟨_, i, hi, hik, he⟩ := ent_from k hk h
    exact List.mem_take_iff_getElem.2 ⟨i, by omega, he⟩
  · intro h
    obtain ⟨i, hi, he⟩ := List.mem_take_iff_getElem.1 h
    have hy := key_of h0 h
    rw [← he] at hy ⊢
    exact mem_ent (by omega) hk hy
theorem ent_all {L : List E} : ∀ k, k ≤ L.length → badK (L.take k) = false → ¬ (ent (L.take k)).length < k → ent (L.take k) = L.take k
  | 0, _, _, _ => by simp [ent_nil]
  | k + 1, hk, h0, h => by
    have hkl : k < L.length := by omega
    have hb : badK (L.take k) = false := by
      unfold badK at h0 ⊢
      rw [List.take_succ_eq_append_getElem hkl, List.any_append] at h0
      simp only [Bool.or_eq_false_iff] at h0; exact h0.1
    have hlen := ent_len L k (by omega)
    rw [ent_succ hkl] at h ⊢
    have hy : isKey L[k].key = true := key_of h0 (List.mem_take_iff_getElem.2 ⟨k, by omega, rfl⟩)
    by_cases hm : L[k] ∈ ent (L.take k)
    · rw [sigE_old hm] at h; omega
    · rw [sigE_new hy hm] at h ⊢
      simp only [List.length_append, List.length_singleton] at h
      rw [ent_all k (by omega) hb (by omega), ← List.take_succ_eq_append_getElem hkl]

set_option maxHeartbeats 2000000 in
set_option maxRecDepth 20000 in
theorem open_m (L : List E) (hl : L.length ≤ 1000) : MeansH Try.prog 9 [] [.sl (L.map eo)] (openR L) (openH L) := by
  refine meansH_fn 0 34 [.tmp 2, .tmp 3] Try.func9 rfl rfl rfl (by simp) (by decide) rfl fun X hX => ?_
  (repeat (refine awp_stepH [0, 2, 3, 4, 6, 8, 9, 10, 11, 17, 32] hX mixed rfl ?_; (simp [go_sem]; try (refine ⟨by kernel_rfl, ?_⟩))))
  first | refine callH_intro [] (new_m) (by simp [go_sem]) ?_ | refine callTQ_intro [] (new_m) (by simp [go_sem]) ?_ | refine callTE_intro [] (new_m) (by simp [go_sem]) ?_
  try (simp [go_sem]; try (refine ⟨by kernel_rfl, ?_⟩))
  (repeat (refine awp_stepH [0, 2, 3, 4, 6, 8, 9, 10, 11, 17, 32] hX mixed rfl ?_; (simp [go_sem]; try (refine ⟨by kernel_rfl, ?_⟩))))
  refine awp_loop (fun k : Nat => ⟨mkE [(0, .sl (L.map eo)), (4, .el 0 2 0 0), (8, .sl (L.map eo)), (9, ii L.length), (10, ii k)], [.row ⟨42, 2, [.agg [.ow 1, .ow 2]]⟩, .row ⟨24, 2, (ent (L.take k)).map eo⟩, .map ⟨24, 3, marks 0 (ent (L.take k))⟩]⟩) (fun k => k ≤ L.length ∧ badK (L.take k) = false) (fun k => L.length - k) 0 ?_ ?_ ?_
  · refine sub_of _ [.old 0 ⟨42, 2, [.agg [.ow 1, .ow 2]]⟩, .old 1 ⟨24, 2, ([]).map eo⟩, .oldM 2 ⟨24, 3, marks 0 ([])⟩] (by simp [go_sem, ent_nil]) ?_
    simp [go_sem]
  · simp [badK]
  · rintro k ⟨hk, h0⟩
    have hlen := ent_len L k hk
    (repeat (refine awp_stepH [0, 2, 3, 4, 6, 8, 9, 10, 11, 17, 32] hX mixed rfl ?_; (simp [go_sem]; try (refine ⟨by kernel_rfl, ?_⟩))))
    refine awp_cond (b := decide (k < L.length)) (by simp [go_sem]) (fun hb => ?_) (fun hb => ?_)
    · simp at hb
      (repeat (refine awp_stepH [0, 2, 3, 4, 6, 8, 9, 10, 11, 17, 32] hX mixed rfl ?_; (simp [go_sem, hb]; try (refine ⟨by kernel_rfl, ?_⟩))))
      first | refine callKa (key_m L[k].key) ?_ | refine callTa (key_m L[k].key) ?_
      try (simp [go_sem]; try (refine ⟨by kernel_rfl, ?_⟩))
      (repeat (refine awp_stepH [0, 2, 3, 4, 6, 8, 9, 10, 11, 17, 32] hX mixed rfl ?_; (simp [go_sem]; try (refine ⟨by kernel_rfl, ?_⟩))))
      refine awp_cond (b := !isKey L[k].key) (by simp [go_sem]) (fun hc => ?_) (fun hc => ?_)
      · simp at hc
        have hE : openE L = 1 := by simp [openE, badK_at hb hc]
        rw [show openR L = .tup [.v (.pointer none), ii 1] by simp [openR, hE], show openH L = [] by simp [openH, hE]]
        (repeat (refine awp_stepH [0, 2, 3, 4, 6, 8, 9, 10, 11, 17, 32] hX mixed rfl ?_; (simp [go_sem]; try (refine ⟨by kernel_rfl, ?_⟩))))
        refine awp_ret ?_; (try simp only [thenQ, blkQ, loopQ]); refine retH_ret [(2, .v (.pointer none)), (3, ii 1)] [] ?_
        simp [go_sem]
      · simp at hc
        (repeat (refine awp_stepH [0, 2, 3, 4, 6, 8, 9, 10, 11, 17, 32] hX mixed rfl ?_; (simp [go_sem]; try (refine ⟨by kernel_rfl, ?_⟩))))
        first | refine callH_intro [0, 1, 2] (sign_m (ent (L.take k)) (by omega) L[k].key L[k].text) (by simp [go_sem]) ?_ | refine callTQ_intro [0, 1, 2] (sign_m (ent (L.take k)) (by omega) L[k].key L[k].text) (by simp [go_sem]) ?_ | refine callTE_intro [0, 1, 2] (sign_m (ent (L.take k)) (by omega) L[k].key L[k].text) (by simp [go_sem]) ?_
        try (simp [go_sem]; try (refine ⟨by kernel_rfl, ?_⟩))
        (repeat (refine awp_stepH [0, 2, 3, 4, 6, 8, 9, 10, 11, 17, 32] hX mixed rfl ?_; (simp [go_sem]; (try simp (disch := omega) only [w64, td, tm]); try (refine ⟨by kernel_rfl, ?_⟩))))
        refine ⟨k + 1, ⟨by omega, badK_succ hb h0 hc⟩, by omega, ?_⟩
        refine sub_of _ [.old 0 ⟨42, 2, [.agg [.ow 1, .ow 2]]⟩, .old 4 ⟨24, 2, (ent (L.take (k + 1))).map eo⟩, .oldM 2 ⟨24, 3, marks 0 (ent (L.take (k + 1)))⟩] (by simp [go_sem, ent_succ hb]) ?_
        simp [go_sem]
    · have hkl : k = L.length := by simp at hb; omega
      subst hkl
      rw [List.take_length] at h0 hlen ⊢
      (repeat (refine awp_stepH [0, 2, 3, 4, 6, 8, 9, 10, 11, 17, 32] hX mixed rfl ?_; (simp [go_sem]; try (refine ⟨by kernel_rfl, ?_⟩))))
      refine awp_cond (b := decide ((ent L).length < L.length)) (by simp [go_sem]) (fun hc => ?_) (fun hc => ?_)
      · simp at hc
        have hE : openE L = 5 := by simp [openE, h0, hc]
        rw [show openR L = .tup [.v (.pointer none), ii 5] by simp [openR, hE], show openH L = [] by simp [openH, hE]]
        (repeat (refine awp_stepH [0, 2, 3, 4, 6, 8, 9, 10, 11, 17, 32] hX mixed rfl ?_; (simp [go_sem]; try (refine ⟨by kernel_rfl, ?_⟩))))
        refine awp_ret ?_; (try simp only [thenQ, blkQ, loopQ]); refine retH_ret [(2, .v (.pointer none)), (3, ii 5)] [] ?_
        simp [go_sem]
      · simp at hc
        have hE : openE L = 0 := by simp [openE, h0]; omega
        rw [show openR L = .tup [.el 0 2 0 0, ii 0] by simp [openR, hE], show openH L = ringH (ent L) by simp [openH, hE]]
        (repeat (refine awp_stepH [0, 2, 3, 4, 6, 8, 9, 10, 11, 17, 32] hX mixed rfl ?_; (simp [go_sem]; try (refine ⟨by kernel_rfl, ?_⟩))))
        refine awp_ret ?_; (try simp only [thenQ, blkQ, loopQ]); refine retH_ret [(2, .el 0 2 0 0), (3, ii 0)] [.old 0 ⟨42, 2, [.agg [.ow 1, .ow 2]]⟩, .old 1 ⟨24, 2, (ent L).map eo⟩, .oldM 2 ⟨24, 3, marks 0 (ent L)⟩] ?_
        simp [go_sem]

theorem badK_take {L : List E} {k : Nat} (hk : k ≤ L.length) (h : badK L = false) : badK (L.take k) = false := by
  unfold badK at *
  exact List.any_eq_false.2 fun e he => List.any_eq_false.1 h e (List.mem_of_mem_take he)


end Go.Proofs.Ytgfgajofilcniaa
