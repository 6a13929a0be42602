/-
  Layer 35: what a jury decides.
-/
import Derived.Test.YtflcmfeafiippaaJuryE
import Derived.Test.YtflcmfeafiippaaVoteP
import Derived.Test.YtflcmfeafiippaaVoteQ
set_option linter.all false
namespace Go.Proofs.Ytflcmfeafiippaa
open Go.RowKit Go.Ab
attribute [local irreducible] AWP Go.Ab.Sub Means MeansH CallK CallG CallT CallGT

theorem yesN_le2 (l : List V) (k : Nat) : yesN (l.take k) ≤ k := by
  have := yesN_le (l.take k)
  rw [List.length_take] at this
  omega
set_option maxHeartbeats 4000000 in
set_option maxRecDepth 20000 in
theorem verdict_m (L : List Int) (hL : L.length ≤ 9223372036854775807) (vs : List V) (hv : vs.length ≤ 100000) : Means true Try.prog 12 [il L, .sl (vs.map vo)] (.tup [ii (jver L vs), ii (jerr L)]) := by
  refine means_fn true 61 [.tmp 4, .tmp 5] Try.func12 rfl rfl rfl (by simp) (by decide) rfl fun X hX => ?_
  (repeat (first | refine awp_seq ?_ | refine awp_block ?_ | (refine awp_runG [0, 1, 4, 5, 6, 8, 9, 10, 12, 13, 16, 17, 18, 19, 20, 32, 33, 34, 35, 39, 47, 51] hX ?_; (simp [go_sem]; try (refine ⟨by kernel_rfl, ?_⟩))) | (refine awp_drawnG [0, 1, 4, 5, 6, 8, 9, 10, 12, 13, 16, 17, 18, 19, 20, 32, 33, 34, 35, 39, 47, 51] hX mixed ?_; (simp [go_sem]; try (refine ⟨by kernel_rfl, ?_⟩))) | (refine awp_ret ?_; (simp [go_sem]; try (refine ⟨by kernel_rfl, ?_⟩))) | (refine awp_skip ?_; (simp [go_sem]; try (refine ⟨by kernel_rfl, ?_⟩))) | (refine awp_exit ?_; (simp [go_sem]; try (refine ⟨by kernel_rfl, ?_⟩)))))
  first | refine callK_intro (valid_m L hL) rfl (by simp [go_sem]) rfl ?_ | refine callT_intro (valid_m L hL) rfl (by simp [go_sem]) rfl ?_
  try (simp [go_sem]; try (refine ⟨by kernel_rfl, ?_⟩))
  refine awp_cond (b := !okM L) (by simp [go_sem]) (fun hb => ?_) (fun hb => ?_)
  · have e1 : jver L vs = 0 := if_neg (by simpa using hb)
    have e2 : jerr L = 1 := if_neg (by simpa using hb)
    rw [e1, e2]
    (repeat (first | refine awp_seq ?_ | refine awp_block ?_ | (refine awp_runG [0, 1, 4, 5, 6, 8, 9, 10, 12, 13, 16, 17, 18, 19, 20, 32, 33, 34, 35, 39, 47, 51] hX ?_; (simp [go_sem]; try (refine ⟨by kernel_rfl, ?_⟩))) | (refine awp_drawnG [0, 1, 4, 5, 6, 8, 9, 10, 12, 13, 16, 17, 18, 19, 20, 32, 33, 34, 35, 39, 47, 51] hX mixed ?_; (simp [go_sem]; try (refine ⟨by kernel_rfl, ?_⟩))) | (refine awp_ret ?_; (simp [go_sem]; try (refine ⟨by kernel_rfl, ?_⟩))) | (refine awp_skip ?_; (simp [go_sem]; try (refine ⟨by kernel_rfl, ?_⟩))) | (refine awp_exit ?_; (simp [go_sem]; try (refine ⟨by kernel_rfl, ?_⟩)))))
  · have hok : okM L = true := by simpa using hb
    have e2 : jerr L = 0 := if_pos hok
    have hl60 : 0 < L.length ∧ L.length ≤ 60 := by
      have h := hok
      simp [okM] at h
      refine ⟨by first | exact h.1.1.1 | exact List.length_pos_iff.2 h.1.1.1, by omega⟩
    have hnd : L.Nodup := by
      have h := hok
      simp [okM] at h
      exact h.2
    rw [e2]
    (repeat (first | refine awp_seq ?_ | refine awp_block ?_ | (refine awp_runG [0, 1, 4, 5, 6, 8, 9, 10, 12, 13, 16, 17, 18, 19, 20, 32, 33, 34, 35, 39, 47, 51] hX ?_; (simp [go_sem]; try (refine ⟨by kernel_rfl, ?_⟩))) | (refine awp_drawnG [0, 1, 4, 5, 6, 8, 9, 10, 12, 13, 16, 17, 18, 19, 20, 32, 33, 34, 35, 39, 47, 51] hX mixed ?_; (simp [go_sem]; try (refine ⟨by kernel_rfl, ?_⟩))) | (refine awp_ret ?_; (simp [go_sem]; try (refine ⟨by kernel_rfl, ?_⟩))) | (refine awp_skip ?_; (simp [go_sem]; try (refine ⟨by kernel_rfl, ?_⟩))) | (refine awp_exit ?_; (simp [go_sem]; try (refine ⟨by kernel_rfl, ?_⟩)))))
    refine awp_loop (fun k : Nat => ⟨mkE [(0, il L), (1, .sl (vs.map vo)), (6, ii (late (vs.take k))), (17, .sl (vs.map vo)), (18, ii vs.length), (19, ii k)], []⟩) (fun k => k ≤ vs.length) (fun k => vs.length - k) 0 ?_ ?_ ?_
    · refine sub_of _ [] (by simp [go_sem, late]) ?_
      simp [go_sem, late]
    · omega
    · intro k hk
      (repeat (first | refine awp_seq ?_ | refine awp_block ?_ | (refine awp_runG [0, 1, 4, 5, 6, 8, 9, 10, 12, 13, 16, 17, 18, 19, 20, 32, 33, 34, 35, 39, 47, 51] hX ?_; (simp [go_sem]; try (refine ⟨by kernel_rfl, ?_⟩))) | (refine awp_drawnG [0, 1, 4, 5, 6, 8, 9, 10, 12, 13, 16, 17, 18, 19, 20, 32, 33, 34, 35, 39, 47, 51] hX mixed ?_; (simp [go_sem]; try (refine ⟨by kernel_rfl, ?_⟩))) | (refine awp_ret ?_; (simp [go_sem]; try (refine ⟨by kernel_rfl, ?_⟩))) | (refine awp_skip ?_; (simp [go_sem]; try (refine ⟨by kernel_rfl, ?_⟩))) | (refine awp_exit ?_; (simp [go_sem]; try (refine ⟨by kernel_rfl, ?_⟩)))))
      refine awp_cond (b := decide (k < vs.length)) (by simp [go_sem]) (fun hc => ?_) (fun hc => ?_)
      · simp at hc
        have e := late_succ hc
        (repeat (first | refine awp_seq ?_ | refine awp_block ?_ | (refine awp_runG [0, 1, 4, 5, 6, 8, 9, 10, 12, 13, 16, 17, 18, 19, 20, 32, 33, 34, 35, 39, 47, 51] hX ?_; (simp [go_sem, hc]; (try simp (disch := omega) only [w64, td, tm]); try (refine ⟨by kernel_rfl, ?_⟩))) | (refine awp_drawnG [0, 1, 4, 5, 6, 8, 9, 10, 12, 13, 16, 17, 18, 19, 20, 32, 33, 34, 35, 39, 47, 51] hX mixed ?_; (simp [go_sem, hc]; (try simp (disch := omega) only [w64, td, tm]); try (refine ⟨by kernel_rfl, ?_⟩))) | (refine awp_ret ?_; (simp [go_sem, hc]; (try simp (disch := omega) only [w64, td, tm]); try (refine ⟨by kernel_rfl, ?_⟩))) | (refine awp_skip ?_; (simp [go_sem, hc]; (try simp (disch := omega) only [w64, td, tm]); try (refine ⟨by kernel_rfl, ?_⟩))) | (refine awp_exit ?_; (simp [go_sem, hc]; (try simp (disch := omega) only [w64, td, tm]); try (refine ⟨by kernel_rfl, ?_⟩)))))
        refine ⟨k + 1, by omega, by omega, ?_⟩
        rw [e]
        refine sub_of _ [] (by simp [go_sem]) ?_
        simp [go_sem]
      · have hkl : k = vs.length := by simp at hc; omega
        subst hkl
        rw [List.take_length]
        have hcm := counted_m L hL vs hv (late vs)
        have hcl := cnt_clean L (late vs) vs
        have hsp := cnt_split (u := late vs) hnd (fun v hv => (late_ge vs 0).2 v hv) ⟨fun v hv => (hcl.1 v hv).2, hcl.2⟩
        have hle := yn_le L vs
        have hcnt : counted L vs (late vs) = cnt L (late vs) vs := if_pos hok
        have e1 : jver L vs = verd L.length (yN L vs) (nN L vs) := if_pos hok
        rw [hcnt] at hcm
        rw [e1]
        have hclen := cnt_len L (late vs) vs
        generalize cnt L (late vs) vs = C at *
        (repeat (first | refine awp_seq ?_ | refine awp_block ?_ | (refine awp_runG [0, 1, 4, 5, 6, 8, 9, 10, 12, 13, 16, 17, 18, 19, 20, 32, 33, 34, 35, 39, 47, 51] hX ?_; (simp [go_sem]; try (refine ⟨by kernel_rfl, ?_⟩))) | (refine awp_drawnG [0, 1, 4, 5, 6, 8, 9, 10, 12, 13, 16, 17, 18, 19, 20, 32, 33, 34, 35, 39, 47, 51] hX mixed ?_; (simp [go_sem]; try (refine ⟨by kernel_rfl, ?_⟩))) | (refine awp_ret ?_; (simp [go_sem]; try (refine ⟨by kernel_rfl, ?_⟩))) | (refine awp_skip ?_; (simp [go_sem]; try (refine ⟨by kernel_rfl, ?_⟩))) | (refine awp_exit ?_; (simp [go_sem]; try (refine ⟨by kernel_rfl, ?_⟩)))))
        first | refine callK_intro (hcm) rfl (by simp [go_sem]) rfl ?_ | refine callT_intro (hcm) rfl (by simp [go_sem]) rfl ?_
        try (simp [go_sem]; try (refine ⟨by kernel_rfl, ?_⟩))
        (repeat (first | refine awp_seq ?_ | refine awp_block ?_ | (refine awp_runG [0, 1, 4, 5, 6, 8, 9, 10, 12, 13, 16, 17, 18, 19, 20, 32, 33, 34, 35, 39, 47, 51] hX ?_; (simp [go_sem]; try (refine ⟨by kernel_rfl, ?_⟩))) | (refine awp_drawnG [0, 1, 4, 5, 6, 8, 9, 10, 12, 13, 16, 17, 18, 19, 20, 32, 33, 34, 35, 39, 47, 51] hX mixed ?_; (simp [go_sem]; try (refine ⟨by kernel_rfl, ?_⟩))) | (refine awp_ret ?_; (simp [go_sem]; try (refine ⟨by kernel_rfl, ?_⟩))) | (refine awp_skip ?_; (simp [go_sem]; try (refine ⟨by kernel_rfl, ?_⟩))) | (refine awp_exit ?_; (simp [go_sem]; try (refine ⟨by kernel_rfl, ?_⟩)))))
        refine awp_loop (fun k : Nat => ⟨mkE [(0, il L), (9, .sl (C.map vo)), (10, ii (yesN (C.take k))), (32, .sl (C.map vo)), (33, ii C.length), (34, ii k)], []⟩) (fun k => k ≤ C.length) (fun k => C.length - k) 0 ?_ ?_ ?_
        · refine sub_of _ [] (by simp [go_sem]) ?_
          simp [go_sem, yesN]
        · omega
        · intro k hk
          have hyl := yesN_le2 C k
          (repeat (first | refine awp_seq ?_ | refine awp_block ?_ | (refine awp_runG [0, 1, 4, 5, 6, 8, 9, 10, 12, 13, 16, 17, 18, 19, 20, 32, 33, 34, 35, 39, 47, 51] hX ?_; (simp [go_sem]; try (refine ⟨by kernel_rfl, ?_⟩))) | (refine awp_drawnG [0, 1, 4, 5, 6, 8, 9, 10, 12, 13, 16, 17, 18, 19, 20, 32, 33, 34, 35, 39, 47, 51] hX mixed ?_; (simp [go_sem]; try (refine ⟨by kernel_rfl, ?_⟩))) | (refine awp_ret ?_; (simp [go_sem]; try (refine ⟨by kernel_rfl, ?_⟩))) | (refine awp_skip ?_; (simp [go_sem]; try (refine ⟨by kernel_rfl, ?_⟩))) | (refine awp_exit ?_; (simp [go_sem]; try (refine ⟨by kernel_rfl, ?_⟩)))))
          refine awp_cond (b := decide (k < C.length)) (by simp [go_sem]) (fun hd => ?_) (fun hd => ?_)
          · simp at hd
            have e := yesN_succ hd
            (repeat (first | refine awp_seq ?_ | refine awp_block ?_ | (refine awp_runG [0, 1, 4, 5, 6, 8, 9, 10, 12, 13, 16, 17, 18, 19, 20, 32, 33, 34, 35, 39, 47, 51] hX ?_; (simp [go_sem, hd]; try (refine ⟨by kernel_rfl, ?_⟩))) | (refine awp_drawnG [0, 1, 4, 5, 6, 8, 9, 10, 12, 13, 16, 17, 18, 19, 20, 32, 33, 34, 35, 39, 47, 51] hX mixed ?_; (simp [go_sem, hd]; try (refine ⟨by kernel_rfl, ?_⟩))) | (refine awp_ret ?_; (simp [go_sem, hd]; try (refine ⟨by kernel_rfl, ?_⟩))) | (refine awp_skip ?_; (simp [go_sem, hd]; try (refine ⟨by kernel_rfl, ?_⟩))) | (refine awp_exit ?_; (simp [go_sem, hd]; try (refine ⟨by kernel_rfl, ?_⟩)))))
            refine awp_cond (b := C[k].yes) (by simp [go_sem]) (fun he => ?_) (fun he => ?_)
            · (repeat (first | refine awp_seq ?_ | refine awp_block ?_ | (refine awp_runG [0, 1, 4, 5, 6, 8, 9, 10, 12, 13, 16, 17, 18, 19, 20, 32, 33, 34, 35, 39, 47, 51] hX ?_; (simp [go_sem]; (try simp (disch := omega) only [w64, td, tm]); try (refine ⟨by kernel_rfl, ?_⟩))) | (refine awp_drawnG [0, 1, 4, 5, 6, 8, 9, 10, 12, 13, 16, 17, 18, 19, 20, 32, 33, 34, 35, 39, 47, 51] hX mixed ?_; (simp [go_sem]; (try simp (disch := omega) only [w64, td, tm]); try (refine ⟨by kernel_rfl, ?_⟩))) | (refine awp_ret ?_; (simp [go_sem]; (try simp (disch := omega) only [w64, td, tm]); try (refine ⟨by kernel_rfl, ?_⟩))) | (refine awp_skip ?_; (simp [go_sem]; (try simp (disch := omega) only [w64, td, tm]); try (refine ⟨by kernel_rfl, ?_⟩))) | (refine awp_exit ?_; (simp [go_sem]; (try simp (disch := omega) only [w64, td, tm]); try (refine ⟨by kernel_rfl, ?_⟩)))))
              refine ⟨k + 1, by omega, by omega, ?_⟩
              rw [e, if_pos he]
              refine sub_of _ [] (by simp [go_sem]) ?_
              simp [go_sem]
            · (repeat (first | refine awp_seq ?_ | refine awp_block ?_ | (refine awp_runG [0, 1, 4, 5, 6, 8, 9, 10, 12, 13, 16, 17, 18, 19, 20, 32, 33, 34, 35, 39, 47, 51] hX ?_; (simp [go_sem]; (try simp (disch := omega) only [w64, td, tm]); try (refine ⟨by kernel_rfl, ?_⟩))) | (refine awp_drawnG [0, 1, 4, 5, 6, 8, 9, 10, 12, 13, 16, 17, 18, 19, 20, 32, 33, 34, 35, 39, 47, 51] hX mixed ?_; (simp [go_sem]; (try simp (disch := omega) only [w64, td, tm]); try (refine ⟨by kernel_rfl, ?_⟩))) | (refine awp_ret ?_; (simp [go_sem]; (try simp (disch := omega) only [w64, td, tm]); try (refine ⟨by kernel_rfl, ?_⟩))) | (refine awp_skip ?_; (simp [go_sem]; (try simp (disch := omega) only [w64, td, tm]); try (refine ⟨by kernel_rfl, ?_⟩))) | (refine awp_exit ?_; (simp [go_sem]; (try simp (disch := omega) only [w64, td, tm]); try (refine ⟨by kernel_rfl, ?_⟩)))))
              refine ⟨k + 1, by omega, by omega, ?_⟩
              rw [e, if_neg (by simpa using he)]
              refine sub_of _ [] (by simp [go_sem]) ?_
              simp [go_sem]
          · have hkc : k = C.length := by simp at hd; omega
            subst hkc
            rw [List.take_length] at hyl ⊢
            rw [hsp.1] at hyl ⊢
            have hq : ((L.length : Int)).tdiv 2 = (L.length : Int) / 2 := Int.tdiv_eq_ediv_of_nonneg (by omega)
            (repeat (first | refine awp_seq ?_ | refine awp_block ?_ | (refine awp_runG [0, 1, 4, 5, 6, 8, 9, 10, 12, 13, 16, 17, 18, 19, 20, 32, 33, 34, 35, 39, 47, 51] hX ?_; (simp [go_sem, hq]; (try simp (disch := omega) only [w64, td, tm]); try (refine ⟨by kernel_rfl, ?_⟩))) | (refine awp_drawnG [0, 1, 4, 5, 6, 8, 9, 10, 12, 13, 16, 17, 18, 19, 20, 32, 33, 34, 35, 39, 47, 51] hX mixed ?_; (simp [go_sem, hq]; (try simp (disch := omega) only [w64, td, tm]); try (refine ⟨by kernel_rfl, ?_⟩))) | (refine awp_ret ?_; (simp [go_sem, hq]; (try simp (disch := omega) only [w64, td, tm]); try (refine ⟨by kernel_rfl, ?_⟩))) | (refine awp_skip ?_; (simp [go_sem, hq]; (try simp (disch := omega) only [w64, td, tm]); try (refine ⟨by kernel_rfl, ?_⟩))) | (refine awp_exit ?_; (simp [go_sem, hq]; (try simp (disch := omega) only [w64, td, tm]); try (refine ⟨by kernel_rfl, ?_⟩)))))
            refine awp_cond (b := decide ((L.length : Int) < 2 * (yN L vs : Int))) (by simp [go_sem, hq]; try omega) (fun hf => ?_) (fun hf => ?_)
            · simp only [decide_eq_true_eq] at hf
              have e3 : verd L.length (yN L vs) (nN L vs) = 1 := if_pos hf
              rw [e3]
              (repeat (first | refine awp_seq ?_ | refine awp_block ?_ | (refine awp_runG [0, 1, 4, 5, 6, 8, 9, 10, 12, 13, 16, 17, 18, 19, 20, 32, 33, 34, 35, 39, 47, 51] hX ?_; (simp [go_sem]; try (refine ⟨by kernel_rfl, ?_⟩))) | (refine awp_drawnG [0, 1, 4, 5, 6, 8, 9, 10, 12, 13, 16, 17, 18, 19, 20, 32, 33, 34, 35, 39, 47, 51] hX mixed ?_; (simp [go_sem]; try (refine ⟨by kernel_rfl, ?_⟩))) | (refine awp_ret ?_; (simp [go_sem]; try (refine ⟨by kernel_rfl, ?_⟩))) | (refine awp_skip ?_; (simp [go_sem]; try (refine ⟨by kernel_rfl, ?_⟩))) | (refine awp_exit ?_; (simp [go_sem]; try (refine ⟨by kernel_rfl, ?_⟩)))))
            · simp only [decide_eq_false_iff_not] at hf
              (repeat (first | refine awp_seq ?_ | refine awp_block ?_ | (refine awp_runG [0, 1, 4, 5, 6, 8, 9, 10, 12, 13, 16, 17, 18, 19, 20, 32, 33, 34, 35, 39, 47, 51] hX ?_; (simp [go_sem, hq]; (try simp (disch := omega) only [w64, td, tm]); try (refine ⟨by kernel_rfl, ?_⟩))) | (refine awp_drawnG [0, 1, 4, 5, 6, 8, 9, 10, 12, 13, 16, 17, 18, 19, 20, 32, 33, 34, 35, 39, 47, 51] hX mixed ?_; (simp [go_sem, hq]; (try simp (disch := omega) only [w64, td, tm]); try (refine ⟨by kernel_rfl, ?_⟩))) | (refine awp_ret ?_; (simp [go_sem, hq]; (try simp (disch := omega) only [w64, td, tm]); try (refine ⟨by kernel_rfl, ?_⟩))) | (refine awp_skip ?_; (simp [go_sem, hq]; (try simp (disch := omega) only [w64, td, tm]); try (refine ⟨by kernel_rfl, ?_⟩))) | (refine awp_exit ?_; (simp [go_sem, hq]; (try simp (disch := omega) only [w64, td, tm]); try (refine ⟨by kernel_rfl, ?_⟩)))))
              refine awp_cond (b := decide (2 * ((L.length : Int) - (nN L vs : Int)) ≤ L.length)) (by simp [go_sem, hq, hsp.2]; try omega) (fun hg => ?_) (fun hg => ?_)
              · simp only [decide_eq_true_eq] at hg
                have e3 : verd L.length (yN L vs) (nN L vs) = 2 := by unfold verd; rw [if_neg hf, if_pos hg]
                rw [e3]
                (repeat (first | refine awp_seq ?_ | refine awp_block ?_ | (refine awp_runG [0, 1, 4, 5, 6, 8, 9, 10, 12, 13, 16, 17, 18, 19, 20, 32, 33, 34, 35, 39, 47, 51] hX ?_; (simp [go_sem]; try (refine ⟨by kernel_rfl, ?_⟩))) | (refine awp_drawnG [0, 1, 4, 5, 6, 8, 9, 10, 12, 13, 16, 17, 18, 19, 20, 32, 33, 34, 35, 39, 47, 51] hX mixed ?_; (simp [go_sem]; try (refine ⟨by kernel_rfl, ?_⟩))) | (refine awp_ret ?_; (simp [go_sem]; try (refine ⟨by kernel_rfl, ?_⟩))) | (refine awp_skip ?_; (simp [go_sem]; try (refine ⟨by kernel_rfl, ?_⟩))) | (refine awp_exit ?_; (simp [go_sem]; try (refine ⟨by kernel_rfl, ?_⟩)))))
              · simp only [decide_eq_false_iff_not] at hg
                have e3 : verd L.length (yN L vs) (nN L vs) = 0 := by unfold verd; rw [if_neg hf, if_neg hg]
                rw [e3]
                (repeat (first | refine awp_seq ?_ | refine awp_block ?_ | (refine awp_runG [0, 1, 4, 5, 6, 8, 9, 10, 12, 13, 16, 17, 18, 19, 20, 32, 33, 34, 35, 39, 47, 51] hX ?_; (simp [go_sem]; try (refine ⟨by kernel_rfl, ?_⟩))) | (refine awp_drawnG [0, 1, 4, 5, 6, 8, 9, 10, 12, 13, 16, 17, 18, 19, 20, 32, 33, 34, 35, 39, 47, 51] hX mixed ?_; (simp [go_sem]; try (refine ⟨by kernel_rfl, ?_⟩))) | (refine awp_ret ?_; (simp [go_sem]; try (refine ⟨by kernel_rfl, ?_⟩))) | (refine awp_skip ?_; (simp [go_sem]; try (refine ⟨by kernel_rfl, ?_⟩))) | (refine awp_exit ?_; (simp [go_sem]; try (refine ⟨by kernel_rfl, ?_⟩)))))

theorem fst1_take {w : Int} {vs : List V} {k : Nat} (hk : k < vs.length) (h0 : ∀ v ∈ vs.take k, v.who ≠ w) (h : vs[k].who = w) : fst1 w vs = some vs[k] := by
  unfold fst1
  rw [List.find?_eq_some_iff_getElem]
  refine ⟨by simpa using h, k, hk, rfl, fun j hj => ?_⟩
  have := h0 vs[j] (List.mem_take_iff_getElem.2 ⟨j, by omega, rfl⟩)
  simpa using this
theorem yN_succ {L : List Int} {k : Nat} (h : k < L.length) (vs : List V) : yN (L.take (k + 1)) vs = yN (L.take k) vs + if yP vs L[k] then 1 else 0 := by
  unfold yN; rw [List.take_succ_eq_append_getElem h, List.countP_append]; simp
theorem nN_succ {L : List Int} {k : Nat} (h : k < L.length) (vs : List V) : nN (L.take (k + 1)) vs = nN (L.take k) vs + if nP vs L[k] then 1 else 0 := by
  unfold nN; rw [List.take_succ_eq_append_getElem h, List.countP_append]; simp

set_option maxHeartbeats 4000000 in
set_option maxRecDepth 20000 in
theorem rverdict_m (L : List Int) (hL : L.length ≤ 9223372036854775807) (vs : List V) (hv : vs.length ≤ 100000) : Means true Try.prog 13 [il L, .sl (vs.map vo)] (.tup [ii (jver L vs), ii (jerr L)]) := by
  have h60 : okM L = true → (L.length : Int) ≤ 60 := fun h => by simp [okM] at h; omega
  refine means_fn true 62 [.tmp 4, .tmp 5] Try.func13 rfl rfl rfl (by simp) (by decide) rfl fun X hX => ?_
  (repeat (first | refine awp_seq ?_ | refine awp_block ?_ | (refine awp_runG [0, 1, 4, 5, 6, 7, 8, 9, 17, 21, 27, 39, 44, 53, 61] hX ?_; (simp [go_sem]; try (refine ⟨by kernel_rfl, ?_⟩))) | (refine awp_drawnG [0, 1, 4, 5, 6, 7, 8, 9, 17, 21, 27, 39, 44, 53, 61] hX mixed ?_; (simp [go_sem]; try (refine ⟨by kernel_rfl, ?_⟩))) | (refine awp_ret ?_; (simp [go_sem]; try (refine ⟨by kernel_rfl, ?_⟩))) | (refine awp_skip ?_; (simp [go_sem]; try (refine ⟨by kernel_rfl, ?_⟩))) | (refine awp_exit ?_; (simp [go_sem]; try (refine ⟨by kernel_rfl, ?_⟩)))))
  first | refine callG_intro (fun hg => members_m L hL) rfl (by simp [go_sem]) rfl ?_ | refine callGT_intro (fun hg => members_m L hL) rfl (by simp [go_sem]) rfl ?_
  try (simp [go_sem]; try (refine ⟨by kernel_rfl, ?_⟩))
  refine awp_cond (b := !okM L) (by simp [go_sem]; rw [Bool.eq_iff_iff]; simp; by_cases ho : okM L = true <;> simp [ho]; have := h60 ho; omega) (fun hb => ?_) (fun hb => ?_)
  · have e1 : jver L vs = 0 := if_neg (by simpa using hb)
    have e2 : jerr L = 1 := if_neg (by simpa using hb)
    rw [e1, e2]
    (repeat (first | refine awp_seq ?_ | refine awp_block ?_ | (refine awp_runG [0, 1, 4, 5, 6, 7, 8, 9, 17, 21, 27, 39, 44, 53, 61] hX ?_; (simp [go_sem]; try (refine ⟨by kernel_rfl, ?_⟩))) | (refine awp_drawnG [0, 1, 4, 5, 6, 7, 8, 9, 17, 21, 27, 39, 44, 53, 61] hX mixed ?_; (simp [go_sem]; try (refine ⟨by kernel_rfl, ?_⟩))) | (refine awp_ret ?_; (simp [go_sem]; try (refine ⟨by kernel_rfl, ?_⟩))) | (refine awp_skip ?_; (simp [go_sem]; try (refine ⟨by kernel_rfl, ?_⟩))) | (refine awp_exit ?_; (simp [go_sem]; try (refine ⟨by kernel_rfl, ?_⟩)))))
  · have hok : okM L = true := by simpa using hb
    have e2 : jerr L = 0 := if_pos hok
    have e1 : jver L vs = verd L.length (yN L vs) (nN L vs) := if_pos hok
    have hl60 := h60 hok
    rw [e1, e2]
    (repeat (first | refine awp_seq ?_ | refine awp_block ?_ | (refine awp_runG [0, 1, 4, 5, 6, 7, 8, 9, 17, 21, 27, 39, 44, 53, 61] hX ?_; (simp [go_sem]; try (refine ⟨by kernel_rfl, ?_⟩))) | (refine awp_drawnG [0, 1, 4, 5, 6, 7, 8, 9, 17, 21, 27, 39, 44, 53, 61] hX mixed ?_; (simp [go_sem]; try (refine ⟨by kernel_rfl, ?_⟩))) | (refine awp_ret ?_; (simp [go_sem]; try (refine ⟨by kernel_rfl, ?_⟩))) | (refine awp_skip ?_; (simp [go_sem]; try (refine ⟨by kernel_rfl, ?_⟩))) | (refine awp_exit ?_; (simp [go_sem]; try (refine ⟨by kernel_rfl, ?_⟩)))))
    refine awp_loop (fun k : Nat => ⟨mkE [(0, il L), (1, .sl (vs.map vo)), (6, ii (yN (L.take k) vs)), (7, ii (nN (L.take k) vs)), (8, ii k)], []⟩) (fun k => k ≤ L.length) (fun k => L.length - k) 0 ?_ ?_ ?_
    · refine sub_of _ [] (by simp [go_sem, yN, nN]) ?_
      simp [go_sem, yN, nN]
    · omega
    · intro k hk
      have hle := yn_le (L.take k) vs
      rw [List.length_take] at hle
      (repeat (first | refine awp_seq ?_ | refine awp_block ?_ | (refine awp_runG [0, 1, 4, 5, 6, 7, 8, 9, 17, 21, 27, 39, 44, 53, 61] hX ?_; (simp [go_sem]; try (refine ⟨by kernel_rfl, ?_⟩))) | (refine awp_drawnG [0, 1, 4, 5, 6, 7, 8, 9, 17, 21, 27, 39, 44, 53, 61] hX mixed ?_; (simp [go_sem]; try (refine ⟨by kernel_rfl, ?_⟩))) | (refine awp_ret ?_; (simp [go_sem]; try (refine ⟨by kernel_rfl, ?_⟩))) | (refine awp_skip ?_; (simp [go_sem]; try (refine ⟨by kernel_rfl, ?_⟩))) | (refine awp_exit ?_; (simp [go_sem]; try (refine ⟨by kernel_rfl, ?_⟩)))))
      refine awp_cond (b := decide (k < L.length)) (by simp [go_sem]) (fun hc => ?_) (fun hc => ?_)
      · simp at hc
        have ey := yN_succ hc vs
        have en := nN_succ hc vs
        (repeat (first | refine awp_seq ?_ | refine awp_block ?_ | (refine awp_runG [0, 1, 4, 5, 6, 7, 8, 9, 17, 21, 27, 39, 44, 53, 61] hX ?_; (simp [go_sem, hc]; try (refine ⟨by kernel_rfl, ?_⟩))) | (refine awp_drawnG [0, 1, 4, 5, 6, 7, 8, 9, 17, 21, 27, 39, 44, 53, 61] hX mixed ?_; (simp [go_sem, hc]; try (refine ⟨by kernel_rfl, ?_⟩))) | (refine awp_ret ?_; (simp [go_sem, hc]; try (refine ⟨by kernel_rfl, ?_⟩))) | (refine awp_skip ?_; (simp [go_sem, hc]; try (refine ⟨by kernel_rfl, ?_⟩))) | (refine awp_exit ?_; (simp [go_sem, hc]; try (refine ⟨by kernel_rfl, ?_⟩)))))
        refine awp_loop (fun j : Nat => ⟨mkE [(0, il L), (1, .sl (vs.map vo)), (6, ii (yN (L.take k) vs)), (7, ii (nN (L.take k) vs)), (8, ii k), (9, ii j)], []⟩) (fun j => j ≤ vs.length ∧ ∀ v ∈ vs.take j, v.who ≠ L[k]) (fun j => vs.length - j) 0 ?_ ?_ ?_
        · refine sub_of _ [] (by simp [go_sem]) ?_
          simp [go_sem]
        · simp
        · rintro j ⟨hj, h0⟩
          (repeat (first | refine awp_seq ?_ | refine awp_block ?_ | (refine awp_runG [0, 1, 4, 5, 6, 7, 8, 9, 17, 21, 27, 39, 44, 53, 61] hX ?_; (simp [go_sem]; try (refine ⟨by kernel_rfl, ?_⟩))) | (refine awp_drawnG [0, 1, 4, 5, 6, 7, 8, 9, 17, 21, 27, 39, 44, 53, 61] hX mixed ?_; (simp [go_sem]; try (refine ⟨by kernel_rfl, ?_⟩))) | (refine awp_ret ?_; (simp [go_sem]; try (refine ⟨by kernel_rfl, ?_⟩))) | (refine awp_skip ?_; (simp [go_sem]; try (refine ⟨by kernel_rfl, ?_⟩))) | (refine awp_exit ?_; (simp [go_sem]; try (refine ⟨by kernel_rfl, ?_⟩)))))
          refine awp_cond (b := decide (j < vs.length)) (by simp [go_sem]) (fun hd => ?_) (fun hd => ?_)
          · simp at hd
            (repeat (first | refine awp_seq ?_ | refine awp_block ?_ | (refine awp_runG [0, 1, 4, 5, 6, 7, 8, 9, 17, 21, 27, 39, 44, 53, 61] hX ?_; (simp [go_sem, hc, hd]; try (refine ⟨by kernel_rfl, ?_⟩))) | (refine awp_drawnG [0, 1, 4, 5, 6, 7, 8, 9, 17, 21, 27, 39, 44, 53, 61] hX mixed ?_; (simp [go_sem, hc, hd]; try (refine ⟨by kernel_rfl, ?_⟩))) | (refine awp_ret ?_; (simp [go_sem, hc, hd]; try (refine ⟨by kernel_rfl, ?_⟩))) | (refine awp_skip ?_; (simp [go_sem, hc, hd]; try (refine ⟨by kernel_rfl, ?_⟩))) | (refine awp_exit ?_; (simp [go_sem, hc, hd]; try (refine ⟨by kernel_rfl, ?_⟩)))))
            refine awp_cond (b := decide (vs[j].who ≠ L[k])) (by simp [go_sem]) (fun he => ?_) (fun he => ?_)
            · simp only [decide_eq_true_eq] at he
              (repeat (first | refine awp_seq ?_ | refine awp_block ?_ | (refine awp_runG [0, 1, 4, 5, 6, 7, 8, 9, 17, 21, 27, 39, 44, 53, 61] hX ?_; (simp [go_sem]; (try simp (disch := omega) only [w64, td, tm]); try (refine ⟨by kernel_rfl, ?_⟩))) | (refine awp_drawnG [0, 1, 4, 5, 6, 7, 8, 9, 17, 21, 27, 39, 44, 53, 61] hX mixed ?_; (simp [go_sem]; (try simp (disch := omega) only [w64, td, tm]); try (refine ⟨by kernel_rfl, ?_⟩))) | (refine awp_ret ?_; (simp [go_sem]; (try simp (disch := omega) only [w64, td, tm]); try (refine ⟨by kernel_rfl, ?_⟩))) | (refine awp_skip ?_; (simp [go_sem]; (try simp (disch := omega) only [w64, td, tm]); try (refine ⟨by kernel_rfl, ?_⟩))) | (refine awp_exit ?_; (simp [go_sem]; (try simp (disch := omega) only [w64, td, tm]); try (refine ⟨by kernel_rfl, ?_⟩)))))
              refine ⟨j + 1, ⟨by omega, fun v hv => ?_⟩, by omega, ?_⟩
              · rw [List.take_succ_eq_append_getElem hd, List.mem_append, List.mem_singleton] at hv
                rcases hv with hv | rfl
                · exact h0 v hv
                · exact he
              · refine sub_of _ [] (by simp [go_sem]) ?_
                simp [go_sem]
            · simp only [ne_eq, decide_not, Bool.not_eq_false', decide_eq_true_eq] at he
              have hf := fst1_take hd h0 he
              (repeat (first | refine awp_seq ?_ | refine awp_block ?_ | (refine awp_runG [0, 1, 4, 5, 6, 7, 8, 9, 17, 21, 27, 39, 44, 53, 61] hX ?_; (simp [go_sem, hd]; try (refine ⟨by kernel_rfl, ?_⟩))) | (refine awp_drawnG [0, 1, 4, 5, 6, 7, 8, 9, 17, 21, 27, 39, 44, 53, 61] hX mixed ?_; (simp [go_sem, hd]; try (refine ⟨by kernel_rfl, ?_⟩))) | (refine awp_ret ?_; (simp [go_sem, hd]; try (refine ⟨by kernel_rfl, ?_⟩))) | (refine awp_skip ?_; (simp [go_sem, hd]; try (refine ⟨by kernel_rfl, ?_⟩))) | (refine awp_exit ?_; (simp [go_sem, hd]; try (refine ⟨by kernel_rfl, ?_⟩)))))
              refine awp_cond (b := vs[j].yes) (by simp [go_sem]) (fun hy => ?_) (fun hy => ?_)
              · have e3 : yP vs L[k] = true := by simp [yP, hf, hy]
                have e4 : nP vs L[k] = false := by simp [nP, hf, hy]
                rw [e3, if_pos rfl] at ey
                rw [e4, if_neg (by simp)] at en
                (repeat (first | refine awp_seq ?_ | refine awp_block ?_ | (refine awp_runG [0, 1, 4, 5, 6, 7, 8, 9, 17, 21, 27, 39, 44, 53, 61] hX ?_; (simp [go_sem]; (try simp (disch := omega) only [w64, td, tm]); try (refine ⟨by kernel_rfl, ?_⟩))) | (refine awp_drawnG [0, 1, 4, 5, 6, 7, 8, 9, 17, 21, 27, 39, 44, 53, 61] hX mixed ?_; (simp [go_sem]; (try simp (disch := omega) only [w64, td, tm]); try (refine ⟨by kernel_rfl, ?_⟩))) | (refine awp_ret ?_; (simp [go_sem]; (try simp (disch := omega) only [w64, td, tm]); try (refine ⟨by kernel_rfl, ?_⟩))) | (refine awp_skip ?_; (simp [go_sem]; (try simp (disch := omega) only [w64, td, tm]); try (refine ⟨by kernel_rfl, ?_⟩))) | (refine awp_exit ?_; (simp [go_sem]; (try simp (disch := omega) only [w64, td, tm]); try (refine ⟨by kernel_rfl, ?_⟩)))))
                refine ⟨k + 1, by omega, by omega, ?_⟩
                rw [ey, en]
                refine sub_of _ [] (by simp [go_sem]) ?_
                simp [go_sem]
              · have e3 : yP vs L[k] = false := by simp [yP, hf, hy]
                have e4 : nP vs L[k] = true := by simp [nP, hf, hy]
                rw [e3, if_neg (by simp)] at ey
                rw [e4, if_pos rfl] at en
                (repeat (first | refine awp_seq ?_ | refine awp_block ?_ | (refine awp_runG [0, 1, 4, 5, 6, 7, 8, 9, 17, 21, 27, 39, 44, 53, 61] hX ?_; (simp [go_sem]; (try simp (disch := omega) only [w64, td, tm]); try (refine ⟨by kernel_rfl, ?_⟩))) | (refine awp_drawnG [0, 1, 4, 5, 6, 7, 8, 9, 17, 21, 27, 39, 44, 53, 61] hX mixed ?_; (simp [go_sem]; (try simp (disch := omega) only [w64, td, tm]); try (refine ⟨by kernel_rfl, ?_⟩))) | (refine awp_ret ?_; (simp [go_sem]; (try simp (disch := omega) only [w64, td, tm]); try (refine ⟨by kernel_rfl, ?_⟩))) | (refine awp_skip ?_; (simp [go_sem]; (try simp (disch := omega) only [w64, td, tm]); try (refine ⟨by kernel_rfl, ?_⟩))) | (refine awp_exit ?_; (simp [go_sem]; (try simp (disch := omega) only [w64, td, tm]); try (refine ⟨by kernel_rfl, ?_⟩)))))
                refine ⟨k + 1, by omega, by omega, ?_⟩
                rw [ey, en]
                refine sub_of _ [] (by simp [go_sem]) ?_
                simp [go_sem]
          · have hjl : j = vs.length := by simp at hd; omega
            subst hjl
            rw [List.take_length] at h0
            have hf : fst1 L[k] vs = none := fst1_none.2 fun hm => by
              obtain ⟨v, hv, e⟩ := List.mem_map.1 hm
              exact h0 v hv e
            have e3 : yP vs L[k] = false := by simp [yP, hf]
            have e4 : nP vs L[k] = false := by simp [nP, hf]
            rw [e3, if_neg (by simp)] at ey
            rw [e4, if_neg (by simp)] at en
            (repeat (first | refine awp_seq ?_ | refine awp_block ?_ | (refine awp_runG [0, 1, 4, 5, 6, 7, 8, 9, 17, 21, 27, 39, 44, 53, 61] hX ?_; (simp [go_sem]; (try simp (disch := omega) only [w64, td, tm]); try (refine ⟨by kernel_rfl, ?_⟩))) | (refine awp_drawnG [0, 1, 4, 5, 6, 7, 8, 9, 17, 21, 27, 39, 44, 53, 61] hX mixed ?_; (simp [go_sem]; (try simp (disch := omega) only [w64, td, tm]); try (refine ⟨by kernel_rfl, ?_⟩))) | (refine awp_ret ?_; (simp [go_sem]; (try simp (disch := omega) only [w64, td, tm]); try (refine ⟨by kernel_rfl, ?_⟩))) | (refine awp_skip ?_; (simp [go_sem]; (try simp (disch := omega) only [w64, td, tm]); try (refine ⟨by kernel_rfl, ?_⟩))) | (refine awp_exit ?_; (simp [go_sem]; (try simp (disch := omega) only [w64, td, tm]); try (refine ⟨by kernel_rfl, ?_⟩)))))
            refine ⟨k + 1, by omega, by omega, ?_⟩
            rw [ey, en]
            refine sub_of _ [] (by simp [go_sem]) ?_
            simp [go_sem]
      · have hkl : k = L.length := by simp at hc; omega
        subst hkl
        rw [List.take_length] at hle ⊢
        have hle2 := yn_le L vs
        (repeat (first | refine awp_seq ?_ | refine awp_block ?_ | (refine awp_runG [0, 1, 4, 5, 6, 7, 8, 9, 17, 21, 27, 39, 44, 53, 61] hX ?_; (simp [go_sem]; (try simp (disch := omega) only [w64, td, tm]); try (refine ⟨by kernel_rfl, ?_⟩))) | (refine awp_drawnG [0, 1, 4, 5, 6, 7, 8, 9, 17, 21, 27, 39, 44, 53, 61] hX mixed ?_; (simp [go_sem]; (try simp (disch := omega) only [w64, td, tm]); try (refine ⟨by kernel_rfl, ?_⟩))) | (refine awp_ret ?_; (simp [go_sem]; (try simp (disch := omega) only [w64, td, tm]); try (refine ⟨by kernel_rfl, ?_⟩))) | (refine awp_skip ?_; (simp [go_sem]; (try simp (disch := omega) only [w64, td, tm]); try (refine ⟨by kernel_rfl, ?_⟩))) | (refine awp_exit ?_; (simp [go_sem]; (try simp (disch := omega) only [w64, td, tm]); try (refine ⟨by kernel_rfl, ?_⟩)))))
        refine awp_cond (b := decide ((L.length : Int) < 2 * (yN L vs : Int))) (by simp [go_sem]; try omega) (fun hf => ?_) (fun hf => ?_)
        · simp only [decide_eq_true_eq] at hf
          have e3 : verd L.length (yN L vs) (nN L vs) = 1 := if_pos hf
          rw [e3]
          (repeat (first | refine awp_seq ?_ | refine awp_block ?_ | (refine awp_runG [0, 1, 4, 5, 6, 7, 8, 9, 17, 21, 27, 39, 44, 53, 61] hX ?_; (simp [go_sem]; try (refine ⟨by kernel_rfl, ?_⟩))) | (refine awp_drawnG [0, 1, 4, 5, 6, 7, 8, 9, 17, 21, 27, 39, 44, 53, 61] hX mixed ?_; (simp [go_sem]; try (refine ⟨by kernel_rfl, ?_⟩))) | (refine awp_ret ?_; (simp [go_sem]; try (refine ⟨by kernel_rfl, ?_⟩))) | (refine awp_skip ?_; (simp [go_sem]; try (refine ⟨by kernel_rfl, ?_⟩))) | (refine awp_exit ?_; (simp [go_sem]; try (refine ⟨by kernel_rfl, ?_⟩)))))
        · simp only [decide_eq_false_iff_not] at hf
          (repeat (first | refine awp_seq ?_ | refine awp_block ?_ | (refine awp_runG [0, 1, 4, 5, 6, 7, 8, 9, 17, 21, 27, 39, 44, 53, 61] hX ?_; (simp [go_sem]; (try simp (disch := omega) only [w64, td, tm]); try (refine ⟨by kernel_rfl, ?_⟩))) | (refine awp_drawnG [0, 1, 4, 5, 6, 7, 8, 9, 17, 21, 27, 39, 44, 53, 61] hX mixed ?_; (simp [go_sem]; (try simp (disch := omega) only [w64, td, tm]); try (refine ⟨by kernel_rfl, ?_⟩))) | (refine awp_ret ?_; (simp [go_sem]; (try simp (disch := omega) only [w64, td, tm]); try (refine ⟨by kernel_rfl, ?_⟩))) | (refine awp_skip ?_; (simp [go_sem]; (try simp (disch := omega) only [w64, td, tm]); try (refine ⟨by kernel_rfl, ?_⟩))) | (refine awp_exit ?_; (simp [go_sem]; (try simp (disch := omega) only [w64, td, tm]); try (refine ⟨by kernel_rfl, ?_⟩)))))
          refine awp_cond (b := decide (2 * ((L.length : Int) - (nN L vs : Int)) ≤ L.length)) (by simp [go_sem]; try omega) (fun hg => ?_) (fun hg => ?_)
          · simp only [decide_eq_true_eq] at hg
            have e3 : verd L.length (yN L vs) (nN L vs) = 2 := by unfold verd; rw [if_neg hf, if_pos hg]
            rw [e3]
            (repeat (first | refine awp_seq ?_ | refine awp_block ?_ | (refine awp_runG [0, 1, 4, 5, 6, 7, 8, 9, 17, 21, 27, 39, 44, 53, 61] hX ?_; (simp [go_sem]; try (refine ⟨by kernel_rfl, ?_⟩))) | (refine awp_drawnG [0, 1, 4, 5, 6, 7, 8, 9, 17, 21, 27, 39, 44, 53, 61] hX mixed ?_; (simp [go_sem]; try (refine ⟨by kernel_rfl, ?_⟩))) | (refine awp_ret ?_; (simp [go_sem]; try (refine ⟨by kernel_rfl, ?_⟩))) | (refine awp_skip ?_; (simp [go_sem]; try (refine ⟨by kernel_rfl, ?_⟩))) | (refine awp_exit ?_; (simp [go_sem]; try (refine ⟨by kernel_rfl, ?_⟩)))))
          · simp only [decide_eq_false_iff_not] at hg
            have e3 : verd L.length (yN L vs) (nN L vs) = 0 := by unfold verd; rw [if_neg hf, if_neg hg]
            rw [e3]
            (repeat (first | refine awp_seq ?_ | refine awp_block ?_ | (refine awp_runG [0, 1, 4, 5, 6, 7, 8, 9, 17, 21, 27, 39, 44, 53, 61] hX ?_; (simp [go_sem]; try (refine ⟨by kernel_rfl, ?_⟩))) | (refine awp_drawnG [0, 1, 4, 5, 6, 7, 8, 9, 17, 21, 27, 39, 44, 53, 61] hX mixed ?_; (simp [go_sem]; try (refine ⟨by kernel_rfl, ?_⟩))) | (refine awp_ret ?_; (simp [go_sem]; try (refine ⟨by kernel_rfl, ?_⟩))) | (refine awp_skip ?_; (simp [go_sem]; try (refine ⟨by kernel_rfl, ?_⟩))) | (refine awp_exit ?_; (simp [go_sem]; try (refine ⟨by kernel_rfl, ?_⟩)))))

end Go.Proofs.Ytflcmfeafiippaa
