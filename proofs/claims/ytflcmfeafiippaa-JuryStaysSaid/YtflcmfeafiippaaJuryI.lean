/-
  Layer 35: the laws JuryStays, JuryMajority.
-/
import Derived.Test.YtflcmfeafiippaaJuryQ
set_option linter.all false
namespace Go.Proofs.Ytflcmfeafiippaa
open Go.RowKit Go.Ab
attribute [local irreducible] AWP Go.Ab.Sub Means MeansH CallK CallG CallT CallGT

@[go_sem] theorem nth_bb {L : List Bool} {k : Nat} (h : k < L.length) : nth (L.map bb) k = bb L[k] := nth_map bb h

set_option maxHeartbeats 16000000 in
set_option maxRecDepth 20000 in
theorem juryStays_m (L : List Int) (hL : L.length ≤ 9223372036854775807) (vs : List V) (hv : vs.length ≤ 9223372036854775807) (ms : List V) (hm : ms.length ≤ 9223372036854775807) :
    Means true Try.prog 5 [il L, .sl (vs.map vo), .sl (ms.map vo)] (bb true) := by
  refine means_fn true 138 [.tmp 6] Try.func5 rfl rfl rfl (by simp) (by decide) rfl fun X hX => ?_
  (repeat (first | refine awp_seq ?_ | refine awp_block ?_ | (refine awp_runG [0, 1, 2, 6, 7, 8, 9, 10, 11, 12, 13, 14, 15, 16, 17, 36, 58, 78] hX ?_; (simp [go_sem]; try (refine ⟨by kernel_rfl, ?_⟩))) | (refine awp_drawnG [0, 1, 2, 6, 7, 8, 9, 10, 11, 12, 13, 14, 15, 16, 17, 36, 58, 78] hX mixed ?_; (simp [go_sem]; try (refine ⟨by kernel_rfl, ?_⟩))) | (refine awp_ret ?_; (simp [go_sem]; try (refine ⟨by kernel_rfl, ?_⟩))) | (refine awp_skip ?_; (simp [go_sem]; try (refine ⟨by kernel_rfl, ?_⟩))) | (refine awp_exit ?_; (simp [go_sem]; try (refine ⟨by kernel_rfl, ?_⟩)))))
  first | refine callK_intro (small_m) rfl (by simp [go_sem]) rfl ?_ | refine callT_intro (small_m) rfl (by simp [go_sem]) rfl ?_
  try (simp [go_sem]; try (refine ⟨by kernel_rfl, ?_⟩))
  (repeat (first | refine awp_seq ?_ | refine awp_block ?_ | (refine awp_runG [0, 1, 2, 6, 7, 8, 9, 10, 11, 12, 13, 14, 15, 16, 17, 36, 58, 78] hX ?_; (simp [go_sem]; try (refine ⟨by kernel_rfl, ?_⟩))) | (refine awp_drawnG [0, 1, 2, 6, 7, 8, 9, 10, 11, 12, 13, 14, 15, 16, 17, 36, 58, 78] hX mixed ?_; (simp [go_sem]; try (refine ⟨by kernel_rfl, ?_⟩))) | (refine awp_ret ?_; (simp [go_sem]; try (refine ⟨by kernel_rfl, ?_⟩))) | (refine awp_skip ?_; (simp [go_sem]; try (refine ⟨by kernel_rfl, ?_⟩))) | (refine awp_exit ?_; (simp [go_sem]; try (refine ⟨by kernel_rfl, ?_⟩)))))
  first | refine callG_intro (fun hg => members_m L hL) rfl (by simp [go_sem]) rfl ?_ | refine callGT_intro (fun hg => members_m L hL) rfl (by simp [go_sem]) rfl ?_
  try (simp [go_sem]; try (refine ⟨by kernel_rfl, ?_⟩))
  refine awp_cond (b := decide (60 < (L.length : Int)) || decide (40 < (vs.length : Int)) || decide (40 < (ms.length : Int)) || !okM L) (by simp [go_sem, Bool.or_assoc]) (fun hb => ?_) (fun hb => ?_)
  · (repeat (first | refine awp_seq ?_ | refine awp_block ?_ | (refine awp_runG [0, 1, 2, 6, 7, 8, 9, 10, 11, 12, 13, 14, 15, 16, 17, 36, 58, 78] hX ?_; (simp [go_sem]; try (refine ⟨by kernel_rfl, ?_⟩))) | (refine awp_drawnG [0, 1, 2, 6, 7, 8, 9, 10, 11, 12, 13, 14, 15, 16, 17, 36, 58, 78] hX mixed ?_; (simp [go_sem]; try (refine ⟨by kernel_rfl, ?_⟩))) | (refine awp_ret ?_; (simp [go_sem]; try (refine ⟨by kernel_rfl, ?_⟩))) | (refine awp_skip ?_; (simp [go_sem]; try (refine ⟨by kernel_rfl, ?_⟩))) | (refine awp_exit ?_; (simp [go_sem]; try (refine ⟨by kernel_rfl, ?_⟩)))))
  simp at hb
  obtain ⟨⟨⟨b1, b2⟩, b3⟩, hok⟩ := hb
  obtain ⟨m0, m1, hnd, hrg⟩ := okM_spec hok
  have e0 : jerr L = 0 := if_pos hok
  have ja : ∀ t : List V, jver L t = verd L.length (yN L t) (nN L t) := fun t => if_pos hok
  have v1 := verdict_m L hL vs (by omega)
  have v2 := verdict_m L hL (vs ++ ms) (by simp; omega)
  rw [e0] at v1 v2
  have hst : jver L vs = 0 ∨ jver L (vs ++ ms) = jver L vs := by
    by_cases h : jver L vs = 0
    · exact .inl h
    · rw [ja] at h
      rw [ja, ja]
      exact .inr (verd_stays h)
  obtain ⟨u, hu⟩ : ∃ u, late vs = u := ⟨_, rfl⟩
  have hdays : ∀ v ∈ vs, v.day ≤ u := fun v h => by rw [← hu]; exact (late_ge vs 0).2 v h
  have hcl := cnt_clean L u vs
  have hsp := cnt_split (u := u) hnd hdays ⟨fun v hv => (hcl.1 v hv).2, hcl.2⟩
  have hfc := fst_cnt (L := L) hdays
  have hclen := cnt_len L u vs
  have hv3 := verdict_m L hL (cnt L u vs) (by omega)
  have hsame : jver L (cnt L u vs) = jver L vs := by rw [ja, ja, hfc.1, hfc.2]
  rw [hsame, e0] at hv3
  have hfin : (cnt L u vs).length < L.length ∨ jver L vs ≠ 0 := by
    rw [ja]
    rcases Nat.lt_or_ge (cnt L u vs).length L.length with h | h
    · exact .inl h
    · right
      have := yn_le L vs
      rw [verd_all (by omega)]
      split <;> decide
  have hv2' : Means true Try.prog 12 [il L, .sl (vs.map vo ++ ms.map vo)] (.tup [ii (jver L (vs ++ ms)), ii 0]) := by
    simpa only [List.map_append] using v2
  generalize jver L vs = a at *
  generalize jver L (vs ++ ms) = b at *
  (repeat (first | refine awp_seq ?_ | refine awp_block ?_ | (refine awp_runG [0, 1, 2, 6, 7, 8, 9, 10, 11, 12, 13, 14, 15, 16, 17, 36, 58, 78] hX ?_; (simp [go_sem]; try (refine ⟨by kernel_rfl, ?_⟩))) | (refine awp_drawnG [0, 1, 2, 6, 7, 8, 9, 10, 11, 12, 13, 14, 15, 16, 17, 36, 58, 78] hX mixed ?_; (simp [go_sem]; try (refine ⟨by kernel_rfl, ?_⟩))) | (refine awp_ret ?_; (simp [go_sem]; try (refine ⟨by kernel_rfl, ?_⟩))) | (refine awp_skip ?_; (simp [go_sem]; try (refine ⟨by kernel_rfl, ?_⟩))) | (refine awp_exit ?_; (simp [go_sem]; try (refine ⟨by kernel_rfl, ?_⟩)))))
  (repeat refine And.intro (by first | omega | (unfold maxLen; omega) | kernel_rfl | (refine ⟨by first | omega | (unfold maxLen; omega), by first | omega | (unfold maxLen; omega)⟩) | grind) ?_)
  (repeat (first | refine awp_seq ?_ | refine awp_block ?_ | (refine awp_runG [0, 1, 2, 6, 7, 8, 9, 10, 11, 12, 13, 14, 15, 16, 17, 36, 58, 78] hX ?_; (simp [go_sem]; try (refine ⟨by kernel_rfl, ?_⟩))) | (refine awp_drawnG [0, 1, 2, 6, 7, 8, 9, 10, 11, 12, 13, 14, 15, 16, 17, 36, 58, 78] hX mixed ?_; (simp [go_sem]; try (refine ⟨by kernel_rfl, ?_⟩))) | (refine awp_ret ?_; (simp [go_sem]; try (refine ⟨by kernel_rfl, ?_⟩))) | (refine awp_skip ?_; (simp [go_sem]; try (refine ⟨by kernel_rfl, ?_⟩))) | (refine awp_exit ?_; (simp [go_sem]; try (refine ⟨by kernel_rfl, ?_⟩)))))
  (repeat refine And.intro (by first | omega | (unfold maxLen; omega) | kernel_rfl | (refine ⟨by first | omega | (unfold maxLen; omega), by first | omega | (unfold maxLen; omega)⟩) | grind) ?_)
  (repeat (first | refine awp_seq ?_ | refine awp_block ?_ | (refine awp_runG [0, 1, 2, 6, 7, 8, 9, 10, 11, 12, 13, 14, 15, 16, 17, 36, 58, 78] hX ?_; (simp [go_sem]; try (refine ⟨by kernel_rfl, ?_⟩))) | (refine awp_drawnG [0, 1, 2, 6, 7, 8, 9, 10, 11, 12, 13, 14, 15, 16, 17, 36, 58, 78] hX mixed ?_; (simp [go_sem]; try (refine ⟨by kernel_rfl, ?_⟩))) | (refine awp_ret ?_; (simp [go_sem]; try (refine ⟨by kernel_rfl, ?_⟩))) | (refine awp_skip ?_; (simp [go_sem]; try (refine ⟨by kernel_rfl, ?_⟩))) | (refine awp_exit ?_; (simp [go_sem]; try (refine ⟨by kernel_rfl, ?_⟩)))))
  first | refine callK_intro (v1) rfl (by simp [go_sem]) rfl ?_ | refine callT_intro (v1) rfl (by simp [go_sem]) rfl ?_
  try (simp [go_sem]; try (refine ⟨by kernel_rfl, ?_⟩))
  (repeat (first | refine awp_seq ?_ | refine awp_block ?_ | (refine awp_runG [0, 1, 2, 6, 7, 8, 9, 10, 11, 12, 13, 14, 15, 16, 17, 36, 58, 78] hX ?_; (simp [go_sem]; try (refine ⟨by kernel_rfl, ?_⟩))) | (refine awp_drawnG [0, 1, 2, 6, 7, 8, 9, 10, 11, 12, 13, 14, 15, 16, 17, 36, 58, 78] hX mixed ?_; (simp [go_sem]; try (refine ⟨by kernel_rfl, ?_⟩))) | (refine awp_ret ?_; (simp [go_sem]; try (refine ⟨by kernel_rfl, ?_⟩))) | (refine awp_skip ?_; (simp [go_sem]; try (refine ⟨by kernel_rfl, ?_⟩))) | (refine awp_exit ?_; (simp [go_sem]; try (refine ⟨by kernel_rfl, ?_⟩)))))
  first | refine callK_intro (hv2') rfl (by simp [go_sem]) rfl ?_ | refine callT_intro (hv2') rfl (by simp [go_sem]) rfl ?_
  try (simp [go_sem]; try (refine ⟨by kernel_rfl, ?_⟩))
  (repeat (first | refine awp_seq ?_ | refine awp_block ?_ | (refine awp_runG [0, 1, 2, 6, 7, 8, 9, 10, 11, 12, 13, 14, 15, 16, 17, 36, 58, 78] hX ?_; (simp [go_sem]; try (refine ⟨by kernel_rfl, ?_⟩))) | (refine awp_drawnG [0, 1, 2, 6, 7, 8, 9, 10, 11, 12, 13, 14, 15, 16, 17, 36, 58, 78] hX mixed ?_; (simp [go_sem]; try (refine ⟨by kernel_rfl, ?_⟩))) | (refine awp_ret ?_; (simp [go_sem]; try (refine ⟨by kernel_rfl, ?_⟩))) | (refine awp_skip ?_; (simp [go_sem]; try (refine ⟨by kernel_rfl, ?_⟩))) | (refine awp_exit ?_; (simp [go_sem]; try (refine ⟨by kernel_rfl, ?_⟩)))))
  refine awp_loop (fun k : Nat => ⟨mkE [(0, il L), (1, .sl (vs.map vo)), (7, bb true), (9, ii a), (10, ii 0), (11, ii b), (12, ii 0), (13, .ow 0), (14, .ow 1), (15, ii k)], [.row ⟨38, 4, (cnt L u (vs.take k)).map vo⟩, rowI ((cnt L u (vs.take k)).map V.who)]⟩) (fun k => k ≤ vs.length) (fun k => vs.length - k) 0 ?_ ?_ ?_
  · refine sub_of _ [.birth 38 4, .birth 3 1] (by simp [go_sem, cnt]) ?_
    simp [go_sem, cnt]
  · omega
  · intro k hk
    have hcl2 := cnt_len L u (vs.take k)
    rw [List.length_take] at hcl2
    (repeat (first | refine awp_seq ?_ | refine awp_block ?_ | (refine awp_runG [0, 1, 2, 6, 7, 8, 9, 10, 11, 12, 13, 14, 15, 16, 17, 36, 58, 78] hX ?_; (simp [go_sem]; try (refine ⟨by kernel_rfl, ?_⟩))) | (refine awp_drawnG [0, 1, 2, 6, 7, 8, 9, 10, 11, 12, 13, 14, 15, 16, 17, 36, 58, 78] hX mixed ?_; (simp [go_sem]; try (refine ⟨by kernel_rfl, ?_⟩))) | (refine awp_ret ?_; (simp [go_sem]; try (refine ⟨by kernel_rfl, ?_⟩))) | (refine awp_skip ?_; (simp [go_sem]; try (refine ⟨by kernel_rfl, ?_⟩))) | (refine awp_exit ?_; (simp [go_sem]; try (refine ⟨by kernel_rfl, ?_⟩)))))
    refine awp_cond (b := decide (k < vs.length)) (by simp [go_sem]) (fun hc => ?_) (fun hc => ?_)
    · simp at hc
      have hday := hdays vs[k] (List.getElem_mem hc)
      have hnlt : ¬ u < vs[k].day := by omega
      have hat := at_m ((cnt L u (vs.take k)).map V.who) (by simp; omega) vs[k].who
      have hat2 : Means true Try.prog 16 [.sl ((cnt L u (vs.take k)).map (ii ∘ V.who)), ii vs[k].who] (ii (idx ((cnt L u (vs.take k)).map V.who) vs[k].who)) := by
        simpa only [il, List.map_map] using hat
      (repeat (first | refine awp_seq ?_ | refine awp_block ?_ | (refine awp_runG [0, 1, 2, 6, 7, 8, 9, 10, 11, 12, 13, 14, 15, 16, 17, 36, 58, 78] hX ?_; (simp [go_sem, hc]; try (refine ⟨by kernel_rfl, ?_⟩))) | (refine awp_drawnG [0, 1, 2, 6, 7, 8, 9, 10, 11, 12, 13, 14, 15, 16, 17, 36, 58, 78] hX mixed ?_; (simp [go_sem, hc]; try (refine ⟨by kernel_rfl, ?_⟩))) | (refine awp_ret ?_; (simp [go_sem, hc]; try (refine ⟨by kernel_rfl, ?_⟩))) | (refine awp_skip ?_; (simp [go_sem, hc]; try (refine ⟨by kernel_rfl, ?_⟩))) | (refine awp_exit ?_; (simp [go_sem, hc]; try (refine ⟨by kernel_rfl, ?_⟩)))))
      first | refine callK_intro (at_m L hL vs[k].who) rfl (by simp [go_sem]) rfl ?_ | refine callT_intro (at_m L hL vs[k].who) rfl (by simp [go_sem]) rfl ?_
      try (simp [go_sem, hc, idx_nonneg]; try (refine ⟨by kernel_rfl, ?_⟩))
      first | refine callG_intro (fun hg => hat2) rfl (by simp [go_sem]) rfl ?_ | refine callGT_intro (fun hg => hat2) rfl (by simp [go_sem]) rfl ?_
      try (simp [go_sem, hc, idx_nonneg, idx_neg]; try (refine ⟨by kernel_rfl, ?_⟩))
      refine awp_cond (b := !skips L u (cnt L u (vs.take k)) vs[k]) (by simp [go_sem, skips, spoke, idx_nonneg, idx_neg, hnlt]; try (rw [Bool.eq_iff_iff]; simp; try grind)) (fun hd => ?_) (fun hd => ?_)
      · have hd2 : skips L u (cnt L u (vs.take k)) vs[k] = false := by simpa using hd
        have e : cnt L u (vs.take (k + 1)) = cnt L u (vs.take k) ++ [vs[k]] := by simp [cnt_succ hc, cstep, hd2]
        (repeat (first | refine awp_seq ?_ | refine awp_block ?_ | (refine awp_runG [0, 1, 2, 6, 7, 8, 9, 10, 11, 12, 13, 14, 15, 16, 17, 36, 58, 78] hX ?_; (simp [go_sem, hc]; try (refine ⟨by kernel_rfl, ?_⟩))) | (refine awp_drawnG [0, 1, 2, 6, 7, 8, 9, 10, 11, 12, 13, 14, 15, 16, 17, 36, 58, 78] hX mixed ?_; (simp [go_sem, hc]; try (refine ⟨by kernel_rfl, ?_⟩))) | (refine awp_ret ?_; (simp [go_sem, hc]; try (refine ⟨by kernel_rfl, ?_⟩))) | (refine awp_skip ?_; (simp [go_sem, hc]; try (refine ⟨by kernel_rfl, ?_⟩))) | (refine awp_exit ?_; (simp [go_sem, hc]; try (refine ⟨by kernel_rfl, ?_⟩)))))
        (repeat refine And.intro (by first | omega | (unfold maxLen; omega) | kernel_rfl | (refine ⟨by first | omega | (unfold maxLen; omega), by first | omega | (unfold maxLen; omega)⟩) | grind) ?_)
        (repeat (first | refine awp_seq ?_ | refine awp_block ?_ | (refine awp_runG [0, 1, 2, 6, 7, 8, 9, 10, 11, 12, 13, 14, 15, 16, 17, 36, 58, 78] hX ?_; (simp [go_sem, hc]; try (refine ⟨by kernel_rfl, ?_⟩))) | (refine awp_drawnG [0, 1, 2, 6, 7, 8, 9, 10, 11, 12, 13, 14, 15, 16, 17, 36, 58, 78] hX mixed ?_; (simp [go_sem, hc]; try (refine ⟨by kernel_rfl, ?_⟩))) | (refine awp_ret ?_; (simp [go_sem, hc]; try (refine ⟨by kernel_rfl, ?_⟩))) | (refine awp_skip ?_; (simp [go_sem, hc]; try (refine ⟨by kernel_rfl, ?_⟩))) | (refine awp_exit ?_; (simp [go_sem, hc]; try (refine ⟨by kernel_rfl, ?_⟩)))))
        (repeat refine And.intro (by first | omega | (unfold maxLen; omega) | kernel_rfl | (refine ⟨by first | omega | (unfold maxLen; omega), by first | omega | (unfold maxLen; omega)⟩) | grind) ?_)
        (repeat (first | refine awp_seq ?_ | refine awp_block ?_ | (refine awp_runG [0, 1, 2, 6, 7, 8, 9, 10, 11, 12, 13, 14, 15, 16, 17, 36, 58, 78] hX ?_; (simp [go_sem, hc]; (try simp (disch := omega) only [w64, td, tm]); try (refine ⟨by kernel_rfl, ?_⟩))) | (refine awp_drawnG [0, 1, 2, 6, 7, 8, 9, 10, 11, 12, 13, 14, 15, 16, 17, 36, 58, 78] hX mixed ?_; (simp [go_sem, hc]; (try simp (disch := omega) only [w64, td, tm]); try (refine ⟨by kernel_rfl, ?_⟩))) | (refine awp_ret ?_; (simp [go_sem, hc]; (try simp (disch := omega) only [w64, td, tm]); try (refine ⟨by kernel_rfl, ?_⟩))) | (refine awp_skip ?_; (simp [go_sem, hc]; (try simp (disch := omega) only [w64, td, tm]); try (refine ⟨by kernel_rfl, ?_⟩))) | (refine awp_exit ?_; (simp [go_sem, hc]; (try simp (disch := omega) only [w64, td, tm]); try (refine ⟨by kernel_rfl, ?_⟩)))))
        refine ⟨k + 1, by omega, by omega, ?_⟩
        rw [e]
        refine sub_of _ [.old 3 ⟨38, 4, (cnt L u (vs.take k) ++ [vs[k]]).map vo⟩, .old 5 ⟨3, 1, ((cnt L u (vs.take k) ++ [vs[k]]).map V.who).map ii⟩] (by simp [go_sem]) ?_
        simp [go_sem]
      · have hd2 : skips L u (cnt L u (vs.take k)) vs[k] = true := by simpa using hd
        have e : cnt L u (vs.take (k + 1)) = cnt L u (vs.take k) := by simp [cnt_succ hc, cstep, hd2]
        (repeat (first | refine awp_seq ?_ | refine awp_block ?_ | (refine awp_runG [0, 1, 2, 6, 7, 8, 9, 10, 11, 12, 13, 14, 15, 16, 17, 36, 58, 78] hX ?_; (simp [go_sem, hc]; (try simp (disch := omega) only [w64, td, tm]); try (refine ⟨by kernel_rfl, ?_⟩))) | (refine awp_drawnG [0, 1, 2, 6, 7, 8, 9, 10, 11, 12, 13, 14, 15, 16, 17, 36, 58, 78] hX mixed ?_; (simp [go_sem, hc]; (try simp (disch := omega) only [w64, td, tm]); try (refine ⟨by kernel_rfl, ?_⟩))) | (refine awp_ret ?_; (simp [go_sem, hc]; (try simp (disch := omega) only [w64, td, tm]); try (refine ⟨by kernel_rfl, ?_⟩))) | (refine awp_skip ?_; (simp [go_sem, hc]; (try simp (disch := omega) only [w64, td, tm]); try (refine ⟨by kernel_rfl, ?_⟩))) | (refine awp_exit ?_; (simp [go_sem, hc]; (try simp (disch := omega) only [w64, td, tm]); try (refine ⟨by kernel_rfl, ?_⟩)))))
        refine ⟨k + 1, by omega, by omega, ?_⟩
        rw [e]
        refine sub_of _ [.old 0 ⟨38, 4, (cnt L u (vs.take k)).map vo⟩, .old 1 ⟨3, 1, ((cnt L u (vs.take k)).map V.who).map ii⟩] (by simp [go_sem]) ?_
        simp [go_sem]
    · have hkl : k = vs.length := by simp at hc; omega
      subst hkl
      rw [List.take_length]
      (repeat (first | refine awp_seq ?_ | refine awp_block ?_ | (refine awp_runG [0, 1, 2, 6, 7, 8, 9, 10, 11, 12, 13, 14, 15, 16, 17, 36, 58, 78] hX ?_; (simp [go_sem]; try (refine ⟨by kernel_rfl, ?_⟩))) | (refine awp_drawnG [0, 1, 2, 6, 7, 8, 9, 10, 11, 12, 13, 14, 15, 16, 17, 36, 58, 78] hX mixed ?_; (simp [go_sem]; try (refine ⟨by kernel_rfl, ?_⟩))) | (refine awp_ret ?_; (simp [go_sem]; try (refine ⟨by kernel_rfl, ?_⟩))) | (refine awp_skip ?_; (simp [go_sem]; try (refine ⟨by kernel_rfl, ?_⟩))) | (refine awp_exit ?_; (simp [go_sem]; try (refine ⟨by kernel_rfl, ?_⟩)))))
      first | refine callK_intro (hv3) rfl (by simp [go_sem]) rfl ?_ | refine callT_intro (hv3) rfl (by simp [go_sem]) rfl ?_
      try (simp [go_sem]; try (refine ⟨by kernel_rfl, ?_⟩))
      (repeat (first | refine awp_seq ?_ | refine awp_block ?_ | (refine awp_runG [0, 1, 2, 6, 7, 8, 9, 10, 11, 12, 13, 14, 15, 16, 17, 36, 58, 78] hX ?_; (simp [go_sem]; try (refine ⟨by kernel_rfl, ?_⟩))) | (refine awp_drawnG [0, 1, 2, 6, 7, 8, 9, 10, 11, 12, 13, 14, 15, 16, 17, 36, 58, 78] hX mixed ?_; (simp [go_sem]; try (refine ⟨by kernel_rfl, ?_⟩))) | (refine awp_ret ?_; (simp [go_sem]; try (refine ⟨by kernel_rfl, ?_⟩))) | (refine awp_skip ?_; (simp [go_sem]; try (refine ⟨by kernel_rfl, ?_⟩))) | (refine awp_exit ?_; (simp [go_sem]; try (refine ⟨by kernel_rfl, ?_⟩)))))
      generalize (cnt L u vs).length = q at *
      rcases hst with h1 | h1
      · rcases hfin with h2 | h2
        · simp [h1, h2]
          (repeat (first | refine awp_seq ?_ | refine awp_block ?_ | (refine awp_runG [0, 1, 2, 6, 7, 8, 9, 10, 11, 12, 13, 14, 15, 16, 17, 36, 58, 78] hX ?_; (simp [go_sem]; try (refine ⟨by kernel_rfl, ?_⟩))) | (refine awp_drawnG [0, 1, 2, 6, 7, 8, 9, 10, 11, 12, 13, 14, 15, 16, 17, 36, 58, 78] hX mixed ?_; (simp [go_sem]; try (refine ⟨by kernel_rfl, ?_⟩))) | (refine awp_ret ?_; (simp [go_sem]; try (refine ⟨by kernel_rfl, ?_⟩))) | (refine awp_skip ?_; (simp [go_sem]; try (refine ⟨by kernel_rfl, ?_⟩))) | (refine awp_exit ?_; (simp [go_sem]; try (refine ⟨by kernel_rfl, ?_⟩)))))
        · exact absurd h1 h2
      · rcases hfin with h2 | h2
        · simp [h1, h2]
          (repeat (first | refine awp_seq ?_ | refine awp_block ?_ | (refine awp_runG [0, 1, 2, 6, 7, 8, 9, 10, 11, 12, 13, 14, 15, 16, 17, 36, 58, 78] hX ?_; (simp [go_sem]; try (refine ⟨by kernel_rfl, ?_⟩))) | (refine awp_drawnG [0, 1, 2, 6, 7, 8, 9, 10, 11, 12, 13, 14, 15, 16, 17, 36, 58, 78] hX mixed ?_; (simp [go_sem]; try (refine ⟨by kernel_rfl, ?_⟩))) | (refine awp_ret ?_; (simp [go_sem]; try (refine ⟨by kernel_rfl, ?_⟩))) | (refine awp_skip ?_; (simp [go_sem]; try (refine ⟨by kernel_rfl, ?_⟩))) | (refine awp_exit ?_; (simp [go_sem]; try (refine ⟨by kernel_rfl, ?_⟩)))))
        · simp [h1, h2]
          (repeat (first | refine awp_seq ?_ | refine awp_block ?_ | (refine awp_runG [0, 1, 2, 6, 7, 8, 9, 10, 11, 12, 13, 14, 15, 16, 17, 36, 58, 78] hX ?_; (simp [go_sem]; try (refine ⟨by kernel_rfl, ?_⟩))) | (refine awp_drawnG [0, 1, 2, 6, 7, 8, 9, 10, 11, 12, 13, 14, 15, 16, 17, 36, 58, 78] hX mixed ?_; (simp [go_sem]; try (refine ⟨by kernel_rfl, ?_⟩))) | (refine awp_ret ?_; (simp [go_sem]; try (refine ⟨by kernel_rfl, ?_⟩))) | (refine awp_skip ?_; (simp [go_sem]; try (refine ⟨by kernel_rfl, ?_⟩))) | (refine awp_exit ?_; (simp [go_sem]; try (refine ⟨by kernel_rfl, ?_⟩)))))

set_option maxHeartbeats 16000000 in
set_option maxRecDepth 20000 in
theorem juryMajority_m (L : List Int) (hL : L.length ≤ 9223372036854775807) (Y : List Bool) (hY : Y.length ≤ 9223372036854775807) : Means true Try.prog 6 [il L, .sl (Y.map bb)] (bb true) := by
  refine means_fn true 102 [.tmp 4] Try.func6 rfl rfl rfl (by simp) (by decide) rfl fun X hX => ?_
  (repeat (first | refine awp_seq ?_ | refine awp_block ?_ | (refine awp_runG [0, 1, 4, 5, 6, 7, 8, 9, 10, 11, 12, 13, 34, 39, 61, 78, 85] hX ?_; (simp [go_sem]; try (refine ⟨by kernel_rfl, ?_⟩))) | (refine awp_drawnG [0, 1, 4, 5, 6, 7, 8, 9, 10, 11, 12, 13, 34, 39, 61, 78, 85] hX mixed ?_; (simp [go_sem]; try (refine ⟨by kernel_rfl, ?_⟩))) | (refine awp_ret ?_; (simp [go_sem]; try (refine ⟨by kernel_rfl, ?_⟩))) | (refine awp_skip ?_; (simp [go_sem]; try (refine ⟨by kernel_rfl, ?_⟩))) | (refine awp_exit ?_; (simp [go_sem]; try (refine ⟨by kernel_rfl, ?_⟩)))))
  first | refine callK_intro (small_m) rfl (by simp [go_sem]) rfl ?_ | refine callT_intro (small_m) rfl (by simp [go_sem]) rfl ?_
  try (simp [go_sem]; try (refine ⟨by kernel_rfl, ?_⟩))
  (repeat (first | refine awp_seq ?_ | refine awp_block ?_ | (refine awp_runG [0, 1, 4, 5, 6, 7, 8, 9, 10, 11, 12, 13, 34, 39, 61, 78, 85] hX ?_; (simp [go_sem]; try (refine ⟨by kernel_rfl, ?_⟩))) | (refine awp_drawnG [0, 1, 4, 5, 6, 7, 8, 9, 10, 11, 12, 13, 34, 39, 61, 78, 85] hX mixed ?_; (simp [go_sem]; try (refine ⟨by kernel_rfl, ?_⟩))) | (refine awp_ret ?_; (simp [go_sem]; try (refine ⟨by kernel_rfl, ?_⟩))) | (refine awp_skip ?_; (simp [go_sem]; try (refine ⟨by kernel_rfl, ?_⟩))) | (refine awp_exit ?_; (simp [go_sem]; try (refine ⟨by kernel_rfl, ?_⟩)))))
  first | refine callG_intro (fun hg => members_m L hL) rfl (by simp [go_sem]) rfl ?_ | refine callGT_intro (fun hg => members_m L hL) rfl (by simp [go_sem]) rfl ?_
  try (simp [go_sem]; try (refine ⟨by kernel_rfl, ?_⟩))
  refine awp_cond (b := decide (60 < (L.length : Int)) || decide (Y.length < L.length) || decide (100 < (Y.length : Int)) || !okM L) (by simp [go_sem, Bool.or_assoc]) (fun hb => ?_) (fun hb => ?_)
  · (repeat (first | refine awp_seq ?_ | refine awp_block ?_ | (refine awp_runG [0, 1, 4, 5, 6, 7, 8, 9, 10, 11, 12, 13, 34, 39, 61, 78, 85] hX ?_; (simp [go_sem]; try (refine ⟨by kernel_rfl, ?_⟩))) | (refine awp_drawnG [0, 1, 4, 5, 6, 7, 8, 9, 10, 11, 12, 13, 34, 39, 61, 78, 85] hX mixed ?_; (simp [go_sem]; try (refine ⟨by kernel_rfl, ?_⟩))) | (refine awp_ret ?_; (simp [go_sem]; try (refine ⟨by kernel_rfl, ?_⟩))) | (refine awp_skip ?_; (simp [go_sem]; try (refine ⟨by kernel_rfl, ?_⟩))) | (refine awp_exit ?_; (simp [go_sem]; try (refine ⟨by kernel_rfl, ?_⟩)))))
  simp at hb
  obtain ⟨⟨⟨b1, b2⟩, b3⟩, hok⟩ := hb
  obtain ⟨m0, m1, hnd, hrg⟩ := okM_spec hok
  have e0 : jerr L = 0 := if_pos hok
  have ja : ∀ t : List V, jver L t = verd L.length (yN L t) (nN L t) := fun t => if_pos hok
  (repeat (first | refine awp_seq ?_ | refine awp_block ?_ | (refine awp_runG [0, 1, 4, 5, 6, 7, 8, 9, 10, 11, 12, 13, 34, 39, 61, 78, 85] hX ?_; (simp [go_sem]; try (refine ⟨by kernel_rfl, ?_⟩))) | (refine awp_drawnG [0, 1, 4, 5, 6, 7, 8, 9, 10, 11, 12, 13, 34, 39, 61, 78, 85] hX mixed ?_; (simp [go_sem]; try (refine ⟨by kernel_rfl, ?_⟩))) | (refine awp_ret ?_; (simp [go_sem]; try (refine ⟨by kernel_rfl, ?_⟩))) | (refine awp_skip ?_; (simp [go_sem]; try (refine ⟨by kernel_rfl, ?_⟩))) | (refine awp_exit ?_; (simp [go_sem]; try (refine ⟨by kernel_rfl, ?_⟩)))))
  refine awp_loop (fun k : Nat => ⟨mkE [(0, il L), (1, .sl (Y.map bb)), (5, bb true), (6, .ow 0), (7, ii (tk' Y k)), (8, ii k)], [.row ⟨38, 4, (vk L Y k).map vo⟩]⟩) (fun k => k ≤ L.length) (fun k => L.length - k) 0 ?_ ?_ ?_
  · refine sub_of _ [.birth 38 4] (by simp [go_sem, vk_0, tk']) ?_
    simp [go_sem, vk_0, tk']
  · omega
  · intro k hk
    have hvl := vk_len L Y k
    have hvc := vk_count hnd b2 k hk
    have htl := tk_le Y k
    have hvd := verdict_m L hL (vk L Y k) (by omega)
    rw [e0, ja] at hvd
    (repeat (first | refine awp_seq ?_ | refine awp_block ?_ | (refine awp_runG [0, 1, 4, 5, 6, 7, 8, 9, 10, 11, 12, 13, 34, 39, 61, 78, 85] hX ?_; (simp [go_sem]; try (refine ⟨by kernel_rfl, ?_⟩))) | (refine awp_drawnG [0, 1, 4, 5, 6, 7, 8, 9, 10, 11, 12, 13, 34, 39, 61, 78, 85] hX mixed ?_; (simp [go_sem]; try (refine ⟨by kernel_rfl, ?_⟩))) | (refine awp_ret ?_; (simp [go_sem]; try (refine ⟨by kernel_rfl, ?_⟩))) | (refine awp_skip ?_; (simp [go_sem]; try (refine ⟨by kernel_rfl, ?_⟩))) | (refine awp_exit ?_; (simp [go_sem]; try (refine ⟨by kernel_rfl, ?_⟩)))))
    refine awp_cond (b := decide (k < L.length)) (by simp [go_sem]) (fun hc => ?_) (fun hc => ?_)
    · simp at hc
      have hcy : k < Y.length := by omega
      have hfew : 2 * (k : Int) < L.length → verd L.length (yN L (vk L Y k)) (nN L (vk L Y k)) = 0 := fun h => verd_few (by omega) (by omega)
      have evk := vk_succ hc hcy
      have etk := tk_succ hcy
      generalize verd L.length (yN L (vk L Y k)) (nN L (vk L Y k)) = a at *
      (repeat (first | refine awp_seq ?_ | refine awp_block ?_ | (refine awp_runG [0, 1, 4, 5, 6, 7, 8, 9, 10, 11, 12, 13, 34, 39, 61, 78, 85] hX ?_; (simp [go_sem, hc]; try (refine ⟨by kernel_rfl, ?_⟩))) | (refine awp_drawnG [0, 1, 4, 5, 6, 7, 8, 9, 10, 11, 12, 13, 34, 39, 61, 78, 85] hX mixed ?_; (simp [go_sem, hc]; try (refine ⟨by kernel_rfl, ?_⟩))) | (refine awp_ret ?_; (simp [go_sem, hc]; try (refine ⟨by kernel_rfl, ?_⟩))) | (refine awp_skip ?_; (simp [go_sem, hc]; try (refine ⟨by kernel_rfl, ?_⟩))) | (refine awp_exit ?_; (simp [go_sem, hc]; try (refine ⟨by kernel_rfl, ?_⟩)))))
      first | refine callK_intro (hvd) rfl (by simp [go_sem]) rfl ?_ | refine callT_intro (hvd) rfl (by simp [go_sem]) rfl ?_
      try (simp [go_sem]; try (refine ⟨by kernel_rfl, ?_⟩))
      (repeat (first | refine awp_seq ?_ | refine awp_block ?_ | (refine awp_runG [0, 1, 4, 5, 6, 7, 8, 9, 10, 11, 12, 13, 34, 39, 61, 78, 85] hX ?_; (simp [go_sem, hvl]; try (refine ⟨by kernel_rfl, ?_⟩))) | (refine awp_drawnG [0, 1, 4, 5, 6, 7, 8, 9, 10, 11, 12, 13, 34, 39, 61, 78, 85] hX mixed ?_; (simp [go_sem, hvl]; try (refine ⟨by kernel_rfl, ?_⟩))) | (refine awp_ret ?_; (simp [go_sem, hvl]; try (refine ⟨by kernel_rfl, ?_⟩))) | (refine awp_skip ?_; (simp [go_sem, hvl]; try (refine ⟨by kernel_rfl, ?_⟩))) | (refine awp_exit ?_; (simp [go_sem, hvl]; try (refine ⟨by kernel_rfl, ?_⟩)))))
      have hw2 : IntKind.i64.wrap (2 * (k : Int)) = 2 * (k : Int) := w64 (by omega) (by omega)
      refine awp_cond (b := false) (by simp [go_sem, hvl, hw2]; intro h; exact Int.not_lt.1 fun h2 => h (hfew h2)) (fun h => by cases h) (fun _ => ?_)
      (repeat (first | refine awp_seq ?_ | refine awp_block ?_ | (refine awp_runG [0, 1, 4, 5, 6, 7, 8, 9, 10, 11, 12, 13, 34, 39, 61, 78, 85] hX ?_; (simp [go_sem, hc, hcy]; try (refine ⟨by kernel_rfl, ?_⟩))) | (refine awp_drawnG [0, 1, 4, 5, 6, 7, 8, 9, 10, 11, 12, 13, 34, 39, 61, 78, 85] hX mixed ?_; (simp [go_sem, hc, hcy]; try (refine ⟨by kernel_rfl, ?_⟩))) | (refine awp_ret ?_; (simp [go_sem, hc, hcy]; try (refine ⟨by kernel_rfl, ?_⟩))) | (refine awp_skip ?_; (simp [go_sem, hc, hcy]; try (refine ⟨by kernel_rfl, ?_⟩))) | (refine awp_exit ?_; (simp [go_sem, hc, hcy]; try (refine ⟨by kernel_rfl, ?_⟩)))))
      (repeat refine And.intro (by first | omega | (unfold maxLen; omega) | kernel_rfl | (refine ⟨by first | omega | (unfold maxLen; omega), by first | omega | (unfold maxLen; omega)⟩) | grind) ?_)
      (repeat (first | refine awp_seq ?_ | refine awp_block ?_ | (refine awp_runG [0, 1, 4, 5, 6, 7, 8, 9, 10, 11, 12, 13, 34, 39, 61, 78, 85] hX ?_; (simp [go_sem, hc, hcy]; try (refine ⟨by kernel_rfl, ?_⟩))) | (refine awp_drawnG [0, 1, 4, 5, 6, 7, 8, 9, 10, 11, 12, 13, 34, 39, 61, 78, 85] hX mixed ?_; (simp [go_sem, hc, hcy]; try (refine ⟨by kernel_rfl, ?_⟩))) | (refine awp_ret ?_; (simp [go_sem, hc, hcy]; try (refine ⟨by kernel_rfl, ?_⟩))) | (refine awp_skip ?_; (simp [go_sem, hc, hcy]; try (refine ⟨by kernel_rfl, ?_⟩))) | (refine awp_exit ?_; (simp [go_sem, hc, hcy]; try (refine ⟨by kernel_rfl, ?_⟩)))))
      (repeat refine And.intro (by first | omega | (unfold maxLen; omega) | kernel_rfl | (refine ⟨by first | omega | (unfold maxLen; omega), by first | omega | (unfold maxLen; omega)⟩) | grind) ?_)
      (repeat (first | refine awp_seq ?_ | refine awp_block ?_ | (refine awp_runG [0, 1, 4, 5, 6, 7, 8, 9, 10, 11, 12, 13, 34, 39, 61, 78, 85] hX ?_; (simp [go_sem, hc, hcy]; try (refine ⟨by kernel_rfl, ?_⟩))) | (refine awp_drawnG [0, 1, 4, 5, 6, 7, 8, 9, 10, 11, 12, 13, 34, 39, 61, 78, 85] hX mixed ?_; (simp [go_sem, hc, hcy]; try (refine ⟨by kernel_rfl, ?_⟩))) | (refine awp_ret ?_; (simp [go_sem, hc, hcy]; try (refine ⟨by kernel_rfl, ?_⟩))) | (refine awp_skip ?_; (simp [go_sem, hc, hcy]; try (refine ⟨by kernel_rfl, ?_⟩))) | (refine awp_exit ?_; (simp [go_sem, hc, hcy]; try (refine ⟨by kernel_rfl, ?_⟩)))))
      have hor : (vk L Y (k + 1)).map vo = (vk L Y k).map vo ++ [vo ⟨0, L[k], Y[k], k⟩] := by rw [evk, List.map_append]; rfl
      refine awp_cond (b := Y[k]) (by simp [go_sem, hcy]) (fun hy => ?_) (fun hy => ?_)
      · rw [if_pos hy] at etk
        (repeat (first | refine awp_seq ?_ | refine awp_block ?_ | (refine awp_runG [0, 1, 4, 5, 6, 7, 8, 9, 10, 11, 12, 13, 34, 39, 61, 78, 85] hX ?_; (simp [go_sem, hc, hcy]; (try simp (disch := omega) only [w64, td, tm]); try (refine ⟨by kernel_rfl, ?_⟩))) | (refine awp_drawnG [0, 1, 4, 5, 6, 7, 8, 9, 10, 11, 12, 13, 34, 39, 61, 78, 85] hX mixed ?_; (simp [go_sem, hc, hcy]; (try simp (disch := omega) only [w64, td, tm]); try (refine ⟨by kernel_rfl, ?_⟩))) | (refine awp_ret ?_; (simp [go_sem, hc, hcy]; (try simp (disch := omega) only [w64, td, tm]); try (refine ⟨by kernel_rfl, ?_⟩))) | (refine awp_skip ?_; (simp [go_sem, hc, hcy]; (try simp (disch := omega) only [w64, td, tm]); try (refine ⟨by kernel_rfl, ?_⟩))) | (refine awp_exit ?_; (simp [go_sem, hc, hcy]; (try simp (disch := omega) only [w64, td, tm]); try (refine ⟨by kernel_rfl, ?_⟩)))))
        refine ⟨k + 1, by omega, by omega, ?_⟩
        rw [etk, evk]
        refine sub_of _ [.old 2 ⟨38, 4, (vk L Y k ++ [(⟨0, L[k], Y[k], (k : Int)⟩ : V)]).map vo⟩] (by simp [go_sem]) ?_
        simp [go_sem]
      · rw [if_neg (by simpa using hy)] at etk
        (repeat (first | refine awp_seq ?_ | refine awp_block ?_ | (refine awp_runG [0, 1, 4, 5, 6, 7, 8, 9, 10, 11, 12, 13, 34, 39, 61, 78, 85] hX ?_; (simp [go_sem, hc, hcy]; (try simp (disch := omega) only [w64, td, tm]); try (refine ⟨by kernel_rfl, ?_⟩))) | (refine awp_drawnG [0, 1, 4, 5, 6, 7, 8, 9, 10, 11, 12, 13, 34, 39, 61, 78, 85] hX mixed ?_; (simp [go_sem, hc, hcy]; (try simp (disch := omega) only [w64, td, tm]); try (refine ⟨by kernel_rfl, ?_⟩))) | (refine awp_ret ?_; (simp [go_sem, hc, hcy]; (try simp (disch := omega) only [w64, td, tm]); try (refine ⟨by kernel_rfl, ?_⟩))) | (refine awp_skip ?_; (simp [go_sem, hc, hcy]; (try simp (disch := omega) only [w64, td, tm]); try (refine ⟨by kernel_rfl, ?_⟩))) | (refine awp_exit ?_; (simp [go_sem, hc, hcy]; (try simp (disch := omega) only [w64, td, tm]); try (refine ⟨by kernel_rfl, ?_⟩)))))
        refine ⟨k + 1, by omega, by omega, ?_⟩
        rw [etk, evk]
        refine sub_of _ [.old 2 ⟨38, 4, (vk L Y k ++ [(⟨0, L[k], Y[k], (k : Int)⟩ : V)]).map vo⟩] (by simp [go_sem]) ?_
        simp [go_sem]
    · have hkl : k = L.length := by simp at hc; omega
      subst hkl
      have hall := verd_all (n := (L.length : Int)) (y := yN L (vk L Y L.length)) (m := nN L (vk L Y L.length)) (by omega)
      rw [hall, hvc.1] at hvd
      (repeat (first | refine awp_seq ?_ | refine awp_block ?_ | (refine awp_runG [0, 1, 4, 5, 6, 7, 8, 9, 10, 11, 12, 13, 34, 39, 61, 78, 85] hX ?_; (simp [go_sem]; (try simp (disch := omega) only [w64, td, tm]); try (refine ⟨by kernel_rfl, ?_⟩))) | (refine awp_drawnG [0, 1, 4, 5, 6, 7, 8, 9, 10, 11, 12, 13, 34, 39, 61, 78, 85] hX mixed ?_; (simp [go_sem]; (try simp (disch := omega) only [w64, td, tm]); try (refine ⟨by kernel_rfl, ?_⟩))) | (refine awp_ret ?_; (simp [go_sem]; (try simp (disch := omega) only [w64, td, tm]); try (refine ⟨by kernel_rfl, ?_⟩))) | (refine awp_skip ?_; (simp [go_sem]; (try simp (disch := omega) only [w64, td, tm]); try (refine ⟨by kernel_rfl, ?_⟩))) | (refine awp_exit ?_; (simp [go_sem]; (try simp (disch := omega) only [w64, td, tm]); try (refine ⟨by kernel_rfl, ?_⟩)))))
      refine awp_cond (b := decide ((L.length : Int) < 2 * (tk' Y L.length : Int))) (by simp [go_sem]; try omega) (fun hd => ?_) (fun hd => ?_)
      · simp only [decide_eq_true_eq] at hd
        rw [if_pos hd] at hvd
        (repeat (first | refine awp_seq ?_ | refine awp_block ?_ | (refine awp_runG [0, 1, 4, 5, 6, 7, 8, 9, 10, 11, 12, 13, 34, 39, 61, 78, 85] hX ?_; (simp [go_sem]; try (refine ⟨by kernel_rfl, ?_⟩))) | (refine awp_drawnG [0, 1, 4, 5, 6, 7, 8, 9, 10, 11, 12, 13, 34, 39, 61, 78, 85] hX mixed ?_; (simp [go_sem]; try (refine ⟨by kernel_rfl, ?_⟩))) | (refine awp_ret ?_; (simp [go_sem]; try (refine ⟨by kernel_rfl, ?_⟩))) | (refine awp_skip ?_; (simp [go_sem]; try (refine ⟨by kernel_rfl, ?_⟩))) | (refine awp_exit ?_; (simp [go_sem]; try (refine ⟨by kernel_rfl, ?_⟩)))))
        first | refine callK_intro (hvd) rfl (by simp [go_sem]) rfl ?_ | refine callT_intro (hvd) rfl (by simp [go_sem]) rfl ?_
        try (simp [go_sem]; try (refine ⟨by kernel_rfl, ?_⟩))
        (repeat (first | refine awp_seq ?_ | refine awp_block ?_ | (refine awp_runG [0, 1, 4, 5, 6, 7, 8, 9, 10, 11, 12, 13, 34, 39, 61, 78, 85] hX ?_; (simp [go_sem]; try (refine ⟨by kernel_rfl, ?_⟩))) | (refine awp_drawnG [0, 1, 4, 5, 6, 7, 8, 9, 10, 11, 12, 13, 34, 39, 61, 78, 85] hX mixed ?_; (simp [go_sem]; try (refine ⟨by kernel_rfl, ?_⟩))) | (refine awp_ret ?_; (simp [go_sem]; try (refine ⟨by kernel_rfl, ?_⟩))) | (refine awp_skip ?_; (simp [go_sem]; try (refine ⟨by kernel_rfl, ?_⟩))) | (refine awp_exit ?_; (simp [go_sem]; try (refine ⟨by kernel_rfl, ?_⟩)))))
      · simp only [decide_eq_false_iff_not] at hd
        rw [if_neg hd] at hvd
        (repeat (first | refine awp_seq ?_ | refine awp_block ?_ | (refine awp_runG [0, 1, 4, 5, 6, 7, 8, 9, 10, 11, 12, 13, 34, 39, 61, 78, 85] hX ?_; (simp [go_sem]; try (refine ⟨by kernel_rfl, ?_⟩))) | (refine awp_drawnG [0, 1, 4, 5, 6, 7, 8, 9, 10, 11, 12, 13, 34, 39, 61, 78, 85] hX mixed ?_; (simp [go_sem]; try (refine ⟨by kernel_rfl, ?_⟩))) | (refine awp_ret ?_; (simp [go_sem]; try (refine ⟨by kernel_rfl, ?_⟩))) | (refine awp_skip ?_; (simp [go_sem]; try (refine ⟨by kernel_rfl, ?_⟩))) | (refine awp_exit ?_; (simp [go_sem]; try (refine ⟨by kernel_rfl, ?_⟩)))))
        first | refine callK_intro (hvd) rfl (by simp [go_sem]) rfl ?_ | refine callT_intro (hvd) rfl (by simp [go_sem]) rfl ?_
        try (simp [go_sem]; try (refine ⟨by kernel_rfl, ?_⟩))
        (repeat (first | refine awp_seq ?_ | refine awp_block ?_ | (refine awp_runG [0, 1, 4, 5, 6, 7, 8, 9, 10, 11, 12, 13, 34, 39, 61, 78, 85] hX ?_; (simp [go_sem]; try (refine ⟨by kernel_rfl, ?_⟩))) | (refine awp_drawnG [0, 1, 4, 5, 6, 7, 8, 9, 10, 11, 12, 13, 34, 39, 61, 78, 85] hX mixed ?_; (simp [go_sem]; try (refine ⟨by kernel_rfl, ?_⟩))) | (refine awp_ret ?_; (simp [go_sem]; try (refine ⟨by kernel_rfl, ?_⟩))) | (refine awp_skip ?_; (simp [go_sem]; try (refine ⟨by kernel_rfl, ?_⟩))) | (refine awp_exit ?_; (simp [go_sem]; try (refine ⟨by kernel_rfl, ?_⟩)))))

end Go.Proofs.Ytflcmfeafiippaa
