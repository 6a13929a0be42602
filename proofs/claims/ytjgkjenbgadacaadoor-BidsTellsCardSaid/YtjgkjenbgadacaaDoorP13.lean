/-
  Lemmas for the statement at the top.
-/
import Derived.Test.YtjgkjenbgadacaaDoorP12
import Derived.Test.YtjgkjenbgadacaaDoorP11
import Derived.Laws.IdiomStrings
import Derived.WalkKit
import Derived.Lib.ItoaNum
import Derived.Test.YtjgkjenbgadacaaDoorRows
import Derived.Test.YtjgkjenbgadacaaDoorFw5
set_option linter.all false
namespace Go.Proofs.YtjgkjenbgadacaaDoor
open Go.RowKit Go.Ab
attribute [local irreducible] AWP Go.Ab.Sub Means MeansH CallK CallG CallT CallGT CallU
theorem plc_srt_succ (L : List Bd) (P : Int) {k : Nat} (h : cntAt L P k = true) : srt (B.kf L) (plc L P (k + 1)) = insB (B.kf L) k (srt (B.kf L) (plc L P k)) := by
  have e : plc L P (k + 1) = plc L P k ++ [(k : Int)] := by
    show (if cntAt L P k then _ else _) = _
    rw [if_pos h]
  rw [e, srt_snoc]
theorem plc_srt_skip (L : List Bd) (P : Int) {k : Nat} (h : cntAt L P k = false) : plc L P (k + 1) = plc L P k := by
  show (if cntAt L P k then _ else _) = _
  rw [h]; rfl
set_option maxHeartbeats 16000000 in
set_option maxRecDepth 20000 in
theorem rranked_m (L : List Bd) (P : Int) (hl : L.length ≤ 1000) : Means true Tryd.prog 22 [bl L, ii P] (il (ranked L P)) := by
  have hR : ranked L P = srt (B.kf L) (plc L P L.length) := rfl
  rw [hR]
  refine means_fn true 79 [.tmp 4] Tryd.func22 rfl rfl rfl (by simp) (by decide) rfl fun X hX => ?_
  (repeat (first | refine awp_seq ?_ | refine awp_block ?_ | ((first | refine awp_runG [0, 1, 4, 5, 6, 7, 8, 12, 29, 58] hX ?_ | refine awp_drawnG [0, 1, 4, 5, 6, 7, 8, 12, 29, 58] hX mixed ?_ | refine awp_ret ?_ | refine awp_skip ?_ | refine awp_exit ?_); (simp [go_sem]; try (refine ⟨by kernel_rfl, ?_⟩)))))
  refine awp_loop (fun k : Nat => ⟨mkE [(0, bl L), (1, ii P), (5, .ow 0), (6, ii k)], [rowI (srt (B.kf L) (plc L P k))]⟩) (fun k => k ≤ L.length) (fun k => L.length - k) 0 ?_ ?_ ?_
  · rw [show srt (B.kf L) (plc L P 0) = [] from rfl]
    refine sub_of _ [.birth 3 1] (by simp [go_sem]) ?_
    simp [go_sem]
  · omega
  · intro k hk
    (repeat (first | refine awp_seq ?_ | refine awp_block ?_ | ((first | refine awp_runG [0, 1, 4, 5, 6, 7, 8, 12, 29, 58] hX ?_ | refine awp_drawnG [0, 1, 4, 5, 6, 7, 8, 12, 29, 58] hX mixed ?_ | refine awp_ret ?_ | refine awp_skip ?_ | refine awp_exit ?_); (simp [go_sem]; try (refine ⟨by kernel_rfl, ?_⟩)))))
    refine awp_cond (b := decide (k < L.length)) (by simp [go_sem]) (fun hc => ?_) (fun hc => ?_)
    · simp at hc
      have hq := nth_ob hc
      have hca : cntAt L P k = cntB P L[k] := by simp [cntAt, List.getElem?_eq_getElem hc]
      have wk := w64 (x := (k : Int) + 1) (by omega) (by omega)
      have hkf := B.kf_nat hc
      have hm := plc_mem L P
      have hsp := srt_perm (B.kf L) (plc L P k)
      have hss : (srt (B.kf L) (plc L P k)).Pairwise (bef (B.kf L)) := srt_sorted (plc_nodup L P k)
      have hsm : ∀ e ∈ srt (B.kf L) (plc L P k), 0 ≤ e ∧ e < k := fun e he => by
        obtain ⟨j, h1, h2, _⟩ := (hm e k).1 (hsp.mem_iff.1 he)
        omega
      have hsl : (srt (B.kf L) (plc L P k)).length ≤ k := by rw [hsp.length_eq]; exact plc_le L P k
      have hs1 := @plc_srt_succ L P k
      have hs2 := @plc_srt_skip L P k
      rw [hca] at hs1 hs2
      obtain ⟨x, hx⟩ : ∃ x, L[k] = x := ⟨_, rfl⟩
      rw [hx] at hq hs1 hs2 hkf
      obtain ⟨s, hse⟩ : ∃ s, srt (B.kf L) (plc L P k) = s := ⟨_, rfl⟩
      rw [hse] at hss hsm hsl hs1 ⊢
      (repeat (first | refine awp_seq ?_ | refine awp_block ?_ | ((first | refine awp_runG [0, 1, 4, 5, 6, 7, 8, 12, 29, 58] hX ?_ | refine awp_drawnG [0, 1, 4, 5, 6, 7, 8, 12, 29, 58] hX mixed ?_ | refine awp_ret ?_ | refine awp_skip ?_ | refine awp_exit ?_); (simp [go_sem, hc, hq]; try (refine ⟨by kernel_rfl, ?_⟩)))))
      try (simp [go_sem, hc, hq]; try (refine ⟨by kernel_rfl, ?_⟩))
      refine awp_cond (b := !cntB P x) (by simp [go_sem, cntB]; grind) (fun hd => ?_) (fun hd => ?_)
      · simp at hd
        (repeat (first | refine awp_seq ?_ | refine awp_block ?_ | ((first | refine awp_runG [0, 1, 4, 5, 6, 7, 8, 12, 29, 58] hX ?_ | refine awp_drawnG [0, 1, 4, 5, 6, 7, 8, 12, 29, 58] hX mixed ?_ | refine awp_ret ?_ | refine awp_skip ?_ | refine awp_exit ?_); (simp [go_sem, wk]; try (refine ⟨by kernel_rfl, ?_⟩)))))
        refine ⟨k + 1, by omega, by omega, ?_⟩
        rw [hs2 hd, hse]
        refine sub_of _ [.old 0 ⟨3, 1, s.map ii⟩] (by simp [go_sem]) ?_
        simp [go_sem]
      · simp at hd
        have hs1 := hs1 hd
        have wl := w64 (x := (s.length : Int) + 1 - 1) (by omega) (by omega)
        have wl2 : (s.length : Int) + 1 - 1 = s.length := by omega
        have wl3 := w64 (x := (s.length : Int)) (by omega) (by omega)
        (repeat (first | refine awp_seq ?_ | refine awp_block ?_ | ((first | refine awp_runG [0, 1, 4, 5, 6, 7, 8, 12, 29, 58] hX ?_ | refine awp_drawnG [0, 1, 4, 5, 6, 7, 8, 12, 29, 58] hX mixed ?_ | refine awp_ret ?_ | refine awp_skip ?_ | refine awp_exit ?_); (simp [go_sem]; try (refine ⟨by kernel_rfl, ?_⟩)))))
        try (repeat refine And.intro (by first | omega | (unfold maxLen; omega) | kernel_rfl | (refine ⟨by first | omega | (unfold maxLen; omega), by first | omega | (unfold maxLen; omega)⟩) | grind) ?_)
        try (repeat (first | refine awp_seq ?_ | refine awp_block ?_ | ((first | refine awp_runG [0, 1, 4, 5, 6, 7, 8, 12, 29, 58] hX ?_ | refine awp_drawnG [0, 1, 4, 5, 6, 7, 8, 12, 29, 58] hX mixed ?_ | refine awp_ret ?_ | refine awp_skip ?_ | refine awp_exit ?_); (simp [go_sem, wl, wl2, wl3]; try (refine ⟨by kernel_rfl, ?_⟩)))))
        refine awp_loop (fun i : Nat => ⟨mkE [(0, bl L), (1, ii P), (5, .ow 0), (6, ii k), (7, ii i)], [rowI (rowX [] s k [] i)]⟩) (fun i => i ≤ s.length ∧ ∀ e ∈ s.drop i, bef (B.kf L) k e) (fun i => i) s.length ?_ ?_ ?_
        · have e : rowX [] s (k : Int) [] s.length = s ++ [(k : Int)] := by simp [rowX]
          rw [e]
          refine sub_of _ [.old 2 ⟨3, 1, (s ++ [(k : Int)]).map ii⟩] (by simp [go_sem]) ?_
          simp [go_sem]
        · simp
        · rintro i ⟨hi, hd2⟩
          have hlen := rowX_len (pre := []) (x := (k : Int)) (post := []) hi
          have done : (∀ e ∈ s.take i, bef (B.kf L) e k) → rowX [] s (k : Int) [] i = srt (B.kf L) (plc L P (k + 1)) := fun h1 => by
            rw [hs1, insB_at i hss hi h1 hd2]
            simp [rowX]
          cases i with
          | zero =>
            have hdone := done (by simp)
            have hi0 : 0 < (rowX [] s (k : Int) [] 0).length := by omega
            have h00 : (rowX [] s (k : Int) [] 0)[0] = (k : Int) := by simp [rowX]
            generalize rowX [] s (k : Int) [] 0 = D1 at *
            (repeat (first | refine awp_seq ?_ | refine awp_block ?_ | ((first | refine awp_runG [0, 1, 4, 5, 6, 7, 8, 12, 29, 58] hX ?_ | refine awp_drawnG [0, 1, 4, 5, 6, 7, 8, 12, 29, 58] hX mixed ?_ | refine awp_ret ?_ | refine awp_skip ?_ | refine awp_exit ?_); (simp [go_sem, hi0, h00, hc, hq]; try (refine ⟨by kernel_rfl, ?_⟩)))))
            try (simp [go_sem, hi0, h00, hc, hq]; try (refine ⟨by kernel_rfl, ?_⟩))
            refine awp_cond (b := false) (by simp [go_sem]) (fun h => by cases h) (fun _ => ?_)
            (repeat (first | refine awp_seq ?_ | refine awp_block ?_ | ((first | refine awp_runG [0, 1, 4, 5, 6, 7, 8, 12, 29, 58] hX ?_ | refine awp_drawnG [0, 1, 4, 5, 6, 7, 8, 12, 29, 58] hX mixed ?_ | refine awp_ret ?_ | refine awp_skip ?_ | refine awp_exit ?_); (simp [go_sem, wk]; try (refine ⟨by kernel_rfl, ?_⟩)))))
            refine ⟨k + 1, by omega, by omega, ?_⟩
            rw [← hdone]
            refine sub_of _ [.old 0 ⟨3, 1, D1.map ii⟩] (by simp [go_sem]) ?_
            simp [go_sem]
          | succ i =>
            have his : i < s.length := by omega
            have hi1 : i + 1 < (rowX [] s (k : Int) [] (i + 1)).length := by simp at hlen; omega
            have hi2 : i < (rowX [] s (k : Int) [] (i + 1)).length := by omega
            have hat : (rowX [] s (k : Int) [] (i + 1))[i + 1] = (k : Int) := by
              have := rowX_at (pre := []) (s := s) (x := (k : Int)) (post := []) hi (by simp at hlen ⊢; omega)
              simpa using this
            have hpv : (rowX [] s (k : Int) [] (i + 1))[i] = s[i] := by
              have := rowX_prev (pre := []) (s := s) (x := (k : Int)) (post := []) his (by simp at hlen ⊢; omega)
              simpa using this
            have hsw := rowX_swap (pre := []) (x := (k : Int)) (post := []) his
            simp only [List.length_nil, Nat.zero_add] at hsw
            have hy := hsm s[i] (List.getElem_mem his)
            obtain ⟨q, hqe⟩ : ∃ q : Nat, s[i] = (q : Int) := ⟨s[i].toNat, by omega⟩
            have hql : q < L.length := by omega
            have hqq := nth_ob hql
            have hkq := B.kf_nat hql
            obtain ⟨y, hye⟩ : ∃ y, L[q] = y := ⟨_, rfl⟩
            rw [hye] at hqq hkq
            have hqk : q < k := by omega
            have hdk : bef (B.kf L) k s[i] → ∀ e ∈ s.drop i, bef (B.kf L) k e := fun h e he => by
              rw [List.drop_eq_getElem_cons his] at he
              rcases List.mem_cons.1 he with rfl | he
              · exact h
              · exact hd2 e he
            have hup : bef (B.kf L) s[i] k → ∀ e ∈ s.take (i + 1), bef (B.kf L) e k := fun h e he => by
              rw [List.take_succ_eq_append_getElem his] at he
              rcases List.mem_append.1 he with he | he
              · obtain ⟨j, hj, rfl⟩ := List.mem_take_iff_getElem.1 he
                exact bef_trans (List.pairwise_iff_getElem.1 hss j i (by omega) his (by omega)) h
              · simp at he; rw [he]; exact h
            have hbk : bef (B.kf L) k s[i] ↔ y.n < x.n := by
              rw [hqe]
              unfold bef
              rw [hkf, hkq]; omega
            have hbk2 : bef (B.kf L) s[i] k ↔ ¬ y.n < x.n := by
              rw [hqe]
              unfold bef
              rw [hkf, hkq]; omega
            rw [hqe] at hpv hsw
            have q1 := nth_ii hi1
            have q2 := nth_ii hi2
            rw [hat] at q1
            rw [hpv] at q2
            have w1 := w64 (x := (i : Int) + 1 - 1) (by omega) (by omega)
            have w2 : (i : Int) + 1 - 1 = i := by omega
            have w3 := w64 (x := (i : Int)) (by omega) (by omega)
            have hz1 : (0 : Int) < (i : Int) + 1 := by omega
            have hz2 : (0 : Int) ≤ (i : Int) + 1 := by omega
            have ht1 : ((i : Int) + 1).toNat = i + 1 := by omega
            have hi1' : (i : Int) + 1 < ((rowX [] s (k : Int) [] (i + 1)).length : Int) := by omega
            obtain ⟨D1, hD1⟩ : ∃ D1, rowX [] s (k : Int) [] (i + 1) = D1 := ⟨_, rfl⟩
            simp only [hD1] at q1 q2 hi1 hi2 hi1' hsw done ⊢
            clear hat hpv
            (repeat (first | refine awp_seq ?_ | refine awp_block ?_ | ((first | refine awp_runG [0, 1, 4, 5, 6, 7, 8, 12, 29, 58] hX ?_ | refine awp_drawnG [0, 1, 4, 5, 6, 7, 8, 12, 29, 58] hX mixed ?_ | refine awp_ret ?_ | refine awp_skip ?_ | refine awp_exit ?_); (simp [go_sem, hi1, hi2, hi1', q1, q2, w1, w2, w3, hz1, hz2, ht1, hc, hq, hql, hqq]; try (refine ⟨by kernel_rfl, ?_⟩)))))
            try (simp [go_sem, hi1, hi2, hi1', q1, q2, w1, w2, w3, hz1, hz2, ht1, hc, hq, hql, hqq]; try (refine ⟨by kernel_rfl, ?_⟩))
            refine awp_cond (b := decide (y.n < x.n)) (by simp [go_sem]) (fun hf => ?_) (fun hf => ?_)
            · simp only [decide_eq_true_eq] at hf
              have hns : nth ((D1.map ii).set (i + 1) (ii (q : Int))) i = ii (q : Int) := by
                rw [← List.map_set, nth_ii (by simpa using hi2), List.getElem_set_ne (by omega)]
                have := nth_ii hi2
                rw [this] at q2
                exact q2
              (repeat (first | refine awp_seq ?_ | refine awp_block ?_ | ((first | refine awp_runG [0, 1, 4, 5, 6, 7, 8, 12, 29, 58] hX ?_ | refine awp_drawnG [0, 1, 4, 5, 6, 7, 8, 12, 29, 58] hX mixed ?_ | refine awp_ret ?_ | refine awp_skip ?_ | refine awp_exit ?_); (simp [go_sem, hi1, hi2, hi1', q1, q2, w1, w2, w3, hz1, hz2, ht1]; try (refine ⟨by kernel_rfl, ?_⟩)))))
              try (repeat refine And.intro (by first | omega | (unfold maxLen; omega) | kernel_rfl | (refine ⟨by first | omega | (unfold maxLen; omega), by first | omega | (unfold maxLen; omega)⟩) | grind) ?_)
              try (repeat (first | refine awp_seq ?_ | refine awp_block ?_ | ((first | refine awp_runG [0, 1, 4, 5, 6, 7, 8, 12, 29, 58] hX ?_ | refine awp_drawnG [0, 1, 4, 5, 6, 7, 8, 12, 29, 58] hX mixed ?_ | refine awp_ret ?_ | refine awp_skip ?_ | refine awp_exit ?_); (simp [go_sem, hi1, hi2, hi1', q1, q2, w1, w2, w3, hz1, hz2, ht1]; try (refine ⟨by kernel_rfl, ?_⟩)))))
              refine ⟨i, ⟨by omega, hdk (hbk.2 hf)⟩, by omega, ?_⟩
              rw [← hsw]
              have hns2 : nth ((D1.map ii).set (i + 1) (AV.v (Value.int .i64 (q : Int)))) i = AV.v (Value.int .i64 (q : Int)) := hns
              have hzs : zoneEs (((D1.map ii).set (i + 1) (ii (q : Int))).set i (ii (k : Int))) = true := by rw [← List.map_set, ← List.map_set]; exact zone_il _
              refine sub_of _ [.old 0 ⟨3, 1, ((D1.set (i + 1) (q : Int)).set i (k : Int)).map ii⟩] (by simp [go_sem, hns2, hzs]) ?_
              simp [go_sem]
            · simp only [decide_eq_false_iff_not] at hf
              have hdone := done (hup (hbk2.2 hf))
              (repeat (first | refine awp_seq ?_ | refine awp_block ?_ | ((first | refine awp_runG [0, 1, 4, 5, 6, 7, 8, 12, 29, 58] hX ?_ | refine awp_drawnG [0, 1, 4, 5, 6, 7, 8, 12, 29, 58] hX mixed ?_ | refine awp_ret ?_ | refine awp_skip ?_ | refine awp_exit ?_); (simp [go_sem, wk]; try (refine ⟨by kernel_rfl, ?_⟩)))))
              refine ⟨k + 1, by omega, by omega, ?_⟩
              rw [← hdone]
              refine sub_of _ [.old 0 ⟨3, 1, D1.map ii⟩] (by simp [go_sem]) ?_
              simp [go_sem]
    · have hkl : k = L.length := by simp at hc; omega
      subst hkl
      (repeat (first | refine awp_seq ?_ | refine awp_block ?_ | ((first | refine awp_runG [0, 1, 4, 5, 6, 7, 8, 12, 29, 58] hX ?_ | refine awp_drawnG [0, 1, 4, 5, 6, 7, 8, 12, 29, 58] hX mixed ?_ | refine awp_ret ?_ | refine awp_skip ?_ | refine awp_exit ?_); (simp [go_sem]; try (refine ⟨by kernel_rfl, ?_⟩)))))
end Go.Proofs.YtjgkjenbgadacaaDoor

namespace Go.Proofs.YtjgkjenbgadacaaDoor
open Go.RowKit Go.Ab
attribute [local irreducible] AWP Go.Ab.Sub Means MeansH CallK CallG CallT CallGT CallU
set_option maxHeartbeats 16000000 in
set_option maxRecDepth 20000 in
theorem rshares_m (L : List Bd) (P : Int) (M : List Int) (hl : L.length ≤ 1000) (hM : M.length ≤ 100000) : Means true Tryd.prog 14 [bl L, ii P, il M] (.tup [il (potS L P M).1, ii (potS L P M).2]) := by
  have c1 := rright_m L (by omega)
  have c2 := rmembers_m M (by omega)
  by_cases hok : okL L = true ∧ coinB P = true ∧ okMb M = true
  · have hMs := (okMb_iff M).1 hok.2.2
    have hPr : 0 ≤ P ∧ P ≤ 1099511627776 := by have := hok.2.1; simp [coinB] at this; omega
    have hP1 : ¬ P < 0 := by omega
    have hP2 : ¬ 1099511627776 < P := by omega
    have hM60 : ¬ (60 : Int) < M.length := by omega
    refine means_fn true 118 [.tmp 6, .tmp 7] Tryd.func14 rfl rfl rfl (by simp) (by decide) rfl fun X hX => ?_
    (repeat (first | refine awp_seq ?_ | refine awp_block ?_ | ((first | refine awp_runG [0, 1, 2, 6, 7, 8, 9, 10, 11, 12, 14, 15, 36, 40, 50, 65, 68, 86, 98] hX ?_ | refine awp_drawnG [0, 1, 2, 6, 7, 8, 9, 10, 11, 12, 14, 15, 36, 40, 50, 65, 68, 86, 98] hX mixed ?_ | refine awp_ret ?_ | refine awp_skip ?_ | refine awp_exit ?_); (simp [go_sem]; try (refine ⟨by kernel_rfl, ?_⟩)))))
    first | refine callG_intro (fun hg => c1) rfl (by simp [go_sem]) rfl ?_ | refine callGT_intro (fun hg => c1) rfl (by simp [go_sem]) rfl ?_
    try (simp [go_sem]; try (refine ⟨by kernel_rfl, ?_⟩))
    first | refine callG_intro (fun hg => c2) rfl (by simp [go_sem]) rfl ?_ | refine callGT_intro (fun hg => c2) rfl (by simp [go_sem]) rfl ?_
    try (simp [go_sem]; try (refine ⟨by kernel_rfl, ?_⟩))
    refine awp_cond (b := false) (by simp [go_sem, hok.1, hok.2.2, hP1, hP2, hM60]) (fun h => by cases h) (fun _ => ?_)
    (repeat (first | refine awp_seq ?_ | refine awp_block ?_ | ((first | refine awp_runG [0, 1, 2, 6, 7, 8, 9, 10, 11, 12, 14, 15, 36, 40, 50, 65, 68, 86, 98] hX ?_ | refine awp_drawnG [0, 1, 2, 6, 7, 8, 9, 10, 11, 12, 14, 15, 36, 40, 50, 65, 68, 86, 98] hX mixed ?_ | refine awp_ret ?_ | refine awp_skip ?_ | refine awp_exit ?_); (simp [go_sem]; try (refine ⟨by kernel_rfl, ?_⟩)))))
    refine awp_loop (fun i : Nat => ⟨mkE [(0, bl L), (1, ii P), (2, il M), (8, .ow 0), (9, ii i)], [rowB ((L.take i).filter (memB M))]⟩) (fun i => i ≤ L.length) (fun i => L.length - i) 0 ?_ ?_ ?_
    · refine sub_of _ [.birth 24 4] (by simp [go_sem]) ?_
      simp [go_sem]
    · omega
    · intro i hi
      have hfl := filt_le (memB M) L i
      (repeat (first | refine awp_seq ?_ | refine awp_block ?_ | ((first | refine awp_runG [0, 1, 2, 6, 7, 8, 9, 10, 11, 12, 14, 15, 36, 40, 50, 65, 68, 86, 98] hX ?_ | refine awp_drawnG [0, 1, 2, 6, 7, 8, 9, 10, 11, 12, 14, 15, 36, 40, 50, 65, 68, 86, 98] hX mixed ?_ | refine awp_ret ?_ | refine awp_skip ?_ | refine awp_exit ?_); (simp [go_sem]; try (refine ⟨by kernel_rfl, ?_⟩)))))
      refine awp_cond (b := decide (i < L.length)) (by simp [go_sem]) (fun hc => ?_) (fun hc => ?_)
      · simp at hc
        have hq := nth_ob hc
        have hfs := filt_succ (memB M) hc
        have c4 := rat_m M (by omega) L[i].w
        have hmm : decide (0 ≤ atZ M L[i].w) = memB M L[i] := by rw [atZ_mem]; rfl
        have wi := w64 (x := (i : Int) + 1) (by omega) (by omega)
        generalize L[i] = x at *
        generalize (L.take i).filter (memB M) = F at *
        (repeat (first | refine awp_seq ?_ | refine awp_block ?_ | ((first | refine awp_runG [0, 1, 2, 6, 7, 8, 9, 10, 11, 12, 14, 15, 36, 40, 50, 65, 68, 86, 98] hX ?_ | refine awp_drawnG [0, 1, 2, 6, 7, 8, 9, 10, 11, 12, 14, 15, 36, 40, 50, 65, 68, 86, 98] hX mixed ?_ | refine awp_ret ?_ | refine awp_skip ?_ | refine awp_exit ?_); (simp [go_sem, hc, hq]; try (refine ⟨by kernel_rfl, ?_⟩)))))
        first | refine callK_intro (c4) rfl (by simp [go_sem]) rfl ?_ | refine callT_intro (c4) rfl (by simp [go_sem]) rfl ?_
        try (simp [go_sem, hc, hq]; try (refine ⟨by kernel_rfl, ?_⟩))
        refine awp_cond (b := memB M x) (by rw [← hmm]; simp [go_sem]) (fun hd => ?_) (fun hd => ?_)
        · rw [if_pos hd] at hfs
          (repeat (first | refine awp_seq ?_ | refine awp_block ?_ | ((first | refine awp_runG [0, 1, 2, 6, 7, 8, 9, 10, 11, 12, 14, 15, 36, 40, 50, 65, 68, 86, 98] hX ?_ | refine awp_drawnG [0, 1, 2, 6, 7, 8, 9, 10, 11, 12, 14, 15, 36, 40, 50, 65, 68, 86, 98] hX mixed ?_ | refine awp_ret ?_ | refine awp_skip ?_ | refine awp_exit ?_); (simp [go_sem, hc, hq]; try (refine ⟨by kernel_rfl, ?_⟩)))))
          try (repeat refine And.intro (by first | omega | (unfold maxLen; omega) | kernel_rfl | (refine ⟨by first | omega | (unfold maxLen; omega), by first | omega | (unfold maxLen; omega)⟩) | grind) ?_)
          try (repeat (first | refine awp_seq ?_ | refine awp_block ?_ | ((first | refine awp_runG [0, 1, 2, 6, 7, 8, 9, 10, 11, 12, 14, 15, 36, 40, 50, 65, 68, 86, 98] hX ?_ | refine awp_drawnG [0, 1, 2, 6, 7, 8, 9, 10, 11, 12, 14, 15, 36, 40, 50, 65, 68, 86, 98] hX mixed ?_ | refine awp_ret ?_ | refine awp_skip ?_ | refine awp_exit ?_); (simp [go_sem, hc, hq, wi]; try (refine ⟨by kernel_rfl, ?_⟩)))))
          refine ⟨i + 1, by omega, by omega, ?_⟩
          rw [hfs]
          refine sub_of _ [.old 2 ⟨24, 4, (F ++ [x]).map ob⟩] (by simp [go_sem]) ?_
          simp [go_sem]
          try omega
        · rw [if_neg (by rw [hd]; simp), List.append_nil] at hfs
          (repeat (first | refine awp_seq ?_ | refine awp_block ?_ | ((first | refine awp_runG [0, 1, 2, 6, 7, 8, 9, 10, 11, 12, 14, 15, 36, 40, 50, 65, 68, 86, 98] hX ?_ | refine awp_drawnG [0, 1, 2, 6, 7, 8, 9, 10, 11, 12, 14, 15, 36, 40, 50, 65, 68, 86, 98] hX mixed ?_ | refine awp_ret ?_ | refine awp_skip ?_ | refine awp_exit ?_); (simp [go_sem, wi]; try (refine ⟨by kernel_rfl, ?_⟩)))))
          refine ⟨i + 1, by omega, by omega, ?_⟩
          rw [hfs]
          refine sub_of _ [.old 0 ⟨24, 4, F.map ob⟩] (by simp [go_sem]) ?_
          simp [go_sem]
          try omega
      · have hil : i = L.length := by simp at hc; omega
        subst hil
        rw [List.take_length] at hfl ⊢
        have c6 := rwinner_m (L.filter (memB M)) P (by omega)
        have hzo := zone_ob (L.filter (memB M))
        have hpn := fun h => @potS_none L P M hok h
        have hps := fun (b : Bd) h => @pot_shape L P M b hok h
        have hp1 := fun (b : Bd) h (h1 : M.length = 1) => (show potS L P M = ([P], 0) from by rw [potS_some hok (b := b) h, if_pos h1])
        have hp2 := fun (b : Bd) h (h1 : M.length ≠ 1) => (show potS L P M = (insL (atI M b.w) (P - b.n) (evens b.n (M.length - 1)), 0) from by rw [potS_some hok (b := b) h, if_neg h1])
        have hwb := fun b => @winB_some L P M b
        unfold winB at hpn hps hp1 hp2 hwb
        cases hw : wins (L.filter (memB M)) P with
        | none =>
          have hpot := hpn (by rw [hw]; rfl)
          rw [winP_none hw] at c6
          rw [hpot]
          clear hpn hps hp1 hp2 hwb
          generalize L.filter (memB M) = F at *
          (repeat (first | refine awp_seq ?_ | refine awp_block ?_ | ((first | refine awp_runG [0, 1, 2, 6, 7, 8, 9, 10, 11, 12, 14, 15, 36, 40, 50, 65, 68, 86, 98] hX ?_ | refine awp_drawnG [0, 1, 2, 6, 7, 8, 9, 10, 11, 12, 14, 15, 36, 40, 50, 65, 68, 86, 98] hX mixed ?_ | refine awp_ret ?_ | refine awp_skip ?_ | refine awp_exit ?_); (simp [go_sem]; try (refine ⟨by kernel_rfl, ?_⟩)))))
          refine callK_intro (c6) rfl (by simp [go_sem]) (by simp [go_sem, hzo]) ?_
          try (simp [go_sem]; try (refine ⟨by kernel_rfl, ?_⟩))
          (repeat (first | refine awp_seq ?_ | refine awp_block ?_ | ((first | refine awp_runG [0, 1, 2, 6, 7, 8, 9, 10, 11, 12, 14, 15, 36, 40, 50, 65, 68, 86, 98] hX ?_ | refine awp_drawnG [0, 1, 2, 6, 7, 8, 9, 10, 11, 12, 14, 15, 36, 40, 50, 65, 68, 86, 98] hX mixed ?_ | refine awp_ret ?_ | refine awp_skip ?_ | refine awp_exit ?_); (simp [go_sem]; try (refine ⟨by kernel_rfl, ?_⟩)))))
          refine awp_cond (b := true) (by simp [go_sem]) (fun _ => ?_) (fun h => by cases h)
          (repeat (first | refine awp_seq ?_ | refine awp_block ?_ | ((first | refine awp_runG [0, 1, 2, 6, 7, 8, 9, 10, 11, 12, 14, 15, 36, 40, 50, 65, 68, 86, 98] hX ?_ | refine awp_drawnG [0, 1, 2, 6, 7, 8, 9, 10, 11, 12, 14, 15, 36, 40, 50, 65, 68, 86, 98] hX mixed ?_ | refine awp_ret ?_ | refine awp_skip ?_ | refine awp_exit ?_); (simp [go_sem]; try (refine ⟨by kernel_rfl, ?_⟩)))))
        | some w =>
          obtain ⟨hwl, hwc, _⟩ := wins_some.1 hw
          have hget : (Option.bind (some w) fun w => (L.filter (memB M))[w]?) = some (L.filter (memB M))[w] := by simp only [Option.bind_some, List.getElem?_eq_getElem hwl]
          have hP1' := hp1 _ (by rw [hw]; exact hget)
          have hP2' := hp2 _ (by rw [hw]; exact hget)
          obtain ⟨hbL, hbM, hbc⟩ := hwb _ (by rw [hw]; exact hget)
          clear hpn hps hwb hget hp1 hp2
          rw [winP_some hw] at c6
          have hq := nth_ob hwl
          obtain ⟨b, hb⟩ : ∃ b, (L.filter (memB M))[w] = b := ⟨_, rfl⟩
          rw [hb] at hP2' hbL hbM hbc hq
          have hbn : 0 ≤ b.n ∧ b.n ≤ P := by
            have h1 := ((okL_iff L).1 hok.1).1 b hbL
            simp only [cntB, Bool.and_eq_true, decide_eq_true_eq] at hbc
            simp only [okB, Bool.and_eq_true, hbc.1, if_true, coinB, decide_eq_true_eq] at h1
            omega
          obtain ⟨hat, hte⟩ := atI_lt hbM
          have hMn : ∀ i (hi : i < M.length), M[i] = b.w → i = atI M b.w := fun i hi h => by
            rw [← hte] at h
            have hnd := hMs.2.1
            rcases Nat.lt_trichotomy i (atI M b.w) with h1 | h1 | h1
            · exact absurd h (List.pairwise_iff_getElem.1 hnd i _ hi hat h1)
            · exact h1
            · exact absurd h.symm (List.pairwise_iff_getElem.1 hnd _ i hat hi h1)
          clear hb hwc
          generalize L.filter (memB M) = F at *
          (repeat (first | refine awp_seq ?_ | refine awp_block ?_ | ((first | refine awp_runG [0, 1, 2, 6, 7, 8, 9, 10, 11, 12, 14, 15, 36, 40, 50, 65, 68, 86, 98] hX ?_ | refine awp_drawnG [0, 1, 2, 6, 7, 8, 9, 10, 11, 12, 14, 15, 36, 40, 50, 65, 68, 86, 98] hX mixed ?_ | refine awp_ret ?_ | refine awp_skip ?_ | refine awp_exit ?_); (simp [go_sem]; try (refine ⟨by kernel_rfl, ?_⟩)))))
          refine callK_intro (c6) rfl (by simp [go_sem]) (by simp [go_sem, hzo]) ?_
          try (simp [go_sem]; try (refine ⟨by kernel_rfl, ?_⟩))
          (repeat (first | refine awp_seq ?_ | refine awp_block ?_ | ((first | refine awp_runG [0, 1, 2, 6, 7, 8, 9, 10, 11, 12, 14, 15, 36, 40, 50, 65, 68, 86, 98] hX ?_ | refine awp_drawnG [0, 1, 2, 6, 7, 8, 9, 10, 11, 12, 14, 15, 36, 40, 50, 65, 68, 86, 98] hX mixed ?_ | refine awp_ret ?_ | refine awp_skip ?_ | refine awp_exit ?_); (simp [go_sem]; try (refine ⟨by kernel_rfl, ?_⟩)))))
          refine awp_cond (b := false) (by simp [go_sem]) (fun h => by cases h) (fun _ => ?_)
          (repeat (first | refine awp_seq ?_ | refine awp_block ?_ | ((first | refine awp_runG [0, 1, 2, 6, 7, 8, 9, 10, 11, 12, 14, 15, 36, 40, 50, 65, 68, 86, 98] hX ?_ | refine awp_drawnG [0, 1, 2, 6, 7, 8, 9, 10, 11, 12, 14, 15, 36, 40, 50, 65, 68, 86, 98] hX mixed ?_ | refine awp_ret ?_ | refine awp_skip ?_ | refine awp_exit ?_); (simp [go_sem]; try (refine ⟨by kernel_rfl, ?_⟩)))))
          refine awp_cond (b := decide (M.length = 1)) (by simp [go_sem]; try omega) (fun h1 => ?_) (fun h1 => ?_)
          · simp only [decide_eq_true_eq] at h1
            rw [hP1' h1]
            (repeat (first | refine awp_seq ?_ | refine awp_block ?_ | ((first | refine awp_runG [0, 1, 2, 6, 7, 8, 9, 10, 11, 12, 14, 15, 36, 40, 50, 65, 68, 86, 98] hX ?_ | refine awp_drawnG [0, 1, 2, 6, 7, 8, 9, 10, 11, 12, 14, 15, 36, 40, 50, 65, 68, 86, 98] hX mixed ?_ | refine awp_ret ?_ | refine awp_skip ?_ | refine awp_exit ?_); (simp [go_sem]; try (refine ⟨by kernel_rfl, ?_⟩)))))
          · simp only [decide_eq_false_iff_not] at h1
            rw [hP2' h1]
            have hev := reven_m b.n ((M.length - 1 : Nat) : Int)
            have hcond : isAm b.n = true ∧ 1 ≤ ((M.length - 1 : Nat) : Int) ∧ ((M.length - 1 : Nat) : Int) ≤ 60 := ⟨by simp [isAm]; omega, by omega, by omega⟩
            rw [if_pos hcond, if_pos hcond, Int.toNat_natCast] at hev
            have heq : wtd (List.replicate (M.length - 1) 1) b.n = evens b.n (M.length - 1) := rfl
            rw [heq] at hev
            have hal := evens_len b.n (M.length - 1)
            have hm1 := w64 (x := ((M.length - 1 : Nat) : Int)) (by omega) (by omega)
            have hmn : (M.length : Int) - 1 = ((M.length - 1 : Nat) : Int) := by have := hMs.2.2.1; omega
            have hsub := w64 (x := P - b.n) (by omega) (by omega)
            generalize evens b.n (M.length - 1) = A at *
            generalize atI M b.w = t at *
            have htA : t ≤ A.length := by omega
            have hg := insL_get (A := A) (t := t) (v := P - b.n) htA
            have hlen := insL_len (y := P - b.n) htA
            generalize insL t (P - b.n) A = S at *
            (repeat (first | refine awp_seq ?_ | refine awp_block ?_ | ((first | refine awp_runG [0, 1, 2, 6, 7, 8, 9, 10, 11, 12, 14, 15, 36, 40, 50, 65, 68, 86, 98] hX ?_ | refine awp_drawnG [0, 1, 2, 6, 7, 8, 9, 10, 11, 12, 14, 15, 36, 40, 50, 65, 68, 86, 98] hX mixed ?_ | refine awp_ret ?_ | refine awp_skip ?_ | refine awp_exit ?_); (simp [go_sem, hwl, hq, hm1, hmn]; try (refine ⟨by kernel_rfl, ?_⟩)))))
            first | refine callK_intro (hev) rfl (by simp [go_sem]) rfl ?_ | refine callT_intro (hev) rfl (by simp [go_sem]) rfl ?_
            try (simp [go_sem, hwl, hq, hm1, hmn]; try (refine ⟨by kernel_rfl, ?_⟩))
            (repeat (first | refine awp_seq ?_ | refine awp_block ?_ | ((first | refine awp_runG [0, 1, 2, 6, 7, 8, 9, 10, 11, 12, 14, 15, 36, 40, 50, 65, 68, 86, 98] hX ?_ | refine awp_drawnG [0, 1, 2, 6, 7, 8, 9, 10, 11, 12, 14, 15, 36, 40, 50, 65, 68, 86, 98] hX mixed ?_ | refine awp_ret ?_ | refine awp_skip ?_ | refine awp_exit ?_); (simp [go_sem]; try (refine ⟨by kernel_rfl, ?_⟩)))))
            refine awp_loop (fun i : Nat => ⟨mkE [(0, bl L), (1, ii P), (2, il M), (8, .ow 0), (10, ii w), (12, il (A.drop (if i ≤ t then i else i - 1))), (14, .ow 1), (15, ii i)], [rowB F, rowI (S.take i)]⟩) (fun i => i ≤ M.length) (fun i => M.length - i) 0 ?_ ?_ ?_
            · refine sub_of _ [.old 0 ⟨24, 4, F.map ob⟩, .birth 3 1] (by simp [go_sem]) ?_
              simp [go_sem]
            · omega
            · intro i hi
              (repeat (first | refine awp_seq ?_ | refine awp_block ?_ | ((first | refine awp_runG [0, 1, 2, 6, 7, 8, 9, 10, 11, 12, 14, 15, 36, 40, 50, 65, 68, 86, 98] hX ?_ | refine awp_drawnG [0, 1, 2, 6, 7, 8, 9, 10, 11, 12, 14, 15, 36, 40, 50, 65, 68, 86, 98] hX mixed ?_ | refine awp_ret ?_ | refine awp_skip ?_ | refine awp_exit ?_); (simp [go_sem]; try (refine ⟨by kernel_rfl, ?_⟩)))))
              refine awp_cond (b := decide (i < M.length)) (by simp [go_sem]) (fun hd => ?_) (fun hd => ?_)
              · simp at hd
                have s1 := nth_ii hd
                have hiS : i < S.length := by omega
                have hst : S.take (i + 1) = S.take i ++ [S[i]] := List.take_succ_eq_append_getElem hiS
                have hgi := hg i
                rw [List.getElem?_eq_getElem hiS] at hgi
                have wi := w64 (x := (i : Int) + 1) (by omega) (by omega)
                have hmi := hMn i hd
                have htl : (S.take i).length ≤ 60 := by simp; omega
                generalize hSi : S[i] = z at *
                generalize hMi : M[i] = y at *
                generalize S.take i = D at *
                by_cases hit : i = t
                · have hz : z = P - b.n := by
                    rw [if_neg (by omega), if_pos hit] at hgi
                    simpa using hgi
                  have hyw : y = b.w := by subst hit; rw [← hMi]; exact hte
                  have hdr : (if i + 1 ≤ t then i + 1 else i + 1 - 1) = (if i ≤ t then i else i - 1) := by rw [if_neg (by omega), if_pos (by omega)]; rfl
                  (repeat (first | refine awp_seq ?_ | refine awp_block ?_ | ((first | refine awp_runG [0, 1, 2, 6, 7, 8, 9, 10, 11, 12, 14, 15, 36, 40, 50, 65, 68, 86, 98] hX ?_ | refine awp_drawnG [0, 1, 2, 6, 7, 8, 9, 10, 11, 12, 14, 15, 36, 40, 50, 65, 68, 86, 98] hX mixed ?_ | refine awp_ret ?_ | refine awp_skip ?_ | refine awp_exit ?_); (simp [go_sem, hd, s1, hwl, hq]; try (refine ⟨by kernel_rfl, ?_⟩)))))
                  try (simp [go_sem, hd, s1, hwl, hq]; try (refine ⟨by kernel_rfl, ?_⟩))
                  refine awp_cond (b := true) (by simp [go_sem, hyw]) (fun _ => ?_) (fun h => by cases h)
                  (repeat (first | refine awp_seq ?_ | refine awp_block ?_ | ((first | refine awp_runG [0, 1, 2, 6, 7, 8, 9, 10, 11, 12, 14, 15, 36, 40, 50, 65, 68, 86, 98] hX ?_ | refine awp_drawnG [0, 1, 2, 6, 7, 8, 9, 10, 11, 12, 14, 15, 36, 40, 50, 65, 68, 86, 98] hX mixed ?_ | refine awp_ret ?_ | refine awp_skip ?_ | refine awp_exit ?_); (simp [go_sem, hwl, hq, hsub]; try (refine ⟨by kernel_rfl, ?_⟩)))))
                  try (repeat refine And.intro (by first | omega | (unfold maxLen; omega) | kernel_rfl | (refine ⟨by first | omega | (unfold maxLen; omega), by first | omega | (unfold maxLen; omega)⟩) | grind) ?_)
                  try (repeat (first | refine awp_seq ?_ | refine awp_block ?_ | ((first | refine awp_runG [0, 1, 2, 6, 7, 8, 9, 10, 11, 12, 14, 15, 36, 40, 50, 65, 68, 86, 98] hX ?_ | refine awp_drawnG [0, 1, 2, 6, 7, 8, 9, 10, 11, 12, 14, 15, 36, 40, 50, 65, 68, 86, 98] hX mixed ?_ | refine awp_ret ?_ | refine awp_skip ?_ | refine awp_exit ?_); (simp [go_sem, hwl, hq, hsub, wi]; try (refine ⟨by kernel_rfl, ?_⟩)))))
                  refine ⟨i + 1, by omega, by omega, ?_⟩
                  rw [hst, hz, hdr]
                  refine sub_of _ [.old 0 ⟨24, 4, F.map ob⟩, .old 3 ⟨3, 1, (D ++ [P - b.n]).map ii⟩] (by simp [go_sem]) ?_
                  simp [go_sem]
                  try omega
                · obtain ⟨j, hj⟩ : ∃ j, j = if i < t then i else i - 1 := ⟨_, rfl⟩
                  have hjA : j < A.length := by split at hj <;> omega
                  have hz : A[j] = z := by
                    have : A[j]? = some z := by
                      by_cases h2 : i < t
                      · rw [if_pos h2] at hgi hj
                        rw [hj]; exact hgi.symm
                      · rw [if_neg h2] at hgi hj
                        rw [if_neg hit] at hgi
                        rw [hj]; exact hgi.symm
                    rw [List.getElem?_eq_getElem hjA] at this
                    simpa using this
                  have hd1 : (if i ≤ t then i else i - 1) = j := by
                    by_cases h2 : i < t
                    · rw [if_pos (by omega), hj, if_pos h2]
                    · rw [if_neg (by omega), hj, if_neg h2]
                  have hd2 : (if i + 1 ≤ t then i + 1 else i + 1 - 1) = j + 1 := by
                    by_cases h2 : i < t
                    · rw [if_pos (by omega), hj, if_pos h2]
                    · rw [if_neg (by omega), hj, if_neg h2]; omega
                  have hdc : A.drop j = z :: A.drop (j + 1) := by rw [List.drop_eq_getElem_cons hjA, hz]
                  have hyw : ¬ y = b.w := fun h => hit (hmi h)
                  rw [hd1, hdc]
                  generalize hR : A.drop (j + 1) = R at *
                  (repeat (first | refine awp_seq ?_ | refine awp_block ?_ | ((first | refine awp_runG [0, 1, 2, 6, 7, 8, 9, 10, 11, 12, 14, 15, 36, 40, 50, 65, 68, 86, 98] hX ?_ | refine awp_drawnG [0, 1, 2, 6, 7, 8, 9, 10, 11, 12, 14, 15, 36, 40, 50, 65, 68, 86, 98] hX mixed ?_ | refine awp_ret ?_ | refine awp_skip ?_ | refine awp_exit ?_); (simp [go_sem, hd, s1, hwl, hq]; try (refine ⟨by kernel_rfl, ?_⟩)))))
                  try (simp [go_sem, hd, s1, hwl, hq]; try (refine ⟨by kernel_rfl, ?_⟩))
                  refine awp_cond (b := false) (by simp [go_sem, hyw]) (fun h => by cases h) (fun _ => ?_)
                  (repeat (first | refine awp_seq ?_ | refine awp_block ?_ | ((first | refine awp_runG [0, 1, 2, 6, 7, 8, 9, 10, 11, 12, 14, 15, 36, 40, 50, 65, 68, 86, 98] hX ?_ | refine awp_drawnG [0, 1, 2, 6, 7, 8, 9, 10, 11, 12, 14, 15, 36, 40, 50, 65, 68, 86, 98] hX mixed ?_ | refine awp_ret ?_ | refine awp_skip ?_ | refine awp_exit ?_); (simp [go_sem]; try (refine ⟨by kernel_rfl, ?_⟩)))))
                  try (repeat refine And.intro (by first | omega | (unfold maxLen; omega) | kernel_rfl | (refine ⟨by first | omega | (unfold maxLen; omega), by first | omega | (unfold maxLen; omega)⟩) | grind) ?_)
                  try (repeat (first | refine awp_seq ?_ | refine awp_block ?_ | ((first | refine awp_runG [0, 1, 2, 6, 7, 8, 9, 10, 11, 12, 14, 15, 36, 40, 50, 65, 68, 86, 98] hX ?_ | refine awp_drawnG [0, 1, 2, 6, 7, 8, 9, 10, 11, 12, 14, 15, 36, 40, 50, 65, 68, 86, 98] hX mixed ?_ | refine awp_ret ?_ | refine awp_skip ?_ | refine awp_exit ?_); (simp [go_sem, wi]; try (refine ⟨by kernel_rfl, ?_⟩)))))
                  try (repeat refine And.intro (by first | omega | (unfold maxLen; omega) | kernel_rfl | (refine ⟨by first | omega | (unfold maxLen; omega), by first | omega | (unfold maxLen; omega)⟩) | grind) ?_)
                  try (repeat (first | refine awp_seq ?_ | refine awp_block ?_ | ((first | refine awp_runG [0, 1, 2, 6, 7, 8, 9, 10, 11, 12, 14, 15, 36, 40, 50, 65, 68, 86, 98] hX ?_ | refine awp_drawnG [0, 1, 2, 6, 7, 8, 9, 10, 11, 12, 14, 15, 36, 40, 50, 65, 68, 86, 98] hX mixed ?_ | refine awp_ret ?_ | refine awp_skip ?_ | refine awp_exit ?_); (simp [go_sem, wi]; try (refine ⟨by kernel_rfl, ?_⟩)))))
                  refine ⟨i + 1, by omega, by omega, ?_⟩
                  rw [hst, hd2, hR]
                  refine sub_of _ [.old 0 ⟨24, 4, F.map ob⟩, .old 3 ⟨3, 1, (D ++ [z]).map ii⟩] (by simp [go_sem]) ?_
                  simp [go_sem]
                  try omega
              · have hil : i = S.length := by simp at hd; omega
                rw [hil, List.take_length]
                (repeat (first | refine awp_seq ?_ | refine awp_block ?_ | ((first | refine awp_runG [0, 1, 2, 6, 7, 8, 9, 10, 11, 12, 14, 15, 36, 40, 50, 65, 68, 86, 98] hX ?_ | refine awp_drawnG [0, 1, 2, 6, 7, 8, 9, 10, 11, 12, 14, 15, 36, 40, 50, 65, 68, 86, 98] hX mixed ?_ | refine awp_ret ?_ | refine awp_skip ?_ | refine awp_exit ?_); (simp [go_sem]; try (refine ⟨by kernel_rfl, ?_⟩)))))
  · have e : potS L P M = ([], 1) := by unfold potS; rw [if_neg hok]
    rw [e]
    refine means_fn true 118 [.tmp 6, .tmp 7] Tryd.func14 rfl rfl rfl (by simp) (by decide) rfl fun X hX => ?_
    (repeat (first | refine awp_seq ?_ | refine awp_block ?_ | ((first | refine awp_runG [0, 1, 2, 6, 7, 8, 9, 10, 11, 12, 14, 15, 36, 40, 50, 65, 68, 86, 98] hX ?_ | refine awp_drawnG [0, 1, 2, 6, 7, 8, 9, 10, 11, 12, 14, 15, 36, 40, 50, 65, 68, 86, 98] hX mixed ?_ | refine awp_ret ?_ | refine awp_skip ?_ | refine awp_exit ?_); (simp [go_sem]; try (refine ⟨by kernel_rfl, ?_⟩)))))
    first | refine callG_intro (fun hg => c1) rfl (by simp [go_sem]) rfl ?_ | refine callGT_intro (fun hg => c1) rfl (by simp [go_sem]) rfl ?_
    try (simp [go_sem]; try (refine ⟨by kernel_rfl, ?_⟩))
    first | refine callG_intro (fun hg => c2) rfl (by simp [go_sem]) rfl ?_ | refine callGT_intro (fun hg => c2) rfl (by simp [go_sem]) rfl ?_
    try (simp [go_sem]; try (refine ⟨by kernel_rfl, ?_⟩))
    refine awp_cond (b := true) (by
      simp [go_sem]
      simp [coinB] at hok
      cases h1 : okL L <;> cases h2 : okMb M <;> simp_all <;> omega) (fun _ => ?_) (fun h => by cases h)
    (repeat (first | refine awp_seq ?_ | refine awp_block ?_ | ((first | refine awp_runG [0, 1, 2, 6, 7, 8, 9, 10, 11, 12, 14, 15, 36, 40, 50, 65, 68, 86, 98] hX ?_ | refine awp_drawnG [0, 1, 2, 6, 7, 8, 9, 10, 11, 12, 14, 15, 36, 40, 50, 65, 68, 86, 98] hX mixed ?_ | refine awp_ret ?_ | refine awp_skip ?_ | refine awp_exit ?_); (simp [go_sem]; try (refine ⟨by kernel_rfl, ?_⟩)))))
end Go.Proofs.YtjgkjenbgadacaaDoor

namespace Go.Proofs.YtjgkjenbgadacaaDoor
open Go.RowKit Go.Ab
theorem dig_str (w : World) (x : Int) (h0 : 0 ≤ x) (h1 : x < 256) (fr : Nat × Nat) (c : Nat) : (convert 97 9 (.slice (some ⟨w.heap.size, 0, none⟩) 1 c)).run Tryd.prog (w.alloc (.cells #[.int .u8 x] 5 fr)) = .ok (.string ⟨#[UInt8.ofNat x.toNat]⟩) (w.alloc (.cells #[.int .u8 x] 5 fr)) := by
  have := run_convert_bytes_back (P := Tryd.prog) (w.alloc (.cells #[.int .u8 x] 5 fr)) 97 9 5 ⟨w.heap.size, 0, none⟩ c [UInt8.ofNat x.toNat] Tryd.underlying97 Tryd.underlying5 Tryd.underlying9 (fun j hj => by
    have hj0 : j = 0 := by simpa using hj
    subst hj0
    have := World.cell?_alloc_mark w #[.int .u8 x] 5 fr 0
    simp only [Addr.add]
    simp at this ⊢
    rw [this]
    simp
    omega)
  simpa using this
theorem dl_le : ∀ (k u : Nat), u < 10 ^ (k + 1) → (Lib.decDigits u).length ≤ k + 1
  | 0, u, h => by rw [Lib.decDigits_one (by simpa using h)]; simp
  | k + 1, u, h => by
    by_cases hu : u < 10
    · rw [Lib.decDigits_one hu]; simp
    · rw [Lib.decDigits, dif_neg hu]
      have := dl_le k (u / 10) (by rw [Nat.pow_succ] at h; omega)
      simp; omega
theorem dl20 (u : Nat) (h : u ≤ 9223372036854775808) : (Lib.decDigits u).length ≤ 20 := by
  have := dl_le 18 u (by omega)
  omega
set_option maxRecDepth 20000 in
set_option maxHeartbeats 4000000 in
theorem digits_w (k : Nat) : ∀ (u : Nat) (w : World), u < 10 ^ (k + 1) → u ≤ 9223372036854775808 →
    Calls Tryd.prog 77 #[.int .i64 (-(u : Int))] w fun e w' => e = .returned (.string ⟨(Lib.decDigits u).toArray⟩) ∧ Below w.heap.size w w' := by
  induction k with
  | zero =>
    intro u w hk h1
    have hu : u < 10 := by simpa using hk
    have hr : (-(u : Int)).tmod 10 = -((u % 10 : Nat) : Int) := by rw [Int.neg_tmod]; rfl
    have hw : wrap64 (48 - -((u % 10 : Nat) : Int)) % 256 = ((48 + u % 10 : Nat) : Int) := by unfold wrap64; omega
    have hcv := dig_str w (48 + (u : Int) % 10) (by omega) (by omega) (0, 0) 1
    have ht : UInt8.ofNat (48 + (u : Int) % 10).toNat = UInt8.ofNat (48 + u) := by
      congr 1; omega
    rw [ht] at hcv
    have hd : Lib.decDigits u = [UInt8.ofNat (48 + u)] := Lib.decDigits_one hu
    have hgt : (-(u : Int)) > -10 := by omega
    go_enter Tryd.func77, Tryd.ntmps77
    go_wp2_with (first | simp only [hcv] | simp only [hr, hw, hgt])
    go_ret
    rw [hd]
    exact ⟨by simp, Below.alloc (Below.refl _ _) (Nat.le_refl _) _⟩
  | succ k ih =>
    intro u w hk h1
    have hr : (-(u : Int)).tmod 10 = -((u % 10 : Nat) : Int) := by rw [Int.neg_tmod]; rfl
    have hq : (-(u : Int)).tdiv 10 = -((u / 10 : Nat) : Int) := by rw [Int.neg_tdiv]; rfl
    have hw : wrap64 (48 - -((u % 10 : Nat) : Int)) % 256 = ((48 + u % 10 : Nat) : Int) := by unfold wrap64; omega
    have hcv := dig_str w (48 + (u : Int) % 10) (by omega) (by omega) (0, 0) 1
    have ht : UInt8.ofNat (48 + (u : Int) % 10).toNat = UInt8.ofNat (48 + u % 10) := by
      congr 1
    rw [ht] at hcv
    by_cases hu : u < 10
    · have hd : Lib.decDigits u = [UInt8.ofNat (48 + u % 10)] := by rw [Lib.decDigits_one hu, Nat.mod_eq_of_lt hu]
      have hgt : (-(u : Int)) > -10 := by omega
      go_enter Tryd.func77, Tryd.ntmps77
      go_wp2_with (first | simp only [hcv] | simp only [hr, hw, hgt])
      go_ret
      rw [hd]
      exact ⟨by simp, Below.alloc (Below.refl _ _) (Nat.le_refl _) _⟩
    · have hd : Lib.decDigits u = Lib.decDigits (u / 10) ++ [UInt8.ofNat (48 + u % 10)] := by rw [Lib.decDigits, dif_neg hu]
      have hgt : ¬ (-(u : Int)) > -10 := by omega
      have hlen : ¬ 9223372036854775807 < (Lib.decDigits (u / 10)).length + 1 := by
        have := dl20 (u / 10) (by omega)
        omega
      go_enter Tryd.func77, Tryd.ntmps77
      go_wp2_with (first | simp only [hcv] | simp only [hr, hw, hgt, hq] | (go_at_call 77; refine (ih (u / 10) _ (by omega) (by omega)).mono ?_; rintro e w' ⟨rfl, hb⟩))
      go_ret
      refine ⟨?_, (Below.alloc (Below.refl _ _) (Nat.le_refl _) _).trans (hb.mono (by simp))⟩
      simp [hd, ByteArray.ext_iff]
theorem digits_m (n : Int) (h0 : n ≤ 0) (h1 : -9223372036854775808 ≤ n) : Means true Tryd.prog 77 [ii n] (sb (Lib.decDigits n.natAbs)) := by
  intro M w vs hM _ hl hvs
  have : vs = #[.int .i64 (-(n.natAbs : Int))] := by
    apply Array.ext
    · simpa using hl
    · intro i h1 h2
      have hi : i = 0 := by simpa using h2
      subst hi
      have := (hvs 0 vs[0] (ii n) (Array.getElem?_eq_getElem h1) rfl).rep (loc := fun _ => undef) |>.v_inv
      rw [this]
      simp
      omega
  subst this
  have hlt : n.natAbs < 10 ^ (18 + 1) := by have : (10:Nat) ^ (18 + 1) = 10000000000000000000 := by decide
                                            omega
  exact (digits_w 18 n.natAbs w hlt (by omega)).mono fun e w' ⟨he, hb⟩ => ⟨_, he, hb, .v _⟩
attribute [local irreducible] AWP Go.Ab.Sub Means MeansH CallK CallG CallT CallGT CallU
theorem rint_m (n : Int) (h0 : 0 ≤ n) (h1 : n ≤ 9223372036854775807) : Means true Tryd.prog 62 [ii n] (sb (numT n)) := by
  have c1 := digits_m (-n) (by omega) (by omega)
  have hl := dd_len ⟨h0, h1⟩
  have en : (-n).natAbs = n.toNat := by omega
  rw [en] at c1
  have e : numT n = Lib.decDigits n.toNat ++ [59] := if_neg (by omega)
  rw [e]
  generalize Lib.decDigits n.toNat = D at *
  have hn := w64 (x := -n) (by omega) (by omega)
  have hn2 : (0 : Int) - n = -n := by omega
  have hlt : ¬ n < 0 := by omega
  refine means_fn true 13 [.tmp 2] Tryd.func62 rfl rfl rfl (by simp) (by decide) rfl fun X hX => ?_
  (repeat (first | refine awp_seq ?_ | refine awp_block ?_ | ((first | refine awp_runG [0, 2, 4] hX ?_ | refine awp_drawnG [0, 2, 4] hX mixed ?_ | refine awp_ret ?_ | refine awp_skip ?_ | refine awp_exit ?_); (simp [go_sem]; try (refine ⟨by kernel_rfl, ?_⟩)))))
  refine awp_cond (b := false) (by simp [go_sem, hlt]) (fun hb => by cases hb) (fun _ => ?_)
  (repeat (first | refine awp_seq ?_ | refine awp_block ?_ | ((first | refine awp_runG [0, 2, 4] hX ?_ | refine awp_drawnG [0, 2, 4] hX mixed ?_ | refine awp_ret ?_ | refine awp_skip ?_ | refine awp_exit ?_); (simp [go_sem, hn, hn2]; try (refine ⟨by kernel_rfl, ?_⟩)))))
  first | refine callK_intro (c1) rfl (by simp [go_sem]) rfl ?_ | refine callT_intro (c1) rfl (by simp [go_sem]) rfl ?_
  try (simp [go_sem]; try (refine ⟨by kernel_rfl, ?_⟩))
  (repeat (first | refine awp_seq ?_ | refine awp_block ?_ | ((first | refine awp_runG [0, 2, 4] hX ?_ | refine awp_drawnG [0, 2, 4] hX mixed ?_ | refine awp_ret ?_ | refine awp_skip ?_ | refine awp_exit ?_); (simp [go_sem]; try (refine ⟨by kernel_rfl, ?_⟩)))))
  try (repeat refine And.intro (by first | omega | (unfold maxLen; omega) | kernel_rfl | (refine ⟨by first | omega | (unfold maxLen; omega), by first | omega | (unfold maxLen; omega)⟩) | grind) ?_)
  try (repeat (first | refine awp_seq ?_ | refine awp_block ?_ | ((first | refine awp_runG [0, 2, 4] hX ?_ | refine awp_drawnG [0, 2, 4] hX mixed ?_ | refine awp_ret ?_ | refine awp_skip ?_ | refine awp_exit ?_); (simp [go_sem]; try (refine ⟨by kernel_rfl, ?_⟩)))))
theorem rnum_m (n : Int) (h1 : n ≤ 9223372036854775807) : Means true Tryd.prog 49 [ii n] (sb (numT n)) := by
  by_cases h : n < 0
  · have e : numT n = [] := if_pos h
    rw [e]
    refine means_fn true 7 [.tmp 2] Tryd.func49 rfl rfl rfl (by simp) (by decide) rfl fun X hX => ?_
    (repeat (first | refine awp_seq ?_ | refine awp_block ?_ | ((first | refine awp_runG [0, 2, 4] hX ?_ | refine awp_drawnG [0, 2, 4] hX mixed ?_ | refine awp_ret ?_ | refine awp_skip ?_ | refine awp_exit ?_); (simp [go_sem]; try (refine ⟨by kernel_rfl, ?_⟩)))))
    refine awp_cond (b := true) (by simp [go_sem, h]) (fun _ => ?_) (fun hb => by cases hb)
    (repeat (first | refine awp_seq ?_ | refine awp_block ?_ | ((first | refine awp_runG [0, 2, 4] hX ?_ | refine awp_drawnG [0, 2, 4] hX mixed ?_ | refine awp_ret ?_ | refine awp_skip ?_ | refine awp_exit ?_); (simp [go_sem]; try (refine ⟨by kernel_rfl, ?_⟩)))))
  · have c1 := rint_m n (by omega) h1
    refine means_fn true 7 [.tmp 2] Tryd.func49 rfl rfl rfl (by simp) (by decide) rfl fun X hX => ?_
    (repeat (first | refine awp_seq ?_ | refine awp_block ?_ | ((first | refine awp_runG [0, 2, 4] hX ?_ | refine awp_drawnG [0, 2, 4] hX mixed ?_ | refine awp_ret ?_ | refine awp_skip ?_ | refine awp_exit ?_); (simp [go_sem]; try (refine ⟨by kernel_rfl, ?_⟩)))))
    refine awp_cond (b := false) (by simp [go_sem]; omega) (fun hb => by cases hb) (fun _ => ?_)
    (repeat (first | refine awp_seq ?_ | refine awp_block ?_ | ((first | refine awp_runG [0, 2, 4] hX ?_ | refine awp_drawnG [0, 2, 4] hX mixed ?_ | refine awp_ret ?_ | refine awp_skip ?_ | refine awp_exit ?_); (simp [go_sem]; try (refine ⟨by kernel_rfl, ?_⟩)))))
    first | refine callK_intro (c1) rfl (by simp [go_sem]) rfl ?_ | refine callT_intro (c1) rfl (by simp [go_sem]) rfl ?_
    try (simp [go_sem]; try (refine ⟨by kernel_rfl, ?_⟩))
    (repeat (first | refine awp_seq ?_ | refine awp_block ?_ | ((first | refine awp_runG [0, 2, 4] hX ?_ | refine awp_drawnG [0, 2, 4] hX mixed ?_ | refine awp_ret ?_ | refine awp_skip ?_ | refine awp_exit ?_); (simp [go_sem]; try (refine ⟨by kernel_rfl, ?_⟩)))))
theorem rhidden_m (c p n : Int) (hc : c ≤ 9223372036854775807) (hp : p ≤ 9223372036854775807) (hn : n ≤ 9223372036854775807) : Means true Tryd.prog 24 [ii c, ii p, ii n] (sb (hidT c p n)) := by
  by_cases h : c < 0 ∨ p < 0 ∨ n < 0
  · have e : hidT c p n = [] := if_pos h
    rw [e]
    refine means_fn true 26 [.tmp 6] Tryd.func24 rfl rfl rfl (by simp) (by decide) rfl fun X hX => ?_
    (repeat (first | refine awp_seq ?_ | refine awp_block ?_ | ((first | refine awp_runG [0, 1, 2, 6, 16] hX ?_ | refine awp_drawnG [0, 1, 2, 6, 16] hX mixed ?_ | refine awp_ret ?_ | refine awp_skip ?_ | refine awp_exit ?_); (simp [go_sem]; try (refine ⟨by kernel_rfl, ?_⟩)))))
    refine awp_cond (b := true) (by simp [go_sem]; omega) (fun _ => ?_) (fun hb => by cases hb)
    (repeat (first | refine awp_seq ?_ | refine awp_block ?_ | ((first | refine awp_runG [0, 1, 2, 6, 16] hX ?_ | refine awp_drawnG [0, 1, 2, 6, 16] hX mixed ?_ | refine awp_ret ?_ | refine awp_skip ?_ | refine awp_exit ?_); (simp [go_sem]; try (refine ⟨by kernel_rfl, ?_⟩)))))
  · have e : hidT c p n = [98, 105, 100, 58] ++ numT c ++ numT p ++ numT n := if_neg h
    rw [e]
    have c1 := rnum_m c hc
    have c2 := rnum_m p hp
    have c3 := rnum_m n hn
    have l1 := numT_len hc
    have l2 := numT_len hp
    have l3 := numT_len hn
    have es : ∀ l : List UInt8, (⟨#[98, 105, 100, 58]⟩ : ByteArray) ++ ⟨l.toArray⟩ = ⟨([98, 105, 100, 58] ++ l).toArray⟩ := fun l => sb_app [98, 105, 100, 58] l
    have ez : (⟨#[98, 105, 100, 58]⟩ : ByteArray).size = 4 := rfl
    have hmn : ¬ min (min c p) n < 0 := by omega
    generalize numT c = A at *
    generalize numT p = B at *
    generalize numT n = C at *
    refine means_fn true 26 [.tmp 6] Tryd.func24 rfl rfl rfl (by simp) (by decide) rfl fun X hX => ?_
    (repeat (first | refine awp_seq ?_ | refine awp_block ?_ | ((first | refine awp_runG [0, 1, 2, 6, 16] hX ?_ | refine awp_drawnG [0, 1, 2, 6, 16] hX mixed ?_ | refine awp_ret ?_ | refine awp_skip ?_ | refine awp_exit ?_); (simp [go_sem]; try (refine ⟨by kernel_rfl, ?_⟩)))))
    refine awp_cond (b := false) (by simp [go_sem]; omega) (fun hb => by cases hb) (fun _ => ?_)
    (repeat (first | refine awp_seq ?_ | refine awp_block ?_ | ((first | refine awp_runG [0, 1, 2, 6, 16] hX ?_ | refine awp_drawnG [0, 1, 2, 6, 16] hX mixed ?_ | refine awp_ret ?_ | refine awp_skip ?_ | refine awp_exit ?_); (simp [go_sem]; try (refine ⟨by kernel_rfl, ?_⟩)))))
    first | refine callK_intro (c1) rfl (by simp [go_sem]) rfl ?_ | refine callT_intro (c1) rfl (by simp [go_sem]) rfl ?_
    try (simp [go_sem, es, ez]; try (refine ⟨by kernel_rfl, ?_⟩))
    try (repeat refine And.intro (by first | omega | (unfold maxLen; omega) | kernel_rfl | (refine ⟨by first | omega | (unfold maxLen; omega), by first | omega | (unfold maxLen; omega)⟩) | grind) ?_)
    try (simp [go_sem, es, ez]; try (refine ⟨by kernel_rfl, ?_⟩))
    first | refine callK_intro (c2) rfl (by simp [go_sem]) rfl ?_ | refine callT_intro (c2) rfl (by simp [go_sem]) rfl ?_
    try (simp [go_sem, es, ez]; try (refine ⟨by kernel_rfl, ?_⟩))
    try (repeat refine And.intro (by first | omega | (unfold maxLen; omega) | kernel_rfl | (refine ⟨by first | omega | (unfold maxLen; omega), by first | omega | (unfold maxLen; omega)⟩) | grind) ?_)
    try (simp [go_sem, es, ez]; try (refine ⟨by kernel_rfl, ?_⟩))
    first | refine callK_intro (c3) rfl (by simp [go_sem]) rfl ?_ | refine callT_intro (c3) rfl (by simp [go_sem]) rfl ?_
    try (simp [go_sem, es, ez]; try (refine ⟨by kernel_rfl, ?_⟩))
    try (repeat refine And.intro (by first | omega | (unfold maxLen; omega) | kernel_rfl | (refine ⟨by first | omega | (unfold maxLen; omega), by first | omega | (unfold maxLen; omega)⟩) | grind) ?_)
    try (simp [go_sem, es, ez]; try (refine ⟨by kernel_rfl, ?_⟩))
    (repeat (first | refine awp_seq ?_ | refine awp_block ?_ | ((first | refine awp_runG [0, 1, 2, 6, 16] hX ?_ | refine awp_drawnG [0, 1, 2, 6, 16] hX mixed ?_ | refine awp_ret ?_ | refine awp_skip ?_ | refine awp_exit ?_); (simp [go_sem]; try (refine ⟨by kernel_rfl, ?_⟩)))))
end Go.Proofs.YtjgkjenbgadacaaDoor

namespace Go.Proofs.YtjgkjenbgadacaaDoor
open Go.RowKit Go.Ab
attribute [local irreducible] AWP Go.Ab.Sub Means MeansH CallK CallG CallT CallGT CallU
theorem put_len (L : List Bd) (b : Bd) : (put L b).1.length ≤ L.length + 1 := by
  unfold put
  split
  · split <;> simp
  · simp
theorem opn_len (L : List Bd) (m n : Int) : (opn L m n).1.length ≤ L.length := by
  unfold opn
  repeat' split
  all_goals simp
theorem potS_len (L : List Bd) (P : Int) (M : List Int) : (potS L P M).1.length ≤ M.length + 1 := by
  unfold potS
  split
  · split
    · simp
    · rename_i b hb
      split
      · simp
      · have := insL_len (y := P - b.n) (show atI M b.w ≤ (evens b.n (M.length - 1)).length by
          rw [evens_len]
          have := (atI_lt (winB_some hb).2.1).1
          omega)
        rw [this, evens_len]
        omega
  · simp
theorem bytes_beq (h : List UInt8) : (({ data := h.toArray } : ByteArray) == { data := h.toArray }) = true := by
  show (h.toArray == h.toArray) = true
  simp
set_option maxHeartbeats 32000000 in
set_option maxRecDepth 20000 in
theorem btells_m (L : List Bd) (hl : L.length ≤ 9223372036854775807) (b : Bd) (m n P : Int) (hm : m ≤ 9223372036854775807) (hn : n ≤ 9223372036854775807) (hP : P ≤ 9223372036854775807) (M : List Int) (hM : M.length ≤ 9223372036854775807) :
    Means true Tryd.prog 3 [bl L, ob b, ii m, ii n, ii P, il M] (bb true) := by
  refine means_fn true 161 [.tmp 12] Tryd.func3 rfl rfl rfl (by simp) (by decide) rfl fun X hX => ?_
  (repeat (first | refine awp_seq ?_ | refine awp_block ?_ | ((first | refine awp_runG [0, 1, 2, 3, 4, 5, 7, 12, 13, 14, 15, 16, 17, 18, 19, 20, 21, 22, 23, 24, 25, 26, 27, 28, 29, 38, 132] hX ?_ | refine awp_drawnG [0, 1, 2, 3, 4, 5, 7, 12, 13, 14, 15, 16, 17, 18, 19, 20, 21, 22, 23, 24, 25, 26, 27, 28, 29, 38, 132] hX mixed ?_ | refine awp_ret ?_ | refine awp_skip ?_ | refine awp_exit ?_); (simp [go_sem]; try (refine ⟨by kernel_rfl, ?_⟩)))))
  first | refine callK_intro (small_m) rfl (by simp [go_sem]) rfl ?_ | refine callT_intro (small_m) rfl (by simp [go_sem]) rfl ?_
  try (simp [go_sem]; try (refine ⟨by kernel_rfl, ?_⟩))
  (repeat (first | refine awp_seq ?_ | refine awp_block ?_ | ((first | refine awp_runG [0, 1, 2, 3, 4, 5, 7, 12, 13, 14, 15, 16, 17, 18, 19, 20, 21, 22, 23, 24, 25, 26, 27, 28, 29, 38, 132] hX ?_ | refine awp_drawnG [0, 1, 2, 3, 4, 5, 7, 12, 13, 14, 15, 16, 17, 18, 19, 20, 21, 22, 23, 24, 25, 26, 27, 28, 29, 38, 132] hX mixed ?_ | refine awp_ret ?_ | refine awp_skip ?_ | refine awp_exit ?_); (simp [go_sem]; try (refine ⟨by kernel_rfl, ?_⟩)))))
  by_cases hbig : L.length ≤ 40 ∧ M.length ≤ 70
  · refine awp_cond (b := false) (by simp [go_sem]; omega) (fun hb => by cases hb) (fun _ => ?_)
    have c1 := put_m L b (by omega)
    have c2 := rput_m L b (by omega)
    have c3 := open_m L m n (by omega)
    have c4 := ropen_m L m n (by omega)
    have c5 := shares_m L P M (by omega) (by omega)
    have c6 := rshares_m L P M (by omega) (by omega)
    have c7 := winner_m L P (by omega)
    have c8 := rwinner_m L P (by omega)
    have l1 := put_len L b
    have l2 := opn_len L m n
    have l3 := potS_len L P M
    have s1 := rsame_t (put L b).1 (by omega)
    have s2 := rsame_t (opn L m n).1 (by omega)
    have s3 := ints_t (potS L P M).1 (by omega)
    have c9 := rightL_m L (by omega)
    have c10 := rright_m L (by omega)
    have c11 := ranked_m L P (by omega)
    have c12 := rranked_m L P (by omega)
    have hrl := ranked_len L P
    have hfl := List.length_filter_le (cntB P) L
    have s4 := ints_t (ranked L P) (by omega)
    have c13 := hidden_m m n P hm hn hP
    have c14 := rhidden_m m n P hm hn hP
    generalize put L b = p at *
    generalize opn L m n = o at *
    generalize potS L P M = s at *
    generalize winP L P = w at *
    generalize ranked L P = R at *
    generalize okL L = k at *
    generalize hidT m n P = h at *
    obtain ⟨p1, p2⟩ := p
    obtain ⟨o1, o2⟩ := o
    obtain ⟨q1, q2⟩ := s
    obtain ⟨w1, w2⟩ := w
    dsimp only at *
    (repeat (first | refine awp_seq ?_ | refine awp_block ?_ | ((first | refine awp_runG [0, 1, 2, 3, 4, 5, 7, 12, 13, 14, 15, 16, 17, 18, 19, 20, 21, 22, 23, 24, 25, 26, 27, 28, 29, 38, 132] hX ?_ | refine awp_drawnG [0, 1, 2, 3, 4, 5, 7, 12, 13, 14, 15, 16, 17, 18, 19, 20, 21, 22, 23, 24, 25, 26, 27, 28, 29, 38, 132] hX mixed ?_ | refine awp_ret ?_ | refine awp_skip ?_ | refine awp_exit ?_); (simp [go_sem]; try (refine ⟨by kernel_rfl, ?_⟩)))))
    first | refine callK_intro (c1) rfl (by simp [go_sem]) rfl ?_ | refine callT_intro (c1) rfl (by simp [go_sem]) rfl ?_
    try (simp [go_sem]; try (refine ⟨by kernel_rfl, ?_⟩))
    (repeat (first | refine awp_seq ?_ | refine awp_block ?_ | ((first | refine awp_runG [0, 1, 2, 3, 4, 5, 7, 12, 13, 14, 15, 16, 17, 18, 19, 20, 21, 22, 23, 24, 25, 26, 27, 28, 29, 38, 132] hX ?_ | refine awp_drawnG [0, 1, 2, 3, 4, 5, 7, 12, 13, 14, 15, 16, 17, 18, 19, 20, 21, 22, 23, 24, 25, 26, 27, 28, 29, 38, 132] hX mixed ?_ | refine awp_ret ?_ | refine awp_skip ?_ | refine awp_exit ?_); (simp [go_sem]; try (refine ⟨by kernel_rfl, ?_⟩)))))
    first | refine callK_intro (c2) rfl (by simp [go_sem]) rfl ?_ | refine callT_intro (c2) rfl (by simp [go_sem]) rfl ?_
    try (simp [go_sem]; try (refine ⟨by kernel_rfl, ?_⟩))
    (repeat (first | refine awp_seq ?_ | refine awp_block ?_ | ((first | refine awp_runG [0, 1, 2, 3, 4, 5, 7, 12, 13, 14, 15, 16, 17, 18, 19, 20, 21, 22, 23, 24, 25, 26, 27, 28, 29, 38, 132] hX ?_ | refine awp_drawnG [0, 1, 2, 3, 4, 5, 7, 12, 13, 14, 15, 16, 17, 18, 19, 20, 21, 22, 23, 24, 25, 26, 27, 28, 29, 38, 132] hX mixed ?_ | refine awp_ret ?_ | refine awp_skip ?_ | refine awp_exit ?_); (simp [go_sem]; try (refine ⟨by kernel_rfl, ?_⟩)))))
    first | refine callK_intro (c3) rfl (by simp [go_sem]) rfl ?_ | refine callT_intro (c3) rfl (by simp [go_sem]) rfl ?_
    try (simp [go_sem]; try (refine ⟨by kernel_rfl, ?_⟩))
    (repeat (first | refine awp_seq ?_ | refine awp_block ?_ | ((first | refine awp_runG [0, 1, 2, 3, 4, 5, 7, 12, 13, 14, 15, 16, 17, 18, 19, 20, 21, 22, 23, 24, 25, 26, 27, 28, 29, 38, 132] hX ?_ | refine awp_drawnG [0, 1, 2, 3, 4, 5, 7, 12, 13, 14, 15, 16, 17, 18, 19, 20, 21, 22, 23, 24, 25, 26, 27, 28, 29, 38, 132] hX mixed ?_ | refine awp_ret ?_ | refine awp_skip ?_ | refine awp_exit ?_); (simp [go_sem]; try (refine ⟨by kernel_rfl, ?_⟩)))))
    first | refine callK_intro (c4) rfl (by simp [go_sem]) rfl ?_ | refine callT_intro (c4) rfl (by simp [go_sem]) rfl ?_
    try (simp [go_sem]; try (refine ⟨by kernel_rfl, ?_⟩))
    (repeat (first | refine awp_seq ?_ | refine awp_block ?_ | ((first | refine awp_runG [0, 1, 2, 3, 4, 5, 7, 12, 13, 14, 15, 16, 17, 18, 19, 20, 21, 22, 23, 24, 25, 26, 27, 28, 29, 38, 132] hX ?_ | refine awp_drawnG [0, 1, 2, 3, 4, 5, 7, 12, 13, 14, 15, 16, 17, 18, 19, 20, 21, 22, 23, 24, 25, 26, 27, 28, 29, 38, 132] hX mixed ?_ | refine awp_ret ?_ | refine awp_skip ?_ | refine awp_exit ?_); (simp [go_sem]; try (refine ⟨by kernel_rfl, ?_⟩)))))
    first | refine callK_intro (c5) rfl (by simp [go_sem]) rfl ?_ | refine callT_intro (c5) rfl (by simp [go_sem]) rfl ?_
    try (simp [go_sem]; try (refine ⟨by kernel_rfl, ?_⟩))
    (repeat (first | refine awp_seq ?_ | refine awp_block ?_ | ((first | refine awp_runG [0, 1, 2, 3, 4, 5, 7, 12, 13, 14, 15, 16, 17, 18, 19, 20, 21, 22, 23, 24, 25, 26, 27, 28, 29, 38, 132] hX ?_ | refine awp_drawnG [0, 1, 2, 3, 4, 5, 7, 12, 13, 14, 15, 16, 17, 18, 19, 20, 21, 22, 23, 24, 25, 26, 27, 28, 29, 38, 132] hX mixed ?_ | refine awp_ret ?_ | refine awp_skip ?_ | refine awp_exit ?_); (simp [go_sem]; try (refine ⟨by kernel_rfl, ?_⟩)))))
    first | refine callK_intro (c6) rfl (by simp [go_sem]) rfl ?_ | refine callT_intro (c6) rfl (by simp [go_sem]) rfl ?_
    try (simp [go_sem]; try (refine ⟨by kernel_rfl, ?_⟩))
    (repeat (first | refine awp_seq ?_ | refine awp_block ?_ | ((first | refine awp_runG [0, 1, 2, 3, 4, 5, 7, 12, 13, 14, 15, 16, 17, 18, 19, 20, 21, 22, 23, 24, 25, 26, 27, 28, 29, 38, 132] hX ?_ | refine awp_drawnG [0, 1, 2, 3, 4, 5, 7, 12, 13, 14, 15, 16, 17, 18, 19, 20, 21, 22, 23, 24, 25, 26, 27, 28, 29, 38, 132] hX mixed ?_ | refine awp_ret ?_ | refine awp_skip ?_ | refine awp_exit ?_); (simp [go_sem]; try (refine ⟨by kernel_rfl, ?_⟩)))))
    first | refine callK_intro (c7) rfl (by simp [go_sem]) rfl ?_ | refine callT_intro (c7) rfl (by simp [go_sem]) rfl ?_
    try (simp [go_sem]; try (refine ⟨by kernel_rfl, ?_⟩))
    (repeat (first | refine awp_seq ?_ | refine awp_block ?_ | ((first | refine awp_runG [0, 1, 2, 3, 4, 5, 7, 12, 13, 14, 15, 16, 17, 18, 19, 20, 21, 22, 23, 24, 25, 26, 27, 28, 29, 38, 132] hX ?_ | refine awp_drawnG [0, 1, 2, 3, 4, 5, 7, 12, 13, 14, 15, 16, 17, 18, 19, 20, 21, 22, 23, 24, 25, 26, 27, 28, 29, 38, 132] hX mixed ?_ | refine awp_ret ?_ | refine awp_skip ?_ | refine awp_exit ?_); (simp [go_sem]; try (refine ⟨by kernel_rfl, ?_⟩)))))
    first | refine callK_intro (c8) rfl (by simp [go_sem]) rfl ?_ | refine callT_intro (c8) rfl (by simp [go_sem]) rfl ?_
    try (simp [go_sem]; try (refine ⟨by kernel_rfl, ?_⟩))
    (repeat (first | refine awp_seq ?_ | refine awp_block ?_ | ((first | refine awp_runG [0, 1, 2, 3, 4, 5, 7, 12, 13, 14, 15, 16, 17, 18, 19, 20, 21, 22, 23, 24, 25, 26, 27, 28, 29, 38, 132] hX ?_ | refine awp_drawnG [0, 1, 2, 3, 4, 5, 7, 12, 13, 14, 15, 16, 17, 18, 19, 20, 21, 22, 23, 24, 25, 26, 27, 28, 29, 38, 132] hX mixed ?_ | refine awp_ret ?_ | refine awp_skip ?_ | refine awp_exit ?_); (simp [go_sem]; try (refine ⟨by kernel_rfl, ?_⟩)))))
    first | refine callG_intro (fun hg => s1) rfl (by simp [go_sem]) rfl ?_ | refine callGT_intro (fun hg => s1) rfl (by simp [go_sem]) rfl ?_
    try (simp [go_sem]; try (refine ⟨by kernel_rfl, ?_⟩))
    first | refine callG_intro (fun hg => s2) rfl (by simp [go_sem]) rfl ?_ | refine callGT_intro (fun hg => s2) rfl (by simp [go_sem]) rfl ?_
    try (simp [go_sem]; try (refine ⟨by kernel_rfl, ?_⟩))
    first | refine callG_intro (fun hg => s3) rfl (by simp [go_sem]) rfl ?_ | refine callGT_intro (fun hg => s3) rfl (by simp [go_sem]) rfl ?_
    try (simp [go_sem]; try (refine ⟨by kernel_rfl, ?_⟩))
    refine awp_cond (b := false) (by simp [go_sem]) (fun hb => by cases hb) (fun _ => ?_)
    (repeat (first | refine awp_seq ?_ | refine awp_block ?_ | ((first | refine awp_runG [0, 1, 2, 3, 4, 5, 7, 12, 13, 14, 15, 16, 17, 18, 19, 20, 21, 22, 23, 24, 25, 26, 27, 28, 29, 38, 132] hX ?_ | refine awp_drawnG [0, 1, 2, 3, 4, 5, 7, 12, 13, 14, 15, 16, 17, 18, 19, 20, 21, 22, 23, 24, 25, 26, 27, 28, 29, 38, 132] hX mixed ?_ | refine awp_ret ?_ | refine awp_skip ?_ | refine awp_exit ?_); (simp [go_sem]; try (refine ⟨by kernel_rfl, ?_⟩)))))
    first | refine callG_intro (fun hg => c9) rfl (by simp [go_sem]) rfl ?_ | refine callGT_intro (fun hg => c9) rfl (by simp [go_sem]) rfl ?_
    try (simp [go_sem]; try (refine ⟨by kernel_rfl, ?_⟩))
    first | refine callG_intro (fun hg => c10) rfl (by simp [go_sem]) rfl ?_ | refine callGT_intro (fun hg => c10) rfl (by simp [go_sem]) rfl ?_
    try (simp [go_sem]; try (refine ⟨by kernel_rfl, ?_⟩))
    first | refine callG_intro (fun hg => c11) rfl (by simp [go_sem]) rfl ?_ | refine callGT_intro (fun hg => c11) rfl (by simp [go_sem]) rfl ?_
    try (simp [go_sem]; try (refine ⟨by kernel_rfl, ?_⟩))
    first | refine callG_intro (fun hg => c12) rfl (by simp [go_sem]) rfl ?_ | refine callGT_intro (fun hg => c12) rfl (by simp [go_sem]) rfl ?_
    try (simp [go_sem]; try (refine ⟨by kernel_rfl, ?_⟩))
    first | refine callG_intro (fun hg => s4) rfl (by simp [go_sem]) rfl ?_ | refine callGT_intro (fun hg => s4) rfl (by simp [go_sem]) rfl ?_
    try (simp [go_sem]; try (refine ⟨by kernel_rfl, ?_⟩))
    first | refine callG_intro (fun hg => c13) rfl (by simp [go_sem]) rfl ?_ | refine callGT_intro (fun hg => c13) rfl (by simp [go_sem]) rfl ?_
    try (simp [go_sem]; try (refine ⟨by kernel_rfl, ?_⟩))
    first | refine callG_intro (fun hg => c14) rfl (by simp [go_sem]) rfl ?_ | refine callGT_intro (fun hg => c14) rfl (by simp [go_sem]) rfl ?_
    try (simp [go_sem]; try (refine ⟨by kernel_rfl, ?_⟩))
    (repeat (first | refine awp_seq ?_ | refine awp_block ?_ | ((first | refine awp_runG [0, 1, 2, 3, 4, 5, 7, 12, 13, 14, 15, 16, 17, 18, 19, 20, 21, 22, 23, 24, 25, 26, 27, 28, 29, 38, 132] hX ?_ | refine awp_drawnG [0, 1, 2, 3, 4, 5, 7, 12, 13, 14, 15, 16, 17, 18, 19, 20, 21, 22, 23, 24, 25, 26, 27, 28, 29, 38, 132] hX mixed ?_ | refine awp_ret ?_ | refine awp_skip ?_ | refine awp_exit ?_); (simp [go_sem]; try (refine ⟨by kernel_rfl, ?_⟩)))))
    try exact bytes_beq h
  · refine awp_cond (b := true) (by simp [go_sem]; omega) (fun _ => ?_) (fun hb => by cases hb)
    (repeat (first | refine awp_seq ?_ | refine awp_block ?_ | ((first | refine awp_runG [0, 1, 2, 3, 4, 5, 7, 12, 13, 14, 15, 16, 17, 18, 19, 20, 21, 22, 23, 24, 25, 26, 27, 28, 29, 38, 132] hX ?_ | refine awp_drawnG [0, 1, 2, 3, 4, 5, 7, 12, 13, 14, 15, 16, 17, 18, 19, 20, 21, 22, 23, 24, 25, 26, 27, 28, 29, 38, 132] hX mixed ?_ | refine awp_ret ?_ | refine awp_skip ?_ | refine awp_exit ?_); (simp [go_sem]; try (refine ⟨by kernel_rfl, ?_⟩)))))
theorem btells_w (L : List Bd) (hl : L.length ≤ 9223372036854775807) (b : Bd) (m : Int) (hm : -9223372036854775808 ≤ m ∧ m ≤ 9223372036854775807) (n : Int) (hn : -9223372036854775808 ≤ n ∧ n ≤ 9223372036854775807) (P : Int) (hP : -9223372036854775808 ≤ P ∧ P ≤ 9223372036854775807) (M : List Int) (hM : M.length ≤ 9223372036854775807) :
    Means true Tryd.prog 3 [bl L, ob b, ii m, ii n, ii P, il M] (bb true) := btells_m L hl b m n P hm.2 hn.2 hP.2 M hM
end Go.Proofs.YtjgkjenbgadacaaDoor

namespace Go.Proofs.YtjgkjenbgadacaaDoor
open Go.ChangeShapes Go.WideShapes Go.ChangeAt Go.RowKit Go.Ab
theorem Tryd.own : ownKnob Tryd.prog.godebug = none := by kernel_rfl
theorem Tryd.laidOut : laidOutB Tryd.prog = true := by kernel_rfl
set_option maxRecDepth 100000 in
theorem rep_is {H : Type} {enc : TypeId × Value → H} {W : World} {base : Nat} {v : Value} {d : DataW H} {p : List MemPlace} {M : Nat → Prop} {r : Go.Reach} {b0 : Nat} (hM : ∀ b, b < W.heap.size → M b)
    (hval : Value.okWide Tryd.prog W r b0 25 v) (h : DataW.Trod enc Tryd.prog W base (fun _ => true) true 25 v d p) : ∃ L : List Int, L.length ≤ maxLen ∧ RepZ W M v (.sl (L.map ii)) :=
  rep_sliceV ii 1 (by decide) (fun _ => rfl) Tryd.underlying25 (by kernel_rfl) hM (el_int Tryd.underlying3) hval h
set_option maxRecDepth 100000 in
theorem el_bid {H : Type} {enc : TypeId × Value → H} {W : World} {base : Nat} {M : Nat → Prop} : ∀ n cs y, DataW.trod enc Tryd.prog W base (fun _ => true) true n 24 cs = some y → cs.length = 4 → ∃ x : Bd, ∀ (j : Nat) (c : Value) (z : AV), cs[j]? = some c → (ob x).flat[j]? = some z → RepZ W M c z := by
  intro n cs y h hl
  match cs, hl with
  | [c0, c1, c2, c3], _ =>
    obtain ⟨n0, y0, h0⟩ := field_cell (c := c0) Tryd.underlying24 h (i := 0) rfl (by kernel_rfl) rfl
    obtain ⟨n1, y1, h1⟩ := field_cell (c := c1) Tryd.underlying24 h (i := 1) rfl (by kernel_rfl) rfl
    obtain ⟨n2, y2, h2⟩ := field_cell (c := c2) Tryd.underlying24 h (i := 2) rfl (by kernel_rfl) rfl
    obtain ⟨n3, y3, h3⟩ := field_cell (c := c3) Tryd.underlying24 h (i := 3) rfl (by kernel_rfl) rfl
    obtain ⟨a, rfl⟩ := cells_of_one Tryd.underlying3 h0
    obtain ⟨b, rfl⟩ := cells_of_one Tryd.underlying3 h1
    obtain ⟨c, rfl⟩ := cells_of_one Tryd.underlying3 h2
    obtain ⟨d, rfl⟩ := cells_of_bool Tryd.underlying4 h3
    refine ⟨⟨a, b, c, d⟩, fun j x z hx hz => ?_⟩
    match j with
    | 0 => simp [AV.flat_agg] at hx hz; subst hx; subst hz; exact .v _
    | 1 => simp [AV.flat_agg] at hx hz; subst hx; subst hz; exact .v _
    | 2 => simp [AV.flat_agg] at hx hz; subst hx; subst hz; exact .v _
    | 3 => simp [AV.flat_agg] at hx hz; subst hx; subst hz; exact .v _
    | j + 4 => simp at hx
set_option maxRecDepth 100000 in
theorem rep_bids {H : Type} {enc : TypeId × Value → H} {W : World} {base : Nat} {v : Value} {d : DataW H} {p : List MemPlace} {M : Nat → Prop} {r : Go.Reach} {b0 : Nat} (hM : ∀ b, b < W.heap.size → M b)
    (hval : Value.okWide Tryd.prog W r b0 22 v) (h : DataW.Trod enc Tryd.prog W base (fun _ => true) true 22 v d p) : ∃ L : List Bd, L.length ≤ maxLen ∧ RepZ W M v (bl L) :=
  rep_sliceV ob 4 (by decide) (fun _ => rfl) Tryd.underlying22 (by kernel_rfl) hM el_bid hval h
set_option maxRecDepth 100000 in
theorem rep_bid {H : Type} {enc : TypeId × Value → H} {W : World} {base : Nat} {v : Value} {d : DataW H} {p : List MemPlace} {M : Nat → Prop} {r : Go.Reach} {b0 : Nat} (_hM : ∀ b, b < W.heap.size → M b)
    (hval : Value.okWide Tryd.prog W r b0 24 v) (h : DataW.Trod enc Tryd.prog W base (fun _ => true) true 24 v d p) : ∃ x : Bd, True ∧ RepZ W M v (ob x) :=
  rep_structV (fun x : Bd => [ii x.m, ii x.w, ii x.n, bb x.o]) 4 (fun _ => rfl) Tryd.underlying24 (by kernel_rfl) el_bid hval h
set_option maxRecDepth 100000 in
theorem glob_of_laid {W : World} (h : laidMet Tryd.prog Rows.bidsOrderRow.laid W) : GlobW W (fun b => b < W.heap.size) :=
  globW_one (g := 0) (cs := Lib.pow10Tab.map fun z => Value.int .u64 z) (by rw [globs]; kernel_rfl)
    (glob_ints (zs := Lib.pow10Tab) h (n := "internal/strconv.uint64pow10") (List.mem_of_getElem? (i := 2) (by kernel_rfl)) (len := 20) (by kernel_rfl) (by kernel_rfl) Tryd.underlying106 Tryd.underlying93 (by kernel_rfl) (by kernel_rfl))
    (fun g hg => by rw [globI] at hg; simp at hg)
noncomputable def laidWorld (os : Os) : World := layAll Tryd.prog (World.holding Tryd.prog os ⟨#[], #[], []⟩) Rows.bidsOrderRow.laid
set_option maxRecDepth 100000 in
theorem laid_met (os : Os) (args : Array Value) : laidMet Tryd.prog Rows.bidsOrderRow.laid ((laidWorld os).forCall (fun _ _ => 0) ⟨#[], args, []⟩).memory :=
  laidMet_of_run3 8 (by kernel_rfl) (by kernel_rfl) (by kernel_rfl)
end Go.Proofs.YtjgkjenbgadacaaDoor

