/-
  Sorting places: the insertion sort; at most nineteen.
-/
import Derived.Test.YtjgkjenbgadacaaDoorSplC
set_option linter.all false
namespace Go.Proofs.YtjgkjenbgadacaaDoor
open Go.RowKit Go.Ab
attribute [local irreducible] AWP Go.Ab.Sub Means MeansH CallK CallG CallT CallGT

abbrev clo : AV := .fn 66 [] [.el 1 1 0 0]
/-- The rows behind the one that is sorted. -/
abbrev sH (D R : List Int) : List Cell := [rowI D, .row ⟨25, 1, [.ow 2]⟩, rowI R]
theorem rowX_srt {K : Int → Int} {pre s : List Int} {x : Int} {post : List Int} {k : Nat} (hs : s.Pairwise (bef K)) (hk : k ≤ s.length) (h1 : ∀ e ∈ s.take k, bef K e x) (h2 : ∀ e ∈ s.drop k, bef K x e) : rowX pre s x post k = r3 pre (insB K x s) post := by
  rw [insB_at k hs hk h1 h2]; rfl

set_option maxHeartbeats 4000000 in
set_option maxRecDepth 20000 in
/-- The part behind 'pre' is sorted. -/
theorem insSort_m (pre l post R : List Int) (hn : l.Nodup) (hord : ∀ i j (hi : i < l.length) (hj : j < l.length), i < j → l[i] < l[j]) (hr : ∀ x ∈ l, 0 ≤ x ∧ x < R.length) (hb : pre.length + l.length + post.length ≤ 100000) (hR : R.length ≤ 100000) (hok : okR R) :
    MeansH Tryd.prog 74 (sH (r3 pre l post) R) [.ow 0, ii pre.length, ii (pre.length + l.length : Nat), clo] (.tup []) (sH (r3 pre (srt (kf R) l) post) R) := by
  refine meansH_fn 3 53 [] Tryd.func74 rfl rfl rfl (by simp) (by decide) rfl fun X hX => ?_
  (repeat (first | refine awp_seq ?_ | refine awp_block ?_ | ((first | refine awp_runG [0, 1, 2, 3, 8, 9, 14, 34, 1000000, 1000001, 1000002] hX ?_ | refine awp_drawnG [0, 1, 2, 3, 8, 9, 14, 34, 1000000, 1000001, 1000002] hX mixed ?_ | refine awp_skip ?_ | refine awp_exit ?_); (simp [go_sem]; (try simp (disch := omega) only [w64, td, tm]); try (refine ⟨by kernel_rfl, ?_⟩)))))
  refine awp_loop (fun i : Nat => ⟨mkE [(0, .ow 0), (1, ii pre.length), (2, ii (pre.length + l.length : Nat)), (3, clo), (8, ii (pre.length + i : Nat)), (1000000, .ow 0), (1000001, .ow 1), (1000002, .ow 2)], sH (r3 pre (srt (kf R) (l.take i)) (l.drop i ++ post)) R⟩) (fun i => i ≤ l.length + (1 - l.length)) (fun i => l.length - i) 1 ?_ ?_ ?_
  · have e : srt (kf R) (l.take 1) ++ l.drop 1 = l := by
      cases l with
      | nil => rfl
      | cons a l => rfl
    have e2 : r3 pre (srt (kf R) (l.take 1)) (l.drop 1 ++ post) = r3 pre l post := by unfold r3; rw [← List.append_assoc, List.append_assoc pre, e]
    rw [e2]
    refine sub_of _ [.old 0 ⟨3, 1, (r3 pre l post).map ii⟩, .old 1 ⟨25, 1, [.ow 2]⟩, .old 2 ⟨3, 1, R.map ii⟩] (by simp [go_sem]) ?_
    simp [go_sem]
  · omega
  · intro i hi
    (repeat (first | refine awp_seq ?_ | refine awp_block ?_ | ((first | refine awp_runG [0, 1, 2, 3, 8, 9, 14, 34, 1000000, 1000001, 1000002] hX ?_ | refine awp_drawnG [0, 1, 2, 3, 8, 9, 14, 34, 1000000, 1000001, 1000002] hX mixed ?_ | refine awp_skip ?_ | refine awp_exit ?_); (simp [go_sem]; (try simp (disch := omega) only [w64, td, tm]); try (refine ⟨by kernel_rfl, ?_⟩)))))
    refine awp_cond (b := decide (i < l.length)) (by simp [go_sem]; try omega) (fun hc => ?_) (fun hc => ?_)
    · simp at hc
      obtain ⟨s, hs⟩ : ∃ s, srt (kf R) (l.take i) = s := ⟨_, rfl⟩
      have hsl : s.length = i := by rw [← hs, srt_len]; simp; omega
      have hnt : (l.take i).Nodup := hn.sublist (List.take_sublist _ _)
      have hss : s.Pairwise (bef (kf R)) := by rw [← hs]; exact srt_sorted hnt
      have hsm : ∀ e ∈ s, e < l[i] ∧ 0 ≤ e ∧ e < R.length := fun e he => by
        rw [← hs] at he
        have := (srt_perm _ _).mem_iff.1 he
        obtain ⟨j, hj, rfl⟩ := List.mem_take_iff_getElem.1 this
        exact ⟨hord j i (by omega) hc (by omega), hr _ (List.getElem_mem _)⟩
      have hxr := hr l[i] (List.getElem_mem hc)
      obtain ⟨x, hx⟩ : ∃ x, l[i] = x := ⟨_, rfl⟩
      obtain ⟨po, hpo⟩ : ∃ po, l.drop (i + 1) ++ post = po := ⟨_, rfl⟩
      have hpl : pre.length + s.length + 1 + po.length ≤ 100000 := by rw [← hpo]; simp; omega
      have e0 : r3 pre s (l.drop i ++ post) = rowX pre s x po s.length := by
        rw [List.drop_eq_getElem_cons hc, hx, ← hpo]
        simp [rowX, r3]
      have e1 : r3 pre (srt (kf R) (l.take (i + 1))) (l.drop (i + 1) ++ post) = r3 pre (insB (kf R) x s) po := by
        rw [List.take_succ_eq_append_getElem hc, srt_snoc, hs, hx, hpo]
      have e2 : i = s.length := hsl.symm
      rw [hx] at hsm hxr
      rw [hs, e0]
      (repeat (first | refine awp_seq ?_ | refine awp_block ?_ | ((first | refine awp_runG [0, 1, 2, 3, 8, 9, 14, 34, 1000000, 1000001, 1000002] hX ?_ | refine awp_drawnG [0, 1, 2, 3, 8, 9, 14, 34, 1000000, 1000001, 1000002] hX mixed ?_ | refine awp_skip ?_ | refine awp_exit ?_); (simp [go_sem]; try (refine ⟨by kernel_rfl, ?_⟩)))))
      refine awp_loop (fun k : Nat => ⟨mkE [(0, .ow 0), (1, ii pre.length), (2, ii (pre.length + l.length : Nat)), (3, clo), (8, ii (pre.length + i : Nat)), (9, ii (pre.length + k : Nat)), (1000000, .ow 0), (1000001, .ow 1), (1000002, .ow 2)], sH (rowX pre s x po k) R⟩) (fun k => k ≤ s.length ∧ ∀ e ∈ s.drop k, bef (kf R) x e) (fun k => k) s.length ?_ ?_ ?_
      · refine sub_of _ [.old 0 ⟨3, 1, (rowX pre s x po s.length).map ii⟩, .old 1 ⟨25, 1, [.ow 2]⟩, .old 2 ⟨3, 1, R.map ii⟩] (by simp [go_sem]) ?_
        simp [go_sem, e2]
      · simp
      · rintro k ⟨hk, hd⟩
        have hlen := rowX_len (pre := pre) (x := x) (post := po) hk
        have done : (∀ e ∈ s.take k, bef (kf R) e x) → rowX pre s x po k = r3 pre (srt (kf R) (l.take (i + 1))) (l.drop (i + 1) ++ post) := fun h1 => by rw [e1, rowX_srt hss hk h1 hd]
        cases k with
        | zero =>
          have hdone := done (by simp)
          have hi0 : pre.length < (rowX pre s x po 0).length := by omega
          have hi1 : pre.length - 1 < (rowX pre s x po 0).length := by omega
          have hwz : IntKind.i64.wrap ((pre.length : Int) - 1) = (pre.length : Int) - 1 := w64 (by omega) (by omega)
          have htz : ((pre.length : Int) - 1).toNat = pre.length - 1 := by omega
          generalize rowX pre s x po 0 = D1 at *
          (repeat (first | refine awp_seq ?_ | refine awp_block ?_ | ((first | refine awp_runG [0, 1, 2, 3, 8, 9, 14, 34, 1000000, 1000001, 1000002] hX ?_ | refine awp_drawnG [0, 1, 2, 3, 8, 9, 14, 34, 1000000, 1000001, 1000002] hX mixed ?_ | refine awp_skip ?_ | refine awp_exit ?_); (simp [go_sem, hi0, hi1, hwz, htz]; try (refine ⟨by kernel_rfl, ?_⟩)))))
          first | refine callG_skip rfl ?_ | refine callGT_skip rfl ?_
          try (simp [go_sem]; try (refine ⟨by kernel_rfl, ?_⟩))
          refine awp_cond (b := false) (by simp [go_sem]) (fun h => by cases h) (fun _ => ?_)
          (repeat (first | refine awp_seq ?_ | refine awp_block ?_ | ((first | refine awp_runG [0, 1, 2, 3, 8, 9, 14, 34, 1000000, 1000001, 1000002] hX ?_ | refine awp_drawnG [0, 1, 2, 3, 8, 9, 14, 34, 1000000, 1000001, 1000002] hX mixed ?_ | refine awp_skip ?_ | refine awp_exit ?_); (simp [go_sem]; (try simp (disch := omega) only [w64, td, tm]); try (refine ⟨by kernel_rfl, ?_⟩)))))
          refine ⟨i + 1, by omega, by omega, ?_⟩
          rw [← hdone]
          refine sub_of _ [.old 0 ⟨3, 1, D1.map ii⟩, .old 1 ⟨25, 1, [.ow 2]⟩, .old 2 ⟨3, 1, R.map ii⟩] (by simp [go_sem]) ?_
          simp [go_sem]
          try omega
        | succ k =>
          have hks : k < s.length := by omega
          obtain ⟨p, hp⟩ : ∃ p, pre.length + k = p := ⟨_, rfl⟩
          have hp1 : pre.length + (k + 1) = p + 1 := by omega
          have hi1 : p + 1 < (rowX pre s x po (k + 1)).length := by omega
          have hi2 : p < (rowX pre s x po (k + 1)).length := by omega
          have hat : (rowX pre s x po (k + 1))[p + 1] = x := by
            have := rowX_at (pre := pre) (s := s) (x := x) (post := po) hk (by omega)
            simp only [hp1] at this; exact this
          have hpv : (rowX pre s x po (k + 1))[p] = s[k] := by
            have := rowX_prev (pre := pre) (s := s) (x := x) (post := po) hks (by omega)
            simp only [hp] at this; exact this
          have hsw := rowX_swap (pre := pre) (x := x) (post := po) hks
          rw [hp, hp1] at hsw
          have hy := hsm s[k] (List.getElem_mem hks)
          have ht1 : ((p : Int) + 1).toNat = p + 1 := by omega
          have hwp : IntKind.i64.wrap (p : Int) = (p : Int) := w64 (by omega) (by omega)
          have hgt : (pre.length : Int) < (p : Int) + 1 := by omega
          have hgt2 : pre.length < p + 1 := by omega
          have hpb : p + 1 ≤ 100000 := by omega
          have hcm := clo_m R hok x s[k] hxr ⟨hy.2.1, hy.2.2⟩
          have hneg := cmp_neg R x s[k]
          have hbef : bef (kf R) x s[k] ↔ cmpC R x s[k] < 0 := by rw [hneg]; unfold bef; omega
          have hdk : bef (kf R) x s[k] → ∀ e ∈ s.drop k, bef (kf R) x e := fun h e he => by
            rw [List.drop_eq_getElem_cons hks] at he
            rcases List.mem_cons.1 he with rfl | he
            · exact h
            · exact hd e he
          have hup : ¬ bef (kf R) x s[k] → ∀ e ∈ s.take (k + 1), bef (kf R) e x := fun h e he => by
            have hyx : bef (kf R) s[k] x := (bef_total (by omega)).resolve_left h
            rw [List.take_succ_eq_append_getElem hks] at he
            rcases List.mem_append.1 he with he | he
            · obtain ⟨j, hj, rfl⟩ := List.mem_take_iff_getElem.1 he
              exact bef_trans (List.pairwise_iff_getElem.1 hss j k (by omega) hks (by omega)) hyx
            · simp at he; rw [he]; exact hyx
          rw [hp1]
          obtain ⟨y, hye⟩ : ∃ y, s[k] = y := ⟨_, rfl⟩
          rw [hye] at hpv hsw hcm hbef hdk hup
          generalize rowX pre s x po (k + 1) = D1 at *
          have hzs : zoneEs (((D1.map ii).set (p + 1) (ii y)).set p (ii x)) = true := by
            rw [← List.map_set, ← List.map_set]; exact zoneEs_map _ _ (fun _ => rfl)
          have hns : nth ((D1.map ii).set (p + 1) (ii y)) p = ii y := by
            rw [← List.map_set, nth_map ii (by simpa using hi2), List.getElem_set_ne (by omega), hpv]
          (repeat (first | refine awp_seq ?_ | refine awp_block ?_ | ((first | refine awp_runG [0, 1, 2, 3, 8, 9, 14, 34, 1000000, 1000001, 1000002] hX ?_ | refine awp_drawnG [0, 1, 2, 3, 8, 9, 14, 34, 1000000, 1000001, 1000002] hX mixed ?_ | refine awp_skip ?_ | refine awp_exit ?_); (simp [go_sem, hi1, hi2, hat, hpv, ht1, hwp, hgt, hgt2]; try (refine ⟨by kernel_rfl, ?_⟩)))))
          (repeat refine And.intro (by first | omega | (unfold maxLen; omega) | kernel_rfl | (refine ⟨by first | omega | (unfold maxLen; omega), by first | omega | (unfold maxLen; omega)⟩) | grind) ?_)
          first | refine callHG_intro [1, 2] (fun hg => hcm) (by simp [go_sem]) (by simp [go_sem]) ?_ | refine callHGT_intro [1, 2] (fun hg => hcm) (by simp [go_sem]) ?_
          try (simp [go_sem, hi1, hi2, hat, hpv, ht1, hwp, hgt, hgt2]; try (refine ⟨by kernel_rfl, ?_⟩))
          refine awp_cond (b := decide (cmpC R x y < 0)) (by simp [go_sem]) (fun hd2 => ?_) (fun hd2 => ?_)
          · simp only [decide_eq_true_eq] at hd2
            (repeat (first | refine awp_seq ?_ | refine awp_block ?_ | ((first | refine awp_runG [0, 1, 2, 3, 8, 9, 14, 34, 1000000, 1000001, 1000002] hX ?_ | refine awp_drawnG [0, 1, 2, 3, 8, 9, 14, 34, 1000000, 1000001, 1000002] hX mixed ?_ | refine awp_skip ?_ | refine awp_exit ?_); (simp [go_sem, hi1, hi2, hat, hpv, ht1, hwp, hzs]; (try simp (disch := omega) only [w64, td, tm]); try (refine ⟨by kernel_rfl, ?_⟩)))))
            try (simp [go_sem, hi1, hi2, hat, hpv, ht1, hwp, hzs]; try (refine ⟨by kernel_rfl, ?_⟩))
            (repeat refine And.intro (by first | omega | (unfold maxLen; omega) | kernel_rfl | (refine ⟨by first | omega | (unfold maxLen; omega), by first | omega | (unfold maxLen; omega)⟩) | grind) ?_)
            (repeat (first | refine awp_seq ?_ | refine awp_block ?_ | ((first | refine awp_runG [0, 1, 2, 3, 8, 9, 14, 34, 1000000, 1000001, 1000002] hX ?_ | refine awp_drawnG [0, 1, 2, 3, 8, 9, 14, 34, 1000000, 1000001, 1000002] hX mixed ?_ | refine awp_skip ?_ | refine awp_exit ?_); (simp [go_sem, hi1, hi2, hat, hpv, ht1, hwp, hzs]; (try simp (disch := omega) only [w64, td, tm]); try (refine ⟨by kernel_rfl, ?_⟩)))))
            refine ⟨k, ⟨by omega, hdk (hbef.2 hd2)⟩, by omega, ?_⟩
            rw [← hsw]
            refine sub_of _ [.old 0 ⟨3, 1, ((D1.set (p + 1) y).set p x).map ii⟩, .old 1 ⟨25, 1, [.ow 2]⟩, .old 2 ⟨3, 1, R.map ii⟩] (by simp [go_sem, hns, hzs]) ?_
            simp [go_sem]
            try omega
          · simp only [decide_eq_false_iff_not] at hd2
            (repeat (first | refine awp_seq ?_ | refine awp_block ?_ | ((first | refine awp_runG [0, 1, 2, 3, 8, 9, 14, 34, 1000000, 1000001, 1000002] hX ?_ | refine awp_drawnG [0, 1, 2, 3, 8, 9, 14, 34, 1000000, 1000001, 1000002] hX mixed ?_ | refine awp_skip ?_ | refine awp_exit ?_); (simp [go_sem]; (try simp (disch := omega) only [w64, td, tm]); try (refine ⟨by kernel_rfl, ?_⟩)))))
            refine ⟨i + 1, by omega, by omega, ?_⟩
            rw [← done (hup fun h => hd2 (hbef.1 h))]
            refine sub_of _ [.old 0 ⟨3, 1, D1.map ii⟩, .old 1 ⟨25, 1, [.ow 2]⟩, .old 2 ⟨3, 1, R.map ii⟩] (by simp [go_sem]) ?_
            simp [go_sem]
            try omega
    · simp at hc
      have hd2 : r3 pre (srt (kf R) (l.take i)) (l.drop i ++ post) = r3 pre (srt (kf R) l) post := by
        rw [List.take_of_length_le (by omega), List.drop_of_length_le (by omega)]; rfl
      rw [hd2]
      (repeat (first | refine awp_seq ?_ | refine awp_block ?_ | ((first | refine awp_runG [0, 1, 2, 3, 8, 9, 14, 34, 1000000, 1000001, 1000002] hX ?_ | refine awp_drawnG [0, 1, 2, 3, 8, 9, 14, 34, 1000000, 1000001, 1000002] hX mixed ?_ | refine awp_skip ?_ | refine awp_exit ?_); (simp [go_sem]; try (refine ⟨by kernel_rfl, ?_⟩)))))
      (try refine awp_ret ?_); (try simp only [thenQ, blkQ, loopQ]); refine retH_normal [(1000000, .ow 0), (1000001, .ow 1), (1000002, .ow 2)] [.old 0 ⟨3, 1, (r3 pre (srt (kf R) l) post).map ii⟩, .old 1 ⟨25, 1, [.ow 2]⟩, .old 2 ⟨3, 1, R.map ii⟩] ?_
      simp [go_sem]

end Go.Proofs.YtjgkjenbgadacaaDoor
