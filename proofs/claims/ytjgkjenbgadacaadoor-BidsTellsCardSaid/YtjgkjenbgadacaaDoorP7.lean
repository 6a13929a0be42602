/-
  Lemmas for the statement at the top.
-/
import Derived.Test.YtjgkjenbgadacaaDoorP6
import Derived.Test.YtjgkjenbgadacaaDoorP4
set_option linter.all false
namespace Go.Proofs.YtjgkjenbgadacaaDoor.B
open Go.RowKit Go.Ab
attribute [local irreducible] AWP Go.Ab.Sub Means MeansH CallK CallG CallT CallGT
abbrev clo : AV := .fn 47 [] [.el 1 1 0 0]
abbrev sH (D : List Int) (R : List Bd) : List Cell := [rowI D, .row ⟨22, 1, [bsl R]⟩]
theorem rowX_srt {K : Int → Int} {pre s : List Int} {x : Int} {post : List Int} {k : Nat} (hs : s.Pairwise (bef K)) (hk : k ≤ s.length) (h1 : ∀ e ∈ s.take k, bef K e x) (h2 : ∀ e ∈ s.drop k, bef K x e) : rowX pre s x post k = r3 pre (insB K x s) post := by
  rw [insB_at k hs hk h1 h2]; rfl
set_option maxHeartbeats 4000000 in
set_option maxRecDepth 20000 in
theorem insSort_m (pre l post : List Int) (R : List Bd) (hn : l.Nodup) (hord : ∀ i j (hi : i < l.length) (hj : j < l.length), i < j → l[i] < l[j]) (hr : ∀ x ∈ l, 0 ≤ x ∧ x < R.length) (hb : pre.length + l.length + post.length ≤ 100000) (hR : R.length ≤ 100000) (hok : okR R) :
    MeansH Tryd.prog 74 (sH (r3 pre l post) R) [.ow 0, ii pre.length, ii (pre.length + l.length : Nat), clo] (.tup []) (sH (r3 pre (srt (kf R) l) post) R) := by
  refine meansH_fn 2 53 [] Tryd.func74 rfl rfl rfl (by simp) (by decide) rfl fun X hX => ?_
  (repeat (first | refine awp_seq ?_ | refine awp_block ?_ | ((first | refine awp_runG [0, 1, 2, 3, 8, 9, 14, 34, 1000000, 1000001] hX ?_ | refine awp_drawnG [0, 1, 2, 3, 8, 9, 14, 34, 1000000, 1000001] hX mixed ?_ | refine awp_skip ?_ | refine awp_exit ?_); (simp [go_sem]; (try simp (disch := omega) only [w64, td, tm]); try (refine ⟨by kernel_rfl, ?_⟩)))))
  refine awp_loop (fun i : Nat => ⟨mkE [(0, .ow 0), (1, ii pre.length), (2, ii (pre.length + l.length : Nat)), (3, clo), (8, ii (pre.length + i : Nat)), (1000000, .ow 0), (1000001, .ow 1)], sH (r3 pre (srt (kf R) (l.take i)) (l.drop i ++ post)) R⟩) (fun i => i ≤ l.length + (1 - l.length)) (fun i => l.length - i) 1 ?_ ?_ ?_
  · have e : srt (kf R) (l.take 1) ++ l.drop 1 = l := by
      cases l with
      | nil => rfl
      | cons a l => rfl
    have e2 : r3 pre (srt (kf R) (l.take 1)) (l.drop 1 ++ post) = r3 pre l post := by unfold r3; rw [← List.append_assoc, List.append_assoc pre, e]
    rw [e2]
    refine sub_of _ [.old 0 ⟨3, 1, (r3 pre l post).map ii⟩, .old 1 ⟨22, 1, [bsl R]⟩] (by simp [go_sem]) ?_
    simp [go_sem]
  · omega
  · intro i hi
    (repeat (first | refine awp_seq ?_ | refine awp_block ?_ | ((first | refine awp_runG [0, 1, 2, 3, 8, 9, 14, 34, 1000000, 1000001] hX ?_ | refine awp_drawnG [0, 1, 2, 3, 8, 9, 14, 34, 1000000, 1000001] hX mixed ?_ | refine awp_skip ?_ | refine awp_exit ?_); (simp [go_sem]; (try simp (disch := omega) only [w64, td, tm]); try (refine ⟨by kernel_rfl, ?_⟩)))))
    refine awp_cond (b := decide (i < l.length)) (by simp [go_sem]; try omega) (fun hc => ?_) (fun hc => ?_)
    · simp at hc
      obtain ⟨s, hs⟩ : ∃ s, srt (kf R) (l.take i) = s := ⟨_, rfl⟩
      have hsl : s.length = i := by rw [← hs, srt_len]; simp; omega
      have hnt : (l.take i).Nodup := hn.sublist (List.take_sublist _ _)
      have hss : s.Pairwise (bef (kf R)) := by rw [← hs]; exact srt_sorted hnt
      have hsm : ∀ e ∈ s, e < l[i] ∧ 0 ≤ e ∧ e < R.length := fun e he => by
        rw [← hs] at he
        have := (srt_perm _ _).mem_iff.1 he
        obtain ⟨j, hj, rfl⟩ := List.mem_take_iff_getElem.1 this
        exact ⟨hord j i (by omega) hc (by omega), hr _ (List.getElem_mem _)⟩
      have hxr := hr l[i] (List.getElem_mem hc)
      obtain ⟨x, hx⟩ : ∃ x, l[i] = x := ⟨_, rfl⟩
      obtain ⟨po, hpo⟩ : ∃ po, l.drop (i + 1) ++ post = po := ⟨_, rfl⟩
      have hpl : pre.length + s.length + 1 + po.length ≤ 100000 := by rw [← hpo]; simp; omega
      have e0 : r3 pre s (l.drop i ++ post) = rowX pre s x po s.length := by
        rw [List.drop_eq_getElem_cons hc, hx, ← hpo]
        simp [rowX, r3]
      have e1 : r3 pre (srt (kf R) (l.take (i + 1))) (l.drop (i + 1) ++ post) = r3 pre (insB (kf R) x s) po := by
        rw [List.take_succ_eq_append_getElem hc, srt_snoc, hs, hx, hpo]
      have e2 : i = s.length := hsl.symm
      rw [hx] at hsm hxr
      rw [hs, e0]
      (repeat (first | refine awp_seq ?_ | refine awp_block ?_ | ((first | refine awp_runG [0, 1, 2, 3, 8, 9, 14, 34, 1000000, 1000001] hX ?_ | refine awp_drawnG [0, 1, 2, 3, 8, 9, 14, 34, 1000000, 1000001] hX mixed ?_ | refine awp_skip ?_ | refine awp_exit ?_); (simp [go_sem]; try (refine ⟨by kernel_rfl, ?_⟩)))))
      refine awp_loop (fun k : Nat => ⟨mkE [(0, .ow 0), (1, ii pre.length), (2, ii (pre.length + l.length : Nat)), (3, clo), (8, ii (pre.length + i : Nat)), (9, ii (pre.length + k : Nat)), (1000000, .ow 0), (1000001, .ow 1)], sH (rowX pre s x po k) R⟩) (fun k => k ≤ s.length ∧ ∀ e ∈ s.drop k, bef (kf R) x e) (fun k => k) s.length ?_ ?_ ?_
      · refine sub_of _ [.old 0 ⟨3, 1, (rowX pre s x po s.length).map ii⟩, .old 1 ⟨22, 1, [bsl R]⟩] (by simp [go_sem]) ?_
        simp [go_sem, e2]
      · simp
      · rintro k ⟨hk, hd⟩
        have hlen := rowX_len (pre := pre) (x := x) (post := po) hk
        have done : (∀ e ∈ s.take k, bef (kf R) e x) → rowX pre s x po k = r3 pre (srt (kf R) (l.take (i + 1))) (l.drop (i + 1) ++ post) := fun h1 => by rw [e1, rowX_srt hss hk h1 hd]
        cases k with
        | zero =>
          have hdone := done (by simp)
          have hi0 : pre.length < (rowX pre s x po 0).length := by omega
          have hi1 : pre.length - 1 < (rowX pre s x po 0).length := by omega
          have hwz : IntKind.i64.wrap ((pre.length : Int) - 1) = (pre.length : Int) - 1 := w64 (by omega) (by omega)
          have htz : ((pre.length : Int) - 1).toNat = pre.length - 1 := by omega
          generalize rowX pre s x po 0 = D1 at *
          (repeat (first | refine awp_seq ?_ | refine awp_block ?_ | ((first | refine awp_runG [0, 1, 2, 3, 8, 9, 14, 34, 1000000, 1000001] hX ?_ | refine awp_drawnG [0, 1, 2, 3, 8, 9, 14, 34, 1000000, 1000001] hX mixed ?_ | refine awp_skip ?_ | refine awp_exit ?_); (simp [go_sem, hi0, hi1, hwz, htz]; try (refine ⟨by kernel_rfl, ?_⟩)))))
          first | refine callG_skip rfl ?_ | refine callGT_skip rfl ?_
          try (simp [go_sem]; try (refine ⟨by kernel_rfl, ?_⟩))
          refine awp_cond (b := false) (by simp [go_sem]) (fun h => by cases h) (fun _ => ?_)
          (repeat (first | refine awp_seq ?_ | refine awp_block ?_ | ((first | refine awp_runG [0, 1, 2, 3, 8, 9, 14, 34, 1000000, 1000001] hX ?_ | refine awp_drawnG [0, 1, 2, 3, 8, 9, 14, 34, 1000000, 1000001] hX mixed ?_ | refine awp_skip ?_ | refine awp_exit ?_); (simp [go_sem]; (try simp (disch := omega) only [w64, td, tm]); try (refine ⟨by kernel_rfl, ?_⟩)))))
          refine ⟨i + 1, by omega, by omega, ?_⟩
          rw [← hdone]
          refine sub_of _ [.old 0 ⟨3, 1, D1.map ii⟩, .old 1 ⟨22, 1, [bsl R]⟩] (by simp [go_sem]) ?_
          simp [go_sem]
          try omega
        | succ k =>
          have hks : k < s.length := by omega
          obtain ⟨p, hp⟩ : ∃ p, pre.length + k = p := ⟨_, rfl⟩
          have hp1 : pre.length + (k + 1) = p + 1 := by omega
          have hi1 : p + 1 < (rowX pre s x po (k + 1)).length := by omega
          have hi2 : p < (rowX pre s x po (k + 1)).length := by omega
          have hat : (rowX pre s x po (k + 1))[p + 1] = x := by
            have := rowX_at (pre := pre) (s := s) (x := x) (post := po) hk (by omega)
            simp only [hp1] at this; exact this
          have hpv : (rowX pre s x po (k + 1))[p] = s[k] := by
            have := rowX_prev (pre := pre) (s := s) (x := x) (post := po) hks (by omega)
            simp only [hp] at this; exact this
          have hsw := rowX_swap (pre := pre) (x := x) (post := po) hks
          rw [hp, hp1] at hsw
          have hy := hsm s[k] (List.getElem_mem hks)
          have ht1 : ((p : Int) + 1).toNat = p + 1 := by omega
          have hwp : IntKind.i64.wrap (p : Int) = (p : Int) := w64 (by omega) (by omega)
          have hgt : (pre.length : Int) < (p : Int) + 1 := by omega
          have hgt2 : pre.length < p + 1 := by omega
          have hpb : p + 1 ≤ 100000 := by omega
          have hcm := clo_m R hok x s[k] hxr ⟨hy.2.1, hy.2.2⟩
          have hneg := cmp_neg R x s[k]
          have hbef : bef (kf R) x s[k] ↔ cmpC R x s[k] < 0 := by rw [hneg]; unfold bef; omega
          have hdk : bef (kf R) x s[k] → ∀ e ∈ s.drop k, bef (kf R) x e := fun h e he => by
            rw [List.drop_eq_getElem_cons hks] at he
            rcases List.mem_cons.1 he with rfl | he
            · exact h
            · exact hd e he
          have hup : ¬ bef (kf R) x s[k] → ∀ e ∈ s.take (k + 1), bef (kf R) e x := fun h e he => by
            have hyx : bef (kf R) s[k] x := (bef_total (by omega)).resolve_left h
            rw [List.take_succ_eq_append_getElem hks] at he
            rcases List.mem_append.1 he with he | he
            · obtain ⟨j, hj, rfl⟩ := List.mem_take_iff_getElem.1 he
              exact bef_trans (List.pairwise_iff_getElem.1 hss j k (by omega) hks (by omega)) hyx
            · simp at he; rw [he]; exact hyx
          rw [hp1]
          obtain ⟨y, hye⟩ : ∃ y, s[k] = y := ⟨_, rfl⟩
          rw [hye] at hpv hsw hcm hbef hdk hup
          generalize rowX pre s x po (k + 1) = D1 at *
          have hzs : zoneEs (((D1.map ii).set (p + 1) (ii y)).set p (ii x)) = true := by
            rw [← List.map_set, ← List.map_set]; exact zoneEs_map _ _ (fun _ => rfl)
          have hns : nth ((D1.map ii).set (p + 1) (ii y)) p = ii y := by
            rw [← List.map_set, nth_map ii (by simpa using hi2), List.getElem_set_ne (by omega), hpv]
          (repeat (first | refine awp_seq ?_ | refine awp_block ?_ | ((first | refine awp_runG [0, 1, 2, 3, 8, 9, 14, 34, 1000000, 1000001] hX ?_ | refine awp_drawnG [0, 1, 2, 3, 8, 9, 14, 34, 1000000, 1000001] hX mixed ?_ | refine awp_skip ?_ | refine awp_exit ?_); (simp [go_sem, hi1, hi2, hat, hpv, ht1, hwp, hgt, hgt2]; try (refine ⟨by kernel_rfl, ?_⟩)))))
          (repeat refine And.intro (by first | omega | (unfold maxLen; omega) | kernel_rfl | (refine ⟨by first | omega | (unfold maxLen; omega), by first | omega | (unfold maxLen; omega)⟩) | grind) ?_)
          first | refine callHG_intro [1] (fun hg => hcm) (by simp [go_sem]) (by simp [go_sem]) ?_ | refine callHGT_intro [1] (fun hg => hcm) (by simp [go_sem]) ?_
          try (simp [go_sem, hi1, hi2, hat, hpv, ht1, hwp, hgt, hgt2]; try (refine ⟨by kernel_rfl, ?_⟩))
          refine awp_cond (b := decide (cmpC R x y < 0)) (by simp [go_sem]) (fun hd2 => ?_) (fun hd2 => ?_)
          · simp only [decide_eq_true_eq] at hd2
            (repeat (first | refine awp_seq ?_ | refine awp_block ?_ | ((first | refine awp_runG [0, 1, 2, 3, 8, 9, 14, 34, 1000000, 1000001] hX ?_ | refine awp_drawnG [0, 1, 2, 3, 8, 9, 14, 34, 1000000, 1000001] hX mixed ?_ | refine awp_skip ?_ | refine awp_exit ?_); (simp [go_sem, hi1, hi2, hat, hpv, ht1, hwp, hzs]; (try simp (disch := omega) only [w64, td, tm]); try (refine ⟨by kernel_rfl, ?_⟩)))))
            try (simp [go_sem, hi1, hi2, hat, hpv, ht1, hwp, hzs]; try (refine ⟨by kernel_rfl, ?_⟩))
            (repeat refine And.intro (by first | omega | (unfold maxLen; omega) | kernel_rfl | (refine ⟨by first | omega | (unfold maxLen; omega), by first | omega | (unfold maxLen; omega)⟩) | grind) ?_)
            (repeat (first | refine awp_seq ?_ | refine awp_block ?_ | ((first | refine awp_runG [0, 1, 2, 3, 8, 9, 14, 34, 1000000, 1000001] hX ?_ | refine awp_drawnG [0, 1, 2, 3, 8, 9, 14, 34, 1000000, 1000001] hX mixed ?_ | refine awp_skip ?_ | refine awp_exit ?_); (simp [go_sem, hi1, hi2, hat, hpv, ht1, hwp, hzs]; (try simp (disch := omega) only [w64, td, tm]); try (refine ⟨by kernel_rfl, ?_⟩)))))
            refine ⟨k, ⟨by omega, hdk (hbef.2 hd2)⟩, by omega, ?_⟩
            rw [← hsw]
            refine sub_of _ [.old 0 ⟨3, 1, ((D1.set (p + 1) y).set p x).map ii⟩, .old 1 ⟨22, 1, [bsl R]⟩] (by simp [go_sem, hns, hzs]) ?_
            simp [go_sem]
            try omega
          · simp only [decide_eq_false_iff_not] at hd2
            (repeat (first | refine awp_seq ?_ | refine awp_block ?_ | ((first | refine awp_runG [0, 1, 2, 3, 8, 9, 14, 34, 1000000, 1000001] hX ?_ | refine awp_drawnG [0, 1, 2, 3, 8, 9, 14, 34, 1000000, 1000001] hX mixed ?_ | refine awp_skip ?_ | refine awp_exit ?_); (simp [go_sem]; (try simp (disch := omega) only [w64, td, tm]); try (refine ⟨by kernel_rfl, ?_⟩)))))
            refine ⟨i + 1, by omega, by omega, ?_⟩
            rw [← done (hup fun h => hd2 (hbef.1 h))]
            refine sub_of _ [.old 0 ⟨3, 1, D1.map ii⟩, .old 1 ⟨22, 1, [bsl R]⟩] (by simp [go_sem]) ?_
            simp [go_sem]
            try omega
    · simp at hc
      have hd2 : r3 pre (srt (kf R) (l.take i)) (l.drop i ++ post) = r3 pre (srt (kf R) l) post := by
        rw [List.take_of_length_le (by omega), List.drop_of_length_le (by omega)]; rfl
      rw [hd2]
      (repeat (first | refine awp_seq ?_ | refine awp_block ?_ | ((first | refine awp_runG [0, 1, 2, 3, 8, 9, 14, 34, 1000000, 1000001] hX ?_ | refine awp_drawnG [0, 1, 2, 3, 8, 9, 14, 34, 1000000, 1000001] hX mixed ?_ | refine awp_skip ?_ | refine awp_exit ?_); (simp [go_sem]; try (refine ⟨by kernel_rfl, ?_⟩)))))
      (try refine awp_ret ?_); (try simp only [thenQ, blkQ, loopQ]); refine retH_normal [(1000000, .ow 0), (1000001, .ow 1)] [.old 0 ⟨3, 1, (r3 pre (srt (kf R) l) post).map ii⟩, .old 1 ⟨22, 1, [bsl R]⟩] ?_
      simp [go_sem]
end Go.Proofs.YtjgkjenbgadacaaDoor.B

namespace Go.Proofs.YtjgkjenbgadacaaDoor.B
open Go.RowKit Go.Ab
attribute [local irreducible] AWP Go.Ab.Sub Means MeansH CallK CallG CallT CallGT CallU
set_option maxHeartbeats 4000000 in
set_option maxRecDepth 20000 in
theorem swapR_m (Q U M V T : List Int) (R : List Bd) (hUV : U.length = V.length) (hb : Q.length + U.length + M.length + V.length + T.length ≤ 100000) (hR : R.length ≤ 100000) :
    MeansH Tryd.prog 84 (sH (r5 Q U M V T) R) [.ow 0, ii Q.length, ii (Q.length + U.length + M.length : Nat), ii U.length, clo] (.tup []) (sH (r5 Q V M U T) R) := by
  obtain ⟨a, ha⟩ : ∃ a, Q.length = a := ⟨_, rfl⟩
  obtain ⟨b, hbe⟩ : ∃ b, Q.length + U.length + M.length = b := ⟨_, rfl⟩
  obtain ⟨n, hn⟩ : ∃ n, U.length = n := ⟨_, rfl⟩
  rw [hbe, ha, hn]
  refine meansH_fn 2 38 [] Tryd.func84 rfl rfl rfl (by simp) (by decide) rfl fun X hX => ?_
  (repeat (first | refine awp_seq ?_ | refine awp_block ?_ | ((first | refine awp_runG [0, 1, 2, 3, 10, 13, 1000000, 1000001] hX ?_ | refine awp_drawnG [0, 1, 2, 3, 10, 13, 1000000, 1000001] hX mixed ?_ | refine awp_skip ?_ | refine awp_exit ?_); (simp [go_sem]; (try simp (disch := omega) only [w64, td, tm]); try (refine ⟨by kernel_rfl, ?_⟩)))))
  refine awp_loop (fun i : Nat => ⟨mkE [(0, .ow 0), (1, ii a), (2, ii b), (3, ii n), (10, ii i), (1000000, .ow 0), (1000001, .ow 1)], sH (r5 Q (sw U V i) M (sw V U i) T) R⟩) (fun i => i ≤ n) (fun i => n - i) 0 ?_ ?_ ?_
  · rw [sw_zero, sw_zero]
    refine sub_of _ [.old 0 ⟨3, 1, (r5 Q U M V T).map ii⟩, .old 1 ⟨22, 1, [bsl R]⟩] (by simp [go_sem]) ?_
    simp [go_sem]
  · omega
  · intro i hi
    (repeat (first | refine awp_seq ?_ | refine awp_block ?_ | ((first | refine awp_runG [0, 1, 2, 3, 10, 13, 1000000, 1000001] hX ?_ | refine awp_drawnG [0, 1, 2, 3, 10, 13, 1000000, 1000001] hX mixed ?_ | refine awp_skip ?_ | refine awp_exit ?_); (simp [go_sem]; try (refine ⟨by kernel_rfl, ?_⟩)))))
    refine awp_cond (b := decide (i < n)) (by simp [go_sem]) (fun hc => ?_) (fun hc => ?_)
    · simp at hc
      have hU : i < U.length := by omega
      have hV : i < V.length := by omega
      have l1 := sw_len hUV i
      have l2 := sw_len hUV.symm i
      have hDl := r5_len Q (sw U V i) M (sw V U i) T
      obtain ⟨p, hp⟩ : ∃ p, a + i = p := ⟨_, rfl⟩
      obtain ⟨q, hq⟩ : ∃ q, b + i = q := ⟨_, rfl⟩
      have hp' : (a : Int) + i = p := by omega
      have hq' : (b : Int) + i = q := by omega
      have hpl : p < (r5 Q (sw U V i) M (sw V U i) T).length := by omega
      have hql : q < (r5 Q (sw U V i) M (sw V U i) T).length := by omega
      have hpv : (r5 Q (sw U V i) M (sw V U i) T)[p] = U[i] := by
        have := r5_X (Q := Q) (X := sw U V i) (M := M) (Y := sw V U i) (T := T) (i := i) (by omega) (by omega)
        rw [sw_at hUV hU] at this
        rw [← this]; congr 1; omega
      have hqv : (r5 Q (sw U V i) M (sw V U i) T)[q] = V[i] := by
        have := r5_Y (Q := Q) (X := sw U V i) (M := M) (Y := sw V U i) (T := T) (i := i) (by omega) (by omega)
        rw [sw_at hUV.symm hV] at this
        rw [← this]; congr 1; omega
      have hsw : ((r5 Q (sw U V i) M (sw V U i) T).set p V[i]).set q U[i] = r5 Q (sw U V (i + 1)) M (sw V U (i + 1)) T := by
        have e1 : p = Q.length + i := by omega
        have e2 : q = Q.length + (sw U V (i + 1)).length + M.length + i := by rw [sw_len hUV]; omega
        rw [e1, r5_setX _ (by omega), sw_set hUV hU hV, e2, r5_setY _ (by omega), sw_set hUV.symm hV hU]
      have hpq : p ≠ q := by omega
      have hpb : q ≤ 100000 := by omega
      have hpb2 : p ≤ 100000 := by omega
      obtain ⟨x, hx⟩ : ∃ x, U[i] = x := ⟨_, rfl⟩
      obtain ⟨y, hy⟩ : ∃ y, V[i] = y := ⟨_, rfl⟩
      rw [hx] at hpv hsw
      rw [hy] at hqv hsw
      generalize r5 Q (sw U V i) M (sw V U i) T = D at *
      have hwp := w64 (x := (p : Int)) (by omega) (by omega)
      have hwq := w64 (x := (q : Int)) (by omega) (by omega)
      have hwi := w64 (x := (i : Int) + 1) (by omega) (by omega)
      have hns : nth ((D.map ii).set p (ii y)) q = ii y := by
        rw [← List.map_set, nth_map ii (by simpa using hql), List.getElem_set_ne (by omega), hqv]
      have hzs : zoneEs (((D.map ii).set p (ii y)).set q (ii x)) = true := by
        rw [← List.map_set, ← List.map_set]; exact zoneEs_map _ _ (fun _ => rfl)
      (repeat (first | refine awp_seq ?_ | refine awp_block ?_ | ((first | refine awp_runG [0, 1, 2, 3, 10, 13, 1000000, 1000001] hX ?_ | refine awp_drawnG [0, 1, 2, 3, 10, 13, 1000000, 1000001] hX mixed ?_ | refine awp_skip ?_ | refine awp_exit ?_); (simp [go_sem, hp', hq', hwp, hwq, hpl, hql, hpv, hqv]; try (refine ⟨by kernel_rfl, ?_⟩)))))
      (repeat refine And.intro (by first | omega | (unfold maxLen; omega) | kernel_rfl | (refine ⟨by first | omega | (unfold maxLen; omega), by first | omega | (unfold maxLen; omega)⟩) | grind) ?_)
      (repeat (first | refine awp_seq ?_ | refine awp_block ?_ | ((first | refine awp_runG [0, 1, 2, 3, 10, 13, 1000000, 1000001] hX ?_ | refine awp_drawnG [0, 1, 2, 3, 10, 13, 1000000, 1000001] hX mixed ?_ | refine awp_skip ?_ | refine awp_exit ?_); (simp [go_sem, hwi, hp', hq', hwp, hwq, hpl, hql, hpv, hqv]; (try simp (disch := omega) only [w64, td, tm]); try (refine ⟨by kernel_rfl, ?_⟩)))))
      refine ⟨i + 1, by omega, by omega, ?_⟩
      rw [← hsw]
      refine sub_of _ [.old 0 ⟨3, 1, ((D.set p y).set q x).map ii⟩, .old 1 ⟨22, 1, [bsl R]⟩] (by simp [go_sem, hns, hzs]) ?_
      simp [go_sem]
      try omega
    · simp at hc
      rw [sw_full hUV (by omega), sw_full hUV.symm (by omega)]
      (repeat (first | refine awp_seq ?_ | refine awp_block ?_ | ((first | refine awp_runG [0, 1, 2, 3, 10, 13, 1000000, 1000001] hX ?_ | refine awp_drawnG [0, 1, 2, 3, 10, 13, 1000000, 1000001] hX mixed ?_ | refine awp_skip ?_ | refine awp_exit ?_); (simp [go_sem]; try (refine ⟨by kernel_rfl, ?_⟩)))))
      (try refine awp_ret ?_); (try simp only [thenQ, blkQ, loopQ]); refine retH_normal [(1000000, .ow 0), (1000001, .ow 1)] [.old 0 ⟨3, 1, (r5 Q V M U T).map ii⟩, .old 1 ⟨22, 1, [bsl R]⟩] ?_
      simp [go_sem]
set_option maxHeartbeats 4000000 in
set_option maxRecDepth 20000 in
theorem rot_m (Q E F T : List Int) (R : List Bd) (hE : 0 < E.length) (hF : 0 < F.length) (hb : Q.length + E.length + F.length + T.length ≤ 100000) (hR : R.length ≤ 100000) :
    MeansH Tryd.prog 82 (sH (r4 (Q, E, F, T)) R) [.ow 0, ii Q.length, ii (Q.length + E.length : Nat), ii (Q.length + E.length + F.length : Nat), clo] (.tup []) (sH (r4 (Q, F, E, T)) R) := by
  obtain ⟨m, hm⟩ : ∃ m, Q.length + E.length = m := ⟨_, rfl⟩
  obtain ⟨b, hbe⟩ : ∃ b, m + F.length = b := ⟨_, rfl⟩
  obtain ⟨a, ha⟩ : ∃ a, Q.length = a := ⟨_, rfl⟩
  rw [hm, hbe, ha]
  have hi0 : (m : Int) - a = E.length := by omega
  have hj0 : (b : Int) - m = F.length := by omega
  refine meansH_fn 2 58 [] Tryd.func82 rfl rfl rfl (by simp) (by decide) rfl fun X hX => ?_
  (repeat (first | refine awp_seq ?_ | refine awp_block ?_ | ((first | refine awp_runG [0, 1, 2, 3, 4, 10, 11, 20, 23, 1000000, 1000001] hX ?_ | refine awp_drawnG [0, 1, 2, 3, 4, 10, 11, 20, 23, 1000000, 1000001] hX mixed ?_ | refine awp_skip ?_ | refine awp_exit ?_); (simp [go_sem, hi0, hj0]; (try simp (disch := omega) only [w64, td, tm]); try (refine ⟨by kernel_rfl, ?_⟩)))))
  try (simp [go_sem, hi0, hj0]; try (refine ⟨by kernel_rfl, ?_⟩))
  refine awp_loop (fun x : List Int × List Int × List Int × List Int => ⟨mkE [(0, .ow 0), (2, ii m), (4, clo), (10, ii x.2.1.length), (11, ii x.2.2.1.length), (1000000, .ow 0), (1000001, .ow 1)], sH (r4 x) R⟩)
    (fun x => r4 (x.1, x.2.2.1, x.2.1, x.2.2.2) = r4 (Q, F, E, T) ∧ x.1.length + x.2.1.length = m ∧ 0 < x.2.1.length ∧ 0 < x.2.2.1.length ∧ x.1.length + x.2.1.length + x.2.2.1.length + x.2.2.2.length ≤ 100000) (fun x => x.2.1.length + x.2.2.1.length) (Q, E, F, T) ?_ ?_ ?_
  · refine sub_of _ [.old 0 ⟨3, 1, (r4 (Q, E, F, T)).map ii⟩, .old 1 ⟨22, 1, [bsl R]⟩] (by simp [go_sem]) ?_
    simp [go_sem]
  · exact ⟨rfl, hm, hE, hF, hb⟩
  · rintro ⟨P, U, V, S⟩ ⟨h1, h2, h3, h4, h5⟩
    simp only [] at h1 h2 h3 h4 h5
    have hmu : (m : Int) - U.length = P.length := by omega
    have hwp := w64 (x := (P.length : Int)) (by omega) (by omega)
    (repeat (first | refine awp_seq ?_ | refine awp_block ?_ | ((first | refine awp_runG [0, 1, 2, 3, 4, 10, 11, 20, 23, 1000000, 1000001] hX ?_ | refine awp_drawnG [0, 1, 2, 3, 4, 10, 11, 20, 23, 1000000, 1000001] hX mixed ?_ | refine awp_skip ?_ | refine awp_exit ?_); (simp [go_sem]; try (refine ⟨by kernel_rfl, ?_⟩)))))
    refine awp_cond (b := decide (U.length ≠ V.length)) (by simp [go_sem]; try omega) (fun hc => ?_) (fun hc => ?_)
    · simp only [decide_eq_true_eq] at hc
      (repeat (first | refine awp_seq ?_ | refine awp_block ?_ | ((first | refine awp_runG [0, 1, 2, 3, 4, 10, 11, 20, 23, 1000000, 1000001] hX ?_ | refine awp_drawnG [0, 1, 2, 3, 4, 10, 11, 20, 23, 1000000, 1000001] hX mixed ?_ | refine awp_skip ?_ | refine awp_exit ?_); (simp [go_sem]; try (refine ⟨by kernel_rfl, ?_⟩)))))
      refine awp_cond (b := decide (V.length < U.length)) (by simp [go_sem]; try omega) (fun hd => ?_) (fun hd => ?_)
      · simp only [decide_eq_true_eq] at hd
        have l1 : (U.take V.length).length = V.length := by simp; omega
        have l2 : (U.drop V.length).length = U.length - V.length := by simp
        have e1 : r4 (P, U, V, S) = r5 P (U.take V.length) (U.drop V.length) V S := by simp [r4, r5]
        have e2 : r5 P V (U.drop V.length) (U.take V.length) S = r4 (P ++ V, U.drop V.length, U.take V.length, S) := by simp [r4, r5]
        have hs := swapR_m P (U.take V.length) (U.drop V.length) V S R l1 (by omega) hR
        rw [e2, ← e1, l1, show P.length + V.length + (U.drop V.length).length = m by omega] at hs
        have hwj : IntKind.i64.wrap ((U.length : Int) - V.length) = ((U.drop V.length).length : Int) := by rw [w64 (by omega) (by omega)]; omega
        have h1' : r4 (P ++ V, U.take V.length, U.drop V.length, S) = r4 (Q, F, E, T) := by rw [← h1]; simp [r4]
        generalize U.drop V.length = U2 at *
        generalize hU1 : U.take V.length = U1 at *
        (repeat (first | refine awp_seq ?_ | refine awp_block ?_ | ((first | refine awp_runG [0, 1, 2, 3, 4, 10, 11, 20, 23, 1000000, 1000001] hX ?_ | refine awp_drawnG [0, 1, 2, 3, 4, 10, 11, 20, 23, 1000000, 1000001] hX mixed ?_ | refine awp_skip ?_ | refine awp_exit ?_); (simp [go_sem, hmu, hwp]; try (refine ⟨by kernel_rfl, ?_⟩)))))
        first | refine callH_intro [0, 1] (hs) (by simp [go_sem]) ?_ | refine callTQ_intro [0, 1] (hs) (by simp [go_sem]) ?_ | refine callTE_intro [0, 1] (hs) (by simp [go_sem]) ?_
        try (simp [go_sem, hwj]; try (refine ⟨by kernel_rfl, ?_⟩))
        (repeat (first | refine awp_seq ?_ | refine awp_block ?_ | ((first | refine awp_runG [0, 1, 2, 3, 4, 10, 11, 20, 23, 1000000, 1000001] hX ?_ | refine awp_drawnG [0, 1, 2, 3, 4, 10, 11, 20, 23, 1000000, 1000001] hX mixed ?_ | refine awp_skip ?_ | refine awp_exit ?_); (simp [go_sem, hwj]; try (refine ⟨by kernel_rfl, ?_⟩)))))
        refine ⟨P ++ V, U2, U1, S, ⟨h1', by simp; omega, by omega, by omega, by simp; omega⟩, by first | omega | (simp only []; omega), ?_⟩
        refine sub_of _ [.old 0 ⟨3, 1, (r4 (P ++ V, U2, U1, S)).map ii⟩, .old 1 ⟨22, 1, [bsl R]⟩] (by simp [go_sem]) ?_
        simp [go_sem, l1]
      · simp only [decide_eq_false_iff_not] at hd
        obtain ⟨k, hk⟩ : ∃ k, V.length - U.length = k := ⟨_, rfl⟩
        have l1 : (V.take k).length = k := by simp; omega
        have l2 : (V.drop k).length = U.length := by simp; omega
        have e1 : r4 (P, U, V, S) = r5 P U (V.take k) (V.drop k) S := by simp [r4, r5]
        have e2 : r5 P (V.drop k) (V.take k) U S = r4 (P, V.drop k, V.take k, U ++ S) := by simp [r4, r5]
        have hs := swapR_m P U (V.take k) (V.drop k) S R l2.symm (by omega) hR
        rw [e2, ← e1, l1] at hs
        have hw1 : IntKind.i64.wrap (IntKind.i64.wrap ((m : Int) + V.length) - U.length) = ((P.length + U.length + k : Nat) : Int) := by rw [w64 (x := (m : Int) + V.length) (by omega) (by omega), w64 (by omega) (by omega)]; omega
        have hwj : IntKind.i64.wrap ((V.length : Int) - U.length) = ((V.take k).length : Int) := by rw [w64 (by omega) (by omega)]; omega
        have h1' : r4 (P, V.take k, V.drop k, U ++ S) = r4 (Q, F, E, T) := by rw [← h1]; simp [r4]
        generalize V.drop k = V2 at *
        generalize V.take k = V1 at *
        obtain ⟨w, hw⟩ : ∃ w, P.length + U.length + k = w := ⟨_, rfl⟩
        rw [hw] at hs hw1
        (repeat (first | refine awp_seq ?_ | refine awp_block ?_ | ((first | refine awp_runG [0, 1, 2, 3, 4, 10, 11, 20, 23, 1000000, 1000001] hX ?_ | refine awp_drawnG [0, 1, 2, 3, 4, 10, 11, 20, 23, 1000000, 1000001] hX mixed ?_ | refine awp_skip ?_ | refine awp_exit ?_); (simp [go_sem, hmu, hwp, hw1]; try (refine ⟨by kernel_rfl, ?_⟩)))))
        first | refine callH_intro [0, 1] (hs) (by simp [go_sem]) ?_ | refine callTQ_intro [0, 1] (hs) (by simp [go_sem]) ?_ | refine callTE_intro [0, 1] (hs) (by simp [go_sem]) ?_
        try (simp [go_sem, hwj]; try (refine ⟨by kernel_rfl, ?_⟩))
        (repeat (first | refine awp_seq ?_ | refine awp_block ?_ | ((first | refine awp_runG [0, 1, 2, 3, 4, 10, 11, 20, 23, 1000000, 1000001] hX ?_ | refine awp_drawnG [0, 1, 2, 3, 4, 10, 11, 20, 23, 1000000, 1000001] hX mixed ?_ | refine awp_skip ?_ | refine awp_exit ?_); (simp [go_sem, hwj]; try (refine ⟨by kernel_rfl, ?_⟩)))))
        refine ⟨P, V2, V1, U ++ S, ⟨h1', by omega, by omega, by omega, by simp; omega⟩, by first | omega | (simp only []; omega), ?_⟩
        refine sub_of _ [.old 0 ⟨3, 1, (r4 (P, V2, V1, U ++ S)).map ii⟩, .old 1 ⟨22, 1, [bsl R]⟩] (by simp [go_sem]) ?_
        simp [go_sem, l2]
    · simp only [decide_eq_false_iff_not, Classical.not_not] at hc
      have e1 : r4 (P, U, V, S) = r5 P U [] V S := by simp [r4, r5]
      have e2 : r5 P V [] U S = r4 (Q, F, E, T) := by rw [← h1]; simp [r4, r5]
      have hs := swapR_m P U [] V S R hc (by simp; omega) hR
      rw [e2, ← e1, List.length_nil, Nat.add_zero, h2] at hs
      (repeat (first | refine awp_seq ?_ | refine awp_block ?_ | ((first | refine awp_runG [0, 1, 2, 3, 4, 10, 11, 20, 23, 1000000, 1000001] hX ?_ | refine awp_drawnG [0, 1, 2, 3, 4, 10, 11, 20, 23, 1000000, 1000001] hX mixed ?_ | refine awp_skip ?_ | refine awp_exit ?_); (simp [go_sem, hmu, hwp]; try (refine ⟨by kernel_rfl, ?_⟩)))))
      first | refine callH_intro [0, 1] (hs) (by simp [go_sem]) ?_ | refine callTQ_intro [0, 1] (hs) (by simp [go_sem]) ?_ | refine callTE_intro [0, 1] (hs) (by simp [go_sem]) ?_
      try (simp [go_sem]; try (refine ⟨by kernel_rfl, ?_⟩))
      (repeat (first | refine awp_seq ?_ | refine awp_block ?_ | ((first | refine awp_runG [0, 1, 2, 3, 4, 10, 11, 20, 23, 1000000, 1000001] hX ?_ | refine awp_drawnG [0, 1, 2, 3, 4, 10, 11, 20, 23, 1000000, 1000001] hX mixed ?_ | refine awp_skip ?_ | refine awp_exit ?_); (simp [go_sem]; try (refine ⟨by kernel_rfl, ?_⟩)))))
      (try refine awp_ret ?_); (try simp only [thenQ, blkQ, loopQ]); refine retH_normal [(1000000, .ow 0), (1000001, .ow 1)] [.old 0 ⟨3, 1, (r4 (Q, F, E, T)).map ii⟩, .old 1 ⟨22, 1, [bsl R]⟩] ?_
      simp [go_sem]
end Go.Proofs.YtjgkjenbgadacaaDoor.B

namespace Go.Proofs.YtjgkjenbgadacaaDoor.B
open Go.RowKit Go.Ab
attribute [local irreducible] AWP Go.Ab.Sub Means MeansH CallK CallG CallT CallGT CallU
theorem mid_eq (x y : Nat) (h : x + y ≤ 1000000) : IntKind.i64.wrap ((IntKind.u64.wrap ((x : Int) + y)).fdiv 2) = (((x + y) / 2 : Nat) : Int) := by
  have e : IntKind.u64.wrap ((x : Int) + y) = (x : Int) + y := IntWalk.u64_in _ (by omega)
  rw [e, Int.fdiv_eq_ediv_of_nonneg _ (by omega), w64 (by omega) (by omega)]; omega
set_option maxHeartbeats 4000000 in
set_option maxRecDepth 20000 in
theorem symA_m (Q : List Int) (x : Int) (B T : List Int) (R : List Bd) (hB0 : 0 < B.length) (hB : B.Pairwise (bef (kf R))) (hlt : ∀ y ∈ B, x < y) (hx : 0 ≤ x ∧ x < R.length) (hr : ∀ y ∈ B, 0 ≤ y ∧ y < R.length) (hb : Q.length + 1 + B.length + T.length ≤ 100000) (hR : R.length ≤ 100000) (hok : okR R) :
    MeansH Tryd.prog 75 (sH (r4 (Q, [x], B, T)) R) [.ow 0, ii Q.length, ii (Q.length + 1 : Nat), ii (Q.length + 1 + B.length : Nat), clo] (.tup []) (sH (r3 Q (srt (kf R) (x :: B)) T) R) := by
  obtain ⟨a, ha⟩ : ∃ a, Q.length = a := ⟨_, rfl⟩
  obtain ⟨m, hm⟩ : ∃ m, a + 1 = m := ⟨_, rfl⟩
  obtain ⟨b, hbe⟩ : ∃ b, m + B.length = b := ⟨_, rfl⟩
  rw [ha, hm, hbe]
  have hma : (m : Int) - a = 1 := by omega
  have hDl := r4_len Q [x] B T
  rw [List.length_singleton] at hDl
  refine meansH_fn 2 220 [] Tryd.func75 rfl rfl rfl (by simp) (by decide) rfl fun X hX => ?_
  (repeat (first | refine awp_seq ?_ | refine awp_block ?_ | ((first | refine awp_runG [0, 1, 2, 3, 4, 10, 11, 12, 13, 14, 15, 16, 17, 18, 19, 20, 21, 22, 23, 24, 28, 33, 50, 58, 80, 85, 103, 110, 140, 151, 171, 185, 199, 213, 1000000, 1000001] hX ?_ | refine awp_drawnG [0, 1, 2, 3, 4, 10, 11, 12, 13, 14, 15, 16, 17, 18, 19, 20, 21, 22, 23, 24, 28, 33, 50, 58, 80, 85, 103, 110, 140, 151, 171, 185, 199, 213, 1000000, 1000001] hX mixed ?_ | refine awp_skip ?_ | refine awp_exit ?_); (simp [go_sem, hma]; (try simp (disch := omega) only [w64, td, tm]); try (refine ⟨by kernel_rfl, ?_⟩)))))
  try (simp [go_sem, hma]; try (refine ⟨by kernel_rfl, ?_⟩))
  refine awp_cond (b := true) (by simp [go_sem]) (fun _ => ?_) (fun h => by cases h)
  (repeat (first | refine awp_seq ?_ | refine awp_block ?_ | ((first | refine awp_runG [0, 1, 2, 3, 4, 10, 11, 12, 13, 14, 15, 16, 17, 18, 19, 20, 21, 22, 23, 24, 28, 33, 50, 58, 80, 85, 103, 110, 140, 151, 171, 185, 199, 213, 1000000, 1000001] hX ?_ | refine awp_drawnG [0, 1, 2, 3, 4, 10, 11, 12, 13, 14, 15, 16, 17, 18, 19, 20, 21, 22, 23, 24, 28, 33, 50, 58, 80, 85, 103, 110, 140, 151, 171, 185, 199, 213, 1000000, 1000001] hX mixed ?_ | refine awp_skip ?_ | refine awp_exit ?_); (simp [go_sem]; try (refine ⟨by kernel_rfl, ?_⟩)))))
  refine awp_loop (fun z : Nat × Nat => ⟨mkE [(0, .ow 0), (1, ii a), (2, ii m), (3, ii b), (4, clo), (10, ii (m + z.1 : Nat)), (11, ii (m + z.2 : Nat)), (1000000, .ow 0), (1000001, .ow 1)], sH (r4 (Q, [x], B, T)) R⟩)
    (fun z => z.1 ≤ z.2 ∧ z.2 ≤ B.length ∧ (∀ e ∈ B.take z.1, bef (kf R) e x) ∧ (∀ e ∈ B.drop z.2, bef (kf R) x e)) (fun z => z.2 - z.1) (0, B.length) ?_ ?_ ?_
  · simp only [hbe, Nat.add_zero]
    refine sub_of _ [.old 0 ⟨3, 1, (r4 (Q, [x], B, T)).map ii⟩, .old 1 ⟨22, 1, [bsl R]⟩] (by simp [go_sem]) ?_
    simp [go_sem]
  · exact ⟨by simp, by simp, by simp, by simp⟩
  · rintro ⟨i, j⟩ ⟨h1, h2, h3, h4⟩
    simp only [] at h1 h2 h3 h4
    (repeat (first | refine awp_seq ?_ | refine awp_block ?_ | ((first | refine awp_runG [0, 1, 2, 3, 4, 10, 11, 12, 13, 14, 15, 16, 17, 18, 19, 20, 21, 22, 23, 24, 28, 33, 50, 58, 80, 85, 103, 110, 140, 151, 171, 185, 199, 213, 1000000, 1000001] hX ?_ | refine awp_drawnG [0, 1, 2, 3, 4, 10, 11, 12, 13, 14, 15, 16, 17, 18, 19, 20, 21, 22, 23, 24, 28, 33, 50, 58, 80, 85, 103, 110, 140, 151, 171, 185, 199, 213, 1000000, 1000001] hX mixed ?_ | refine awp_skip ?_ | refine awp_exit ?_); (simp [go_sem]; try (refine ⟨by kernel_rfl, ?_⟩)))))
    refine awp_cond (b := decide (i < j)) (by simp [go_sem]; try omega) (fun hc => ?_) (fun hc => ?_)
    · simp at hc
      obtain ⟨h, hh⟩ : ∃ h, (i + j) / 2 = h := ⟨_, rfl⟩
      obtain ⟨P, hPe⟩ : ∃ P, m + h = P := ⟨_, rfl⟩
      have hhB : h < B.length := by omega
      have hP : IntKind.i64.wrap ((IntKind.u64.wrap ((m : Int) + i + (m + j))).fdiv 2) = (P : Int) := by
        have := mid_eq (m + i) (m + j) (by omega)
        simp only [Int.natCast_add] at this
        rw [this]; omega
      have hwE := w64 (x := (m : Int) + i + (m + j)) (by omega) (by omega)
      have hPl : P < (r4 (Q, [x], B, T)).length := by omega
      have hal : a < (r4 (Q, [x], B, T)).length := by omega
      have hPv : (r4 (Q, [x], B, T))[P] = B[h] := by
        have := r4_B (Q := Q) (A := [x]) (T := T) hhB (by simp; omega)
        rw [← this]; congr 1; simp; omega
      have hav : (r4 (Q, [x], B, T))[a] = x := by
        have := r4_A (Q := Q) (A := [x]) (B := B) (T := T) (i := 0) (by simp) (by omega)
        simp only [List.getElem_cons_zero] at this
        refine Eq.trans ?_ this; congr 1; omega
      have hyr := hr B[h] (List.getElem_mem hhB)
      have hxy := hlt B[h] (List.getElem_mem hhB)
      have hcm := clo_m R hok B[h] x hyr hx
      have hneg := cmp_neg R B[h] x
      have t1 := fun q => take_bef (x := x) hB hhB q
      have t2 := fun q => drop_bef (x := x) hB hhB q
      have hbef : bef (kf R) B[h] x ↔ cmpC R B[h] x < 0 := by rw [hneg]; unfold bef; omega
      have hbef2 : ¬ bef (kf R) B[h] x → bef (kf R) x B[h] := fun q => (bef_total (by omega)).resolve_left q
      obtain ⟨y, hy⟩ : ∃ y, B[h] = y := ⟨_, rfl⟩
      rw [hy] at hPv hcm hbef hbef2 t1 t2
      generalize r4 (Q, [x], B, T) = D at *
      (repeat (first | refine awp_seq ?_ | refine awp_block ?_ | ((first | refine awp_runG [0, 1, 2, 3, 4, 10, 11, 12, 13, 14, 15, 16, 17, 18, 19, 20, 21, 22, 23, 24, 28, 33, 50, 58, 80, 85, 103, 110, 140, 151, 171, 185, 199, 213, 1000000, 1000001] hX ?_ | refine awp_drawnG [0, 1, 2, 3, 4, 10, 11, 12, 13, 14, 15, 16, 17, 18, 19, 20, 21, 22, 23, 24, 28, 33, 50, 58, 80, 85, 103, 110, 140, 151, 171, 185, 199, 213, 1000000, 1000001] hX mixed ?_ | refine awp_skip ?_ | refine awp_exit ?_); (simp [go_sem, hwE, hP, hPl, hal, hPv, hav]; try (refine ⟨by kernel_rfl, ?_⟩)))))
      (repeat refine And.intro (by first | omega | (unfold maxLen; omega) | kernel_rfl | (refine ⟨by first | omega | (unfold maxLen; omega), by first | omega | (unfold maxLen; omega)⟩) | grind) ?_)
      try (simp [go_sem, hwE, hP, hPl, hal, hPv, hav]; try (refine ⟨by kernel_rfl, ?_⟩))
      first | refine callH_intro [1] (hcm) (by simp [go_sem]) ?_ | refine callTQ_intro [1] (hcm) (by simp [go_sem]) ?_ | refine callTE_intro [1] (hcm) (by simp [go_sem]) ?_
      try (simp [go_sem, hwE, hP, hPl, hal, hPv, hav]; try (refine ⟨by kernel_rfl, ?_⟩))
      refine awp_cond (b := decide (cmpC R y x < 0)) (by simp [go_sem]) (fun hd => ?_) (fun hd => ?_)
      · simp only [decide_eq_true_eq] at hd
        (repeat (first | refine awp_seq ?_ | refine awp_block ?_ | ((first | refine awp_runG [0, 1, 2, 3, 4, 10, 11, 12, 13, 14, 15, 16, 17, 18, 19, 20, 21, 22, 23, 24, 28, 33, 50, 58, 80, 85, 103, 110, 140, 151, 171, 185, 199, 213, 1000000, 1000001] hX ?_ | refine awp_drawnG [0, 1, 2, 3, 4, 10, 11, 12, 13, 14, 15, 16, 17, 18, 19, 20, 21, 22, 23, 24, 28, 33, 50, 58, 80, 85, 103, 110, 140, 151, 171, 185, 199, 213, 1000000, 1000001] hX mixed ?_ | refine awp_skip ?_ | refine awp_exit ?_); (simp [go_sem]; (try simp (disch := omega) only [w64, td, tm]); try (refine ⟨by kernel_rfl, ?_⟩)))))
        refine ⟨h + 1, j, ⟨by omega, h2, t1 (hbef.2 hd), h4⟩, by omega, ?_⟩
        refine sub_of _ [.old 0 ⟨3, 1, D.map ii⟩, .old 1 ⟨22, 1, [bsl R]⟩] (by simp [go_sem]) ?_
        simp [go_sem]
        try omega
      · simp only [decide_eq_false_iff_not] at hd
        (repeat (first | refine awp_seq ?_ | refine awp_block ?_ | ((first | refine awp_runG [0, 1, 2, 3, 4, 10, 11, 12, 13, 14, 15, 16, 17, 18, 19, 20, 21, 22, 23, 24, 28, 33, 50, 58, 80, 85, 103, 110, 140, 151, 171, 185, 199, 213, 1000000, 1000001] hX ?_ | refine awp_drawnG [0, 1, 2, 3, 4, 10, 11, 12, 13, 14, 15, 16, 17, 18, 19, 20, 21, 22, 23, 24, 28, 33, 50, 58, 80, 85, 103, 110, 140, 151, 171, 185, 199, 213, 1000000, 1000001] hX mixed ?_ | refine awp_skip ?_ | refine awp_exit ?_); (simp [go_sem]; (try simp (disch := omega) only [w64, td, tm]); try (refine ⟨by kernel_rfl, ?_⟩)))))
        refine ⟨i, h, ⟨by omega, by omega, h3, t2 (hbef2 fun q => hd (hbef.1 q))⟩, by omega, ?_⟩
        refine sub_of _ [.old 0 ⟨3, 1, D.map ii⟩, .old 1 ⟨22, 1, [bsl R]⟩] (by simp [go_sem]) ?_
        simp [go_sem]
        try omega
    · have hij : i = j := by simp at hc; omega
      subst hij
      have hfin := rowX_srt' (pre := Q) (x := x) (post := T) (.refl (x :: B)) hB h3 h4
      rw [r4_one] at *
      (repeat (first | refine awp_seq ?_ | refine awp_block ?_ | ((first | refine awp_runG [0, 1, 2, 3, 4, 10, 11, 12, 13, 14, 15, 16, 17, 18, 19, 20, 21, 22, 23, 24, 28, 33, 50, 58, 80, 85, 103, 110, 140, 151, 171, 185, 199, 213, 1000000, 1000001] hX ?_ | refine awp_drawnG [0, 1, 2, 3, 4, 10, 11, 12, 13, 14, 15, 16, 17, 18, 19, 20, 21, 22, 23, 24, 28, 33, 50, 58, 80, 85, 103, 110, 140, 151, 171, 185, 199, 213, 1000000, 1000001] hX mixed ?_ | refine awp_skip ?_ | refine awp_exit ?_); (simp [go_sem]; try (refine ⟨by kernel_rfl, ?_⟩)))))
      refine awp_loop (fun k : Nat => ⟨mkE [(0, .ow 0), (10, ii (m + i : Nat)), (13, ii (a + k : Nat)), (1000000, .ow 0), (1000001, .ow 1)], sH (rowX Q B x T k) R⟩) (fun k => k ≤ i) (fun k => i - k) 0 ?_ ?_ ?_
      · refine sub_of _ [.old 0 ⟨3, 1, (rowX Q B x T 0).map ii⟩, .old 1 ⟨22, 1, [bsl R]⟩] (by simp [go_sem]) ?_
        simp [go_sem]
      · omega
      · intro k hk
        have hwm := w64 (x := (m : Int) + i - 1) (by omega) (by omega)
        (repeat (first | refine awp_seq ?_ | refine awp_block ?_ | ((first | refine awp_runG [0, 1, 2, 3, 4, 10, 11, 12, 13, 14, 15, 16, 17, 18, 19, 20, 21, 22, 23, 24, 28, 33, 50, 58, 80, 85, 103, 110, 140, 151, 171, 185, 199, 213, 1000000, 1000001] hX ?_ | refine awp_drawnG [0, 1, 2, 3, 4, 10, 11, 12, 13, 14, 15, 16, 17, 18, 19, 20, 21, 22, 23, 24, 28, 33, 50, 58, 80, 85, 103, 110, 140, 151, 171, 185, 199, 213, 1000000, 1000001] hX mixed ?_ | refine awp_skip ?_ | refine awp_exit ?_); (simp [go_sem, hwm]; (try simp (disch := omega) only [w64, td, tm]); try (refine ⟨by kernel_rfl, ?_⟩)))))
        try (simp [go_sem, hwm]; try (refine ⟨by kernel_rfl, ?_⟩))
        refine awp_cond (b := decide (k < i)) (by simp [go_sem]; try omega) (fun hd => ?_) (fun hd => ?_)
        · simp at hd
          have hkB : k < B.length := by omega
          have hlen := rowX_len (pre := Q) (x := x) (post := T) (s := B) (k := k) (by omega)
          obtain ⟨p, hp⟩ : ∃ p, a + k = p := ⟨_, rfl⟩
          have hp' : (a : Int) + k = p := by omega
          have hi1 : p + 1 < (rowX Q B x T k).length := by omega
          have hi2 : p < (rowX Q B x T k).length := by omega
          have hv1 : (rowX Q B x T k)[p] = x := by
            have := rowX_at (pre := Q) (s := B) (x := x) (post := T) (k := k) (by omega) (by omega)
            refine Eq.trans ?_ this; congr 1; omega
          have hv2 : (rowX Q B x T k)[p + 1] = B[k] := by
            have := rowX_next (pre := Q) (s := B) (x := x) (post := T) (k := k) hkB (by omega)
            refine Eq.trans ?_ this; congr 1; omega
          have hsw := rowX_swap' (pre := Q) (x := x) (post := T) hkB
          rw [show Q.length + k = p by omega, show Q.length + (k + 1) = p + 1 by omega] at hsw
          obtain ⟨y, hy⟩ : ∃ y, B[k] = y := ⟨_, rfl⟩
          rw [hy] at hv2 hsw
          have hpb : p + 1 ≤ 100000 := by omega
          have ht1 : ((p : Int) + 1).toNat = p + 1 := by omega
          generalize rowX Q B x T k = D at *
          have hwp := w64 (x := (p : Int)) (by omega) (by omega)
          have hwp1 := w64 (x := (p : Int) + 1) (by omega) (by omega)
          have hns : nth ((D.map ii).set p (ii y)) (p + 1) = ii y := by
            rw [← List.map_set, nth_map ii (by simpa using hi1), List.getElem_set_ne (by omega), hv2]
          have hzs : zoneEs (((D.map ii).set p (ii y)).set (p + 1) (ii x)) = true := by
            rw [← List.map_set, ← List.map_set]; exact zoneEs_map _ _ (fun _ => rfl)
          (repeat (first | refine awp_seq ?_ | refine awp_block ?_ | ((first | refine awp_runG [0, 1, 2, 3, 4, 10, 11, 12, 13, 14, 15, 16, 17, 18, 19, 20, 21, 22, 23, 24, 28, 33, 50, 58, 80, 85, 103, 110, 140, 151, 171, 185, 199, 213, 1000000, 1000001] hX ?_ | refine awp_drawnG [0, 1, 2, 3, 4, 10, 11, 12, 13, 14, 15, 16, 17, 18, 19, 20, 21, 22, 23, 24, 28, 33, 50, 58, 80, 85, 103, 110, 140, 151, 171, 185, 199, 213, 1000000, 1000001] hX mixed ?_ | refine awp_skip ?_ | refine awp_exit ?_); (simp [go_sem, hp', hwp, hwp1, hi1, hi2, hv1, hv2, ht1]; try (refine ⟨by kernel_rfl, ?_⟩)))))
          (repeat refine And.intro (by first | omega | (unfold maxLen; omega) | kernel_rfl | (refine ⟨by first | omega | (unfold maxLen; omega), by first | omega | (unfold maxLen; omega)⟩) | grind) ?_)
          (repeat (first | refine awp_seq ?_ | refine awp_block ?_ | ((first | refine awp_runG [0, 1, 2, 3, 4, 10, 11, 12, 13, 14, 15, 16, 17, 18, 19, 20, 21, 22, 23, 24, 28, 33, 50, 58, 80, 85, 103, 110, 140, 151, 171, 185, 199, 213, 1000000, 1000001] hX ?_ | refine awp_drawnG [0, 1, 2, 3, 4, 10, 11, 12, 13, 14, 15, 16, 17, 18, 19, 20, 21, 22, 23, 24, 28, 33, 50, 58, 80, 85, 103, 110, 140, 151, 171, 185, 199, 213, 1000000, 1000001] hX mixed ?_ | refine awp_skip ?_ | refine awp_exit ?_); (simp [go_sem, hp', hwp, hwp1, hi1, hi2, hv1, hv2, ht1]; (try simp (disch := omega) only [w64, td, tm]); try (refine ⟨by kernel_rfl, ?_⟩)))))
          refine ⟨k + 1, by omega, by omega, ?_⟩
          rw [← hsw]
          refine sub_of _ [.old 0 ⟨3, 1, ((D.set p y).set (p + 1) x).map ii⟩, .old 1 ⟨22, 1, [bsl R]⟩] (by simp [go_sem, hns, hzs]) ?_
          simp [go_sem]
          try omega
        · have : k = i := by simp at hd; omega
          subst this
          rw [hfin]
          (repeat (first | refine awp_seq ?_ | refine awp_block ?_ | ((first | refine awp_runG [0, 1, 2, 3, 4, 10, 11, 12, 13, 14, 15, 16, 17, 18, 19, 20, 21, 22, 23, 24, 28, 33, 50, 58, 80, 85, 103, 110, 140, 151, 171, 185, 199, 213, 1000000, 1000001] hX ?_ | refine awp_drawnG [0, 1, 2, 3, 4, 10, 11, 12, 13, 14, 15, 16, 17, 18, 19, 20, 21, 22, 23, 24, 28, 33, 50, 58, 80, 85, 103, 110, 140, 151, 171, 185, 199, 213, 1000000, 1000001] hX mixed ?_ | refine awp_skip ?_ | refine awp_exit ?_); (simp [go_sem]; try (refine ⟨by kernel_rfl, ?_⟩)))))
          refine awp_ret ?_; (try simp only [thenQ, blkQ, loopQ]); refine retH_ret [(1000000, .ow 0), (1000001, .ow 1)] [.old 0 ⟨3, 1, (r3 Q (srt (kf R) (x :: B)) T).map ii⟩, .old 1 ⟨22, 1, [bsl R]⟩] ?_
          simp [go_sem]
end Go.Proofs.YtjgkjenbgadacaaDoor.B

namespace Go.Proofs.YtjgkjenbgadacaaDoor.B
open Go.RowKit Go.Ab
attribute [local irreducible] AWP Go.Ab.Sub Means MeansH CallK CallG CallT CallGT CallU
set_option maxHeartbeats 4000000 in
set_option maxRecDepth 20000 in
theorem symB_m (Q A : List Int) (x : Int) (T : List Int) (R : List Bd) (hA0 : 1 < A.length) (hA : A.Pairwise (bef (kf R))) (hlt : ∀ y ∈ A, y < x) (hx : 0 ≤ x ∧ x < R.length) (hr : ∀ y ∈ A, 0 ≤ y ∧ y < R.length) (hb : Q.length + A.length + 1 + T.length ≤ 100000) (hR : R.length ≤ 100000) (hok : okR R) :
    MeansH Tryd.prog 75 (sH (r4 (Q, A, [x], T)) R) [.ow 0, ii Q.length, ii (Q.length + A.length : Nat), ii (Q.length + A.length + 1 : Nat), clo] (.tup []) (sH (r3 Q (srt (kf R) (A ++ [x])) T) R) := by
  obtain ⟨a, ha⟩ : ∃ a, Q.length = a := ⟨_, rfl⟩
  obtain ⟨m, hm⟩ : ∃ m, a + A.length = m := ⟨_, rfl⟩
  obtain ⟨b, hbe⟩ : ∃ b, m + 1 = b := ⟨_, rfl⟩
  rw [ha, hm, hbe]
  have hma : (m : Int) - a = A.length := by omega
  have hma2 : ¬ (A.length : Int) = 1 := by omega
  have hma3 : ¬ A.length = 1 := by omega
  have hbm : (b : Int) - m = 1 := by omega
  have hDl := r4_len Q A [x] T
  rw [List.length_singleton] at hDl
  refine meansH_fn 2 220 [] Tryd.func75 rfl rfl rfl (by simp) (by decide) rfl fun X hX => ?_
  (repeat (first | refine awp_seq ?_ | refine awp_block ?_ | ((first | refine awp_runG [0, 1, 2, 3, 4, 10, 11, 12, 13, 14, 15, 16, 17, 18, 19, 20, 21, 22, 23, 24, 28, 33, 50, 58, 80, 85, 103, 110, 140, 151, 171, 185, 199, 213, 1000000, 1000001] hX ?_ | refine awp_drawnG [0, 1, 2, 3, 4, 10, 11, 12, 13, 14, 15, 16, 17, 18, 19, 20, 21, 22, 23, 24, 28, 33, 50, 58, 80, 85, 103, 110, 140, 151, 171, 185, 199, 213, 1000000, 1000001] hX mixed ?_ | refine awp_skip ?_ | refine awp_exit ?_); (simp [go_sem, hma, hma2, hma3]; (try simp (disch := omega) only [w64, td, tm]); try (refine ⟨by kernel_rfl, ?_⟩)))))
  try (simp [go_sem, hma, hma2, hma3]; try (refine ⟨by kernel_rfl, ?_⟩))
  refine awp_cond (b := false) (by simp [go_sem, hma3]; try omega) (fun h => by cases h) (fun _ => ?_)
  (repeat (first | refine awp_seq ?_ | refine awp_block ?_ | ((first | refine awp_runG [0, 1, 2, 3, 4, 10, 11, 12, 13, 14, 15, 16, 17, 18, 19, 20, 21, 22, 23, 24, 28, 33, 50, 58, 80, 85, 103, 110, 140, 151, 171, 185, 199, 213, 1000000, 1000001] hX ?_ | refine awp_drawnG [0, 1, 2, 3, 4, 10, 11, 12, 13, 14, 15, 16, 17, 18, 19, 20, 21, 22, 23, 24, 28, 33, 50, 58, 80, 85, 103, 110, 140, 151, 171, 185, 199, 213, 1000000, 1000001] hX mixed ?_ | refine awp_skip ?_ | refine awp_exit ?_); (simp [go_sem, hbm]; (try simp (disch := omega) only [w64, td, tm]); try (refine ⟨by kernel_rfl, ?_⟩)))))
  try (simp [go_sem, hbm]; try (refine ⟨by kernel_rfl, ?_⟩))
  refine awp_cond (b := true) (by simp [go_sem]) (fun _ => ?_) (fun h => by cases h)
  (repeat (first | refine awp_seq ?_ | refine awp_block ?_ | ((first | refine awp_runG [0, 1, 2, 3, 4, 10, 11, 12, 13, 14, 15, 16, 17, 18, 19, 20, 21, 22, 23, 24, 28, 33, 50, 58, 80, 85, 103, 110, 140, 151, 171, 185, 199, 213, 1000000, 1000001] hX ?_ | refine awp_drawnG [0, 1, 2, 3, 4, 10, 11, 12, 13, 14, 15, 16, 17, 18, 19, 20, 21, 22, 23, 24, 28, 33, 50, 58, 80, 85, 103, 110, 140, 151, 171, 185, 199, 213, 1000000, 1000001] hX mixed ?_ | refine awp_skip ?_ | refine awp_exit ?_); (simp [go_sem]; try (refine ⟨by kernel_rfl, ?_⟩)))))
  refine awp_loop (fun z : Nat × Nat => ⟨mkE [(0, .ow 0), (1, ii a), (2, ii m), (3, ii b), (4, clo), (14, ii (a + z.1 : Nat)), (15, ii (a + z.2 : Nat)), (1000000, .ow 0), (1000001, .ow 1)], sH (r4 (Q, A, [x], T)) R⟩)
    (fun z => z.1 ≤ z.2 ∧ z.2 ≤ A.length ∧ (∀ e ∈ A.take z.1, bef (kf R) e x) ∧ (∀ e ∈ A.drop z.2, bef (kf R) x e)) (fun z => z.2 - z.1) (0, A.length) ?_ ?_ ?_
  · simp only [hm, Nat.add_zero]
    refine sub_of _ [.old 0 ⟨3, 1, (r4 (Q, A, [x], T)).map ii⟩, .old 1 ⟨22, 1, [bsl R]⟩] (by simp [go_sem]) ?_
    simp [go_sem]
  · exact ⟨by simp, by simp, by simp, by simp⟩
  · rintro ⟨i, j⟩ ⟨h1, h2, h3, h4⟩
    simp only [] at h1 h2 h3 h4
    (repeat (first | refine awp_seq ?_ | refine awp_block ?_ | ((first | refine awp_runG [0, 1, 2, 3, 4, 10, 11, 12, 13, 14, 15, 16, 17, 18, 19, 20, 21, 22, 23, 24, 28, 33, 50, 58, 80, 85, 103, 110, 140, 151, 171, 185, 199, 213, 1000000, 1000001] hX ?_ | refine awp_drawnG [0, 1, 2, 3, 4, 10, 11, 12, 13, 14, 15, 16, 17, 18, 19, 20, 21, 22, 23, 24, 28, 33, 50, 58, 80, 85, 103, 110, 140, 151, 171, 185, 199, 213, 1000000, 1000001] hX mixed ?_ | refine awp_skip ?_ | refine awp_exit ?_); (simp [go_sem]; try (refine ⟨by kernel_rfl, ?_⟩)))))
    refine awp_cond (b := decide (i < j)) (by simp [go_sem]; try omega) (fun hc => ?_) (fun hc => ?_)
    · simp at hc
      obtain ⟨h, hh⟩ : ∃ h, (i + j) / 2 = h := ⟨_, rfl⟩
      obtain ⟨P, hPe⟩ : ∃ P, a + h = P := ⟨_, rfl⟩
      have hhA : h < A.length := by omega
      have hwE := w64 (x := (a : Int) + i + (a + j)) (by omega) (by omega)
      have hP : IntKind.i64.wrap ((IntKind.u64.wrap ((a : Int) + i + (a + j))).fdiv 2) = (P : Int) := by
        have := mid_eq (a + i) (a + j) (by omega)
        simp only [Int.natCast_add] at this
        rw [this]; omega
      have hPl : P < (r4 (Q, A, [x], T)).length := by omega
      have hml : m < (r4 (Q, A, [x], T)).length := by omega
      have hPv : (r4 (Q, A, [x], T))[P] = A[h] := by
        have := r4_A (Q := Q) (B := [x]) (T := T) hhA (by omega)
        rw [← this]; congr 1; omega
      have hmv : (r4 (Q, A, [x], T))[m] = x := by
        have := r4_B (Q := Q) (A := A) (B := [x]) (T := T) (i := 0) (by simp) (by omega)
        simp only [List.getElem_cons_zero] at this
        refine Eq.trans ?_ this; congr 1; omega
      have hyr := hr A[h] (List.getElem_mem hhA)
      have hxy := hlt A[h] (List.getElem_mem hhA)
      have hcm := clo_m R hok x A[h] hx hyr
      have hneg := cmp_neg R x A[h]
      have t1 := fun q => take_bef (x := x) hA hhA q
      have t2 := fun q => drop_bef (x := x) hA hhA q
      have hbef : bef (kf R) x A[h] ↔ cmpC R x A[h] < 0 := by rw [hneg]; unfold bef; omega
      have hbef2 : ¬ bef (kf R) x A[h] → bef (kf R) A[h] x := fun q => (bef_total (by omega)).resolve_left q
      obtain ⟨y, hy⟩ : ∃ y, A[h] = y := ⟨_, rfl⟩
      rw [hy] at hPv hcm hbef hbef2 t1 t2
      generalize r4 (Q, A, [x], T) = D at *
      (repeat (first | refine awp_seq ?_ | refine awp_block ?_ | ((first | refine awp_runG [0, 1, 2, 3, 4, 10, 11, 12, 13, 14, 15, 16, 17, 18, 19, 20, 21, 22, 23, 24, 28, 33, 50, 58, 80, 85, 103, 110, 140, 151, 171, 185, 199, 213, 1000000, 1000001] hX ?_ | refine awp_drawnG [0, 1, 2, 3, 4, 10, 11, 12, 13, 14, 15, 16, 17, 18, 19, 20, 21, 22, 23, 24, 28, 33, 50, 58, 80, 85, 103, 110, 140, 151, 171, 185, 199, 213, 1000000, 1000001] hX mixed ?_ | refine awp_skip ?_ | refine awp_exit ?_); (simp [go_sem, hwE, hP, hPl, hml, hPv, hmv]; try (refine ⟨by kernel_rfl, ?_⟩)))))
      (repeat refine And.intro (by first | omega | (unfold maxLen; omega) | kernel_rfl | (refine ⟨by first | omega | (unfold maxLen; omega), by first | omega | (unfold maxLen; omega)⟩) | grind) ?_)
      try (simp [go_sem, hwE, hP, hPl, hml, hPv, hmv]; try (refine ⟨by kernel_rfl, ?_⟩))
      first | refine callH_intro [1] (hcm) (by simp [go_sem]) ?_ | refine callTQ_intro [1] (hcm) (by simp [go_sem]) ?_ | refine callTE_intro [1] (hcm) (by simp [go_sem]) ?_
      try (simp [go_sem, hwE, hP, hPl, hml, hPv, hmv]; try (refine ⟨by kernel_rfl, ?_⟩))
      refine awp_cond (b := !decide (cmpC R x y < 0)) (by simp [go_sem]; try omega) (fun hd => ?_) (fun hd => ?_)
      · have hd : ¬ cmpC R x y < 0 := by simpa using hd
        (repeat (first | refine awp_seq ?_ | refine awp_block ?_ | ((first | refine awp_runG [0, 1, 2, 3, 4, 10, 11, 12, 13, 14, 15, 16, 17, 18, 19, 20, 21, 22, 23, 24, 28, 33, 50, 58, 80, 85, 103, 110, 140, 151, 171, 185, 199, 213, 1000000, 1000001] hX ?_ | refine awp_drawnG [0, 1, 2, 3, 4, 10, 11, 12, 13, 14, 15, 16, 17, 18, 19, 20, 21, 22, 23, 24, 28, 33, 50, 58, 80, 85, 103, 110, 140, 151, 171, 185, 199, 213, 1000000, 1000001] hX mixed ?_ | refine awp_skip ?_ | refine awp_exit ?_); (simp [go_sem]; (try simp (disch := omega) only [w64, td, tm]); try (refine ⟨by kernel_rfl, ?_⟩)))))
        refine ⟨h + 1, j, ⟨by omega, h2, t1 (hbef2 fun q => hd (hbef.1 q)), h4⟩, by omega, ?_⟩
        refine sub_of _ [.old 0 ⟨3, 1, D.map ii⟩, .old 1 ⟨22, 1, [bsl R]⟩] (by simp [go_sem]) ?_
        simp [go_sem]
        try omega
      · have hd : cmpC R x y < 0 := by simpa using hd
        (repeat (first | refine awp_seq ?_ | refine awp_block ?_ | ((first | refine awp_runG [0, 1, 2, 3, 4, 10, 11, 12, 13, 14, 15, 16, 17, 18, 19, 20, 21, 22, 23, 24, 28, 33, 50, 58, 80, 85, 103, 110, 140, 151, 171, 185, 199, 213, 1000000, 1000001] hX ?_ | refine awp_drawnG [0, 1, 2, 3, 4, 10, 11, 12, 13, 14, 15, 16, 17, 18, 19, 20, 21, 22, 23, 24, 28, 33, 50, 58, 80, 85, 103, 110, 140, 151, 171, 185, 199, 213, 1000000, 1000001] hX mixed ?_ | refine awp_skip ?_ | refine awp_exit ?_); (simp [go_sem]; (try simp (disch := omega) only [w64, td, tm]); try (refine ⟨by kernel_rfl, ?_⟩)))))
        refine ⟨i, h, ⟨by omega, by omega, h3, t2 (hbef.2 hd)⟩, by omega, ?_⟩
        refine sub_of _ [.old 0 ⟨3, 1, D.map ii⟩, .old 1 ⟨22, 1, [bsl R]⟩] (by simp [go_sem]) ?_
        simp [go_sem]
        try omega
    · have hij : i = j := by simp at hc; omega
      subst hij
      have hfin := rowX_srt' (pre := Q) (x := x) (post := T) (l := A ++ [x]) (List.perm_append_singleton x A).symm hA h3 h4
      rw [r4_last] at *
      (repeat (first | refine awp_seq ?_ | refine awp_block ?_ | ((first | refine awp_runG [0, 1, 2, 3, 4, 10, 11, 12, 13, 14, 15, 16, 17, 18, 19, 20, 21, 22, 23, 24, 28, 33, 50, 58, 80, 85, 103, 110, 140, 151, 171, 185, 199, 213, 1000000, 1000001] hX ?_ | refine awp_drawnG [0, 1, 2, 3, 4, 10, 11, 12, 13, 14, 15, 16, 17, 18, 19, 20, 21, 22, 23, 24, 28, 33, 50, 58, 80, 85, 103, 110, 140, 151, 171, 185, 199, 213, 1000000, 1000001] hX mixed ?_ | refine awp_skip ?_ | refine awp_exit ?_); (simp [go_sem]; try (refine ⟨by kernel_rfl, ?_⟩)))))
      refine awp_loop (fun k : Nat => ⟨mkE [(0, .ow 0), (14, ii (a + i : Nat)), (17, ii (a + k : Nat)), (1000000, .ow 0), (1000001, .ow 1)], sH (rowX Q A x T k) R⟩) (fun k => i ≤ k ∧ k ≤ A.length) (fun k => k) A.length ?_ ?_ ?_
      · rw [hm]
        refine sub_of _ [.old 0 ⟨3, 1, (rowX Q A x T A.length).map ii⟩, .old 1 ⟨22, 1, [bsl R]⟩] (by simp [go_sem]) ?_
        simp [go_sem]
      · exact ⟨h2, Nat.le_refl _⟩
      · rintro k ⟨hik, hk⟩
        (repeat (first | refine awp_seq ?_ | refine awp_block ?_ | ((first | refine awp_runG [0, 1, 2, 3, 4, 10, 11, 12, 13, 14, 15, 16, 17, 18, 19, 20, 21, 22, 23, 24, 28, 33, 50, 58, 80, 85, 103, 110, 140, 151, 171, 185, 199, 213, 1000000, 1000001] hX ?_ | refine awp_drawnG [0, 1, 2, 3, 4, 10, 11, 12, 13, 14, 15, 16, 17, 18, 19, 20, 21, 22, 23, 24, 28, 33, 50, 58, 80, 85, 103, 110, 140, 151, 171, 185, 199, 213, 1000000, 1000001] hX mixed ?_ | refine awp_skip ?_ | refine awp_exit ?_); (simp [go_sem]; try (refine ⟨by kernel_rfl, ?_⟩)))))
        refine awp_cond (b := decide (i < k)) (by simp [go_sem]; try omega) (fun hd => ?_) (fun hd => ?_)
        · simp at hd
          obtain ⟨c, hc⟩ : ∃ c, k = c + 1 := ⟨k - 1, by omega⟩
          subst hc
          have hkA : c < A.length := by omega
          have hlen := rowX_len (pre := Q) (x := x) (post := T) (s := A) (k := c + 1) (by omega)
          obtain ⟨p, hp⟩ : ∃ p, a + c = p := ⟨_, rfl⟩
          have hp1 : a + (c + 1) = p + 1 := by omega
          have hp' : (a : Int) + (c + 1) = p + 1 := by omega
          have hi1 : p + 1 < (rowX Q A x T (c + 1)).length := by omega
          have hi2 : p < (rowX Q A x T (c + 1)).length := by omega
          have hv1 : (rowX Q A x T (c + 1))[p + 1] = x := by
            have := rowX_at (pre := Q) (s := A) (x := x) (post := T) (k := c + 1) (by omega) (by omega)
            refine Eq.trans ?_ this; congr 1; omega
          have hv2 : (rowX Q A x T (c + 1))[p] = A[c] := by
            have := rowX_prev (pre := Q) (s := A) (x := x) (post := T) (k := c) hkA (by omega)
            refine Eq.trans ?_ this; congr 1; omega
          have hsw := rowX_swap (pre := Q) (x := x) (post := T) hkA
          rw [show Q.length + c = p by omega, show Q.length + (c + 1) = p + 1 by omega] at hsw
          obtain ⟨y, hy⟩ : ∃ y, A[c] = y := ⟨_, rfl⟩
          rw [hy] at hv2 hsw
          have hpb : p + 1 ≤ 100000 := by omega
          have ht1 : ((p : Int) + 1).toNat = p + 1 := by omega
          generalize rowX Q A x T (c + 1) = D at *
          have hwp := w64 (x := (p : Int)) (by omega) (by omega)
          have hwp1 := w64 (x := (p : Int) + 1) (by omega) (by omega)
          have hns : nth ((D.map ii).set (p + 1) (ii y)) p = ii y := by
            rw [← List.map_set, nth_map ii (by simpa using hi2), List.getElem_set_ne (by omega), hv2]
          have hzs : zoneEs (((D.map ii).set (p + 1) (ii y)).set p (ii x)) = true := by
            rw [← List.map_set, ← List.map_set]; exact zoneEs_map _ _ (fun _ => rfl)
          (repeat (first | refine awp_seq ?_ | refine awp_block ?_ | ((first | refine awp_runG [0, 1, 2, 3, 4, 10, 11, 12, 13, 14, 15, 16, 17, 18, 19, 20, 21, 22, 23, 24, 28, 33, 50, 58, 80, 85, 103, 110, 140, 151, 171, 185, 199, 213, 1000000, 1000001] hX ?_ | refine awp_drawnG [0, 1, 2, 3, 4, 10, 11, 12, 13, 14, 15, 16, 17, 18, 19, 20, 21, 22, 23, 24, 28, 33, 50, 58, 80, 85, 103, 110, 140, 151, 171, 185, 199, 213, 1000000, 1000001] hX mixed ?_ | refine awp_skip ?_ | refine awp_exit ?_); (simp [go_sem, hp', hwp, hwp1, hi1, hi2, hv1, hv2, ht1]; try (refine ⟨by kernel_rfl, ?_⟩)))))
          (repeat refine And.intro (by first | omega | (unfold maxLen; omega) | kernel_rfl | (refine ⟨by first | omega | (unfold maxLen; omega), by first | omega | (unfold maxLen; omega)⟩) | grind) ?_)
          (repeat (first | refine awp_seq ?_ | refine awp_block ?_ | ((first | refine awp_runG [0, 1, 2, 3, 4, 10, 11, 12, 13, 14, 15, 16, 17, 18, 19, 20, 21, 22, 23, 24, 28, 33, 50, 58, 80, 85, 103, 110, 140, 151, 171, 185, 199, 213, 1000000, 1000001] hX ?_ | refine awp_drawnG [0, 1, 2, 3, 4, 10, 11, 12, 13, 14, 15, 16, 17, 18, 19, 20, 21, 22, 23, 24, 28, 33, 50, 58, 80, 85, 103, 110, 140, 151, 171, 185, 199, 213, 1000000, 1000001] hX mixed ?_ | refine awp_skip ?_ | refine awp_exit ?_); (simp [go_sem, hp', hwp, hwp1, hi1, hi2, hv1, hv2, ht1]; (try simp (disch := omega) only [w64, td, tm]); try (refine ⟨by kernel_rfl, ?_⟩)))))
          refine ⟨c, ⟨by omega, by omega⟩, by omega, ?_⟩
          rw [← hsw]
          refine sub_of _ [.old 0 ⟨3, 1, ((D.set (p + 1) y).set p x).map ii⟩, .old 1 ⟨22, 1, [bsl R]⟩] (by simp [go_sem, hns, hzs]) ?_
          simp [go_sem]
          try omega
        · have : k = i := by simp at hd; omega
          subst this
          rw [hfin]
          (repeat (first | refine awp_seq ?_ | refine awp_block ?_ | ((first | refine awp_runG [0, 1, 2, 3, 4, 10, 11, 12, 13, 14, 15, 16, 17, 18, 19, 20, 21, 22, 23, 24, 28, 33, 50, 58, 80, 85, 103, 110, 140, 151, 171, 185, 199, 213, 1000000, 1000001] hX ?_ | refine awp_drawnG [0, 1, 2, 3, 4, 10, 11, 12, 13, 14, 15, 16, 17, 18, 19, 20, 21, 22, 23, 24, 28, 33, 50, 58, 80, 85, 103, 110, 140, 151, 171, 185, 199, 213, 1000000, 1000001] hX mixed ?_ | refine awp_skip ?_ | refine awp_exit ?_); (simp [go_sem]; try (refine ⟨by kernel_rfl, ?_⟩)))))
          refine awp_ret ?_; (try simp only [thenQ, blkQ, loopQ]); refine retH_ret [(1000000, .ow 0), (1000001, .ow 1)] [.old 0 ⟨3, 1, (r3 Q (srt (kf R) (A ++ [x])) T).map ii⟩, .old 1 ⟨22, 1, [bsl R]⟩] ?_
          simp [go_sem]
end Go.Proofs.YtjgkjenbgadacaaDoor.B

