/-
  Sorting places: parts are swapped and rotated.
-/
import Derived.Test.YtjgkjenbgadacaaDoorSortBidC
import Derived.Test.YtjgkjenbgadacaaDoorSymP
set_option linter.all false
namespace Go.Proofs.YtjgkjenbgadacaaDoor.B
open Go.RowKit Go.Ab
attribute [local irreducible] AWP Go.Ab.Sub Means MeansH CallK CallG CallT CallGT CallU

set_option maxHeartbeats 4000000 in
set_option maxRecDepth 20000 in
theorem swapR_m (Q U M V T : List Int) (R : List Bd) (hUV : U.length = V.length) (hb : Q.length + U.length + M.length + V.length + T.length ≤ 100000) (hR : R.length ≤ 100000) :
    MeansH Tryd.prog 84 (sH (r5 Q U M V T) R) [.ow 0, ii Q.length, ii (Q.length + U.length + M.length : Nat), ii U.length, clo] (.tup []) (sH (r5 Q V M U T) R) := by
  obtain ⟨a, ha⟩ : ∃ a, Q.length = a := ⟨_, rfl⟩
  obtain ⟨b, hbe⟩ : ∃ b, Q.length + U.length + M.length = b := ⟨_, rfl⟩
  obtain ⟨n, hn⟩ : ∃ n, U.length = n := ⟨_, rfl⟩
  rw [hbe, ha, hn]
  refine meansH_fn 2 38 [] Tryd.func84 rfl rfl rfl (by simp) (by decide) rfl fun X hX => ?_
  (repeat (first | refine awp_seq ?_ | refine awp_block ?_ | ((first | refine awp_runG [0, 1, 2, 3, 10, 13, 1000000, 1000001] hX ?_ | refine awp_drawnG [0, 1, 2, 3, 10, 13, 1000000, 1000001] hX mixed ?_ | refine awp_skip ?_ | refine awp_exit ?_); (simp [go_sem]; (try simp (disch := omega) only [w64, td, tm]); try (refine ⟨by kernel_rfl, ?_⟩)))))
  refine awp_loop (fun i : Nat => ⟨mkE [(0, .ow 0), (1, ii a), (2, ii b), (3, ii n), (10, ii i), (1000000, .ow 0), (1000001, .ow 1)], sH (r5 Q (sw U V i) M (sw V U i) T) R⟩) (fun i => i ≤ n) (fun i => n - i) 0 ?_ ?_ ?_
  · rw [sw_zero, sw_zero]
    refine sub_of _ [.old 0 ⟨3, 1, (r5 Q U M V T).map ii⟩, .old 1 ⟨22, 1, [bsl R]⟩] (by simp [go_sem]) ?_
    simp [go_sem]
  · omega
  · intro i hi
    (repeat (first | refine awp_seq ?_ | refine awp_block ?_ | ((first | refine awp_runG [0, 1, 2, 3, 10, 13, 1000000, 1000001] hX ?_ | refine awp_drawnG [0, 1, 2, 3, 10, 13, 1000000, 1000001] hX mixed ?_ | refine awp_skip ?_ | refine awp_exit ?_); (simp [go_sem]; try (refine ⟨by kernel_rfl, ?_⟩)))))
    refine awp_cond (b := decide (i < n)) (by simp [go_sem]) (fun hc => ?_) (fun hc => ?_)
    · simp at hc
      have hU : i < U.length := by omega
      have hV : i < V.length := by omega
      have l1 := sw_len hUV i
      have l2 := sw_len hUV.symm i
      have hDl := r5_len Q (sw U V i) M (sw V U i) T
      obtain ⟨p, hp⟩ : ∃ p, a + i = p := ⟨_, rfl⟩
      obtain ⟨q, hq⟩ : ∃ q, b + i = q := ⟨_, rfl⟩
      have hp' : (a : Int) + i = p := by omega
      have hq' : (b : Int) + i = q := by omega
      have hpl : p < (r5 Q (sw U V i) M (sw V U i) T).length := by omega
      have hql : q < (r5 Q (sw U V i) M (sw V U i) T).length := by omega
      have hpv : (r5 Q (sw U V i) M (sw V U i) T)[p] = U[i] := by
        have := r5_X (Q := Q) (X := sw U V i) (M := M) (Y := sw V U i) (T := T) (i := i) (by omega) (by omega)
        rw [sw_at hUV hU] at this
        rw [← this]; congr 1; omega
      have hqv : (r5 Q (sw U V i) M (sw V U i) T)[q] = V[i] := by
        have := r5_Y (Q := Q) (X := sw U V i) (M := M) (Y := sw V U i) (T := T) (i := i) (by omega) (by omega)
        rw [sw_at hUV.symm hV] at this
        rw [← this]; congr 1; omega
      have hsw : ((r5 Q (sw U V i) M (sw V U i) T).set p V[i]).set q U[i] = r5 Q (sw U V (i + 1)) M (sw V U (i + 1)) T := by
        have e1 : p = Q.length + i := by omega
        have e2 : q = Q.length + (sw U V (i + 1)).length + M.length + i := by rw [sw_len hUV]; omega
        rw [e1, r5_setX _ (by omega), sw_set hUV hU hV, e2, r5_setY _ (by omega), sw_set hUV.symm hV hU]
      have hpq : p ≠ q := by omega
      have hpb : q ≤ 100000 := by omega
      have hpb2 : p ≤ 100000 := by omega
      obtain ⟨x, hx⟩ : ∃ x, U[i] = x := ⟨_, rfl⟩
      obtain ⟨y, hy⟩ : ∃ y, V[i] = y := ⟨_, rfl⟩
      rw [hx] at hpv hsw
      rw [hy] at hqv hsw
      generalize r5 Q (sw U V i) M (sw V U i) T = D at *
      have hwp := w64 (x := (p : Int)) (by omega) (by omega)
      have hwq := w64 (x := (q : Int)) (by omega) (by omega)
      have hwi := w64 (x := (i : Int) + 1) (by omega) (by omega)
      have hns : nth ((D.map ii).set p (ii y)) q = ii y := by
        rw [← List.map_set, nth_map ii (by simpa using hql), List.getElem_set_ne (by omega), hqv]
      have hzs : zoneEs (((D.map ii).set p (ii y)).set q (ii x)) = true := by
        rw [← List.map_set, ← List.map_set]; exact zoneEs_map _ _ (fun _ => rfl)
      (repeat (first | refine awp_seq ?_ | refine awp_block ?_ | ((first | refine awp_runG [0, 1, 2, 3, 10, 13, 1000000, 1000001] hX ?_ | refine awp_drawnG [0, 1, 2, 3, 10, 13, 1000000, 1000001] hX mixed ?_ | refine awp_skip ?_ | refine awp_exit ?_); (simp [go_sem, hp', hq', hwp, hwq, hpl, hql, hpv, hqv]; try (refine ⟨by kernel_rfl, ?_⟩)))))
      (repeat refine And.intro (by first | omega | (unfold maxLen; omega) | kernel_rfl | (refine ⟨by first | omega | (unfold maxLen; omega), by first | omega | (unfold maxLen; omega)⟩) | grind) ?_)
      (repeat (first | refine awp_seq ?_ | refine awp_block ?_ | ((first | refine awp_runG [0, 1, 2, 3, 10, 13, 1000000, 1000001] hX ?_ | refine awp_drawnG [0, 1, 2, 3, 10, 13, 1000000, 1000001] hX mixed ?_ | refine awp_skip ?_ | refine awp_exit ?_); (simp [go_sem, hwi, hp', hq', hwp, hwq, hpl, hql, hpv, hqv]; (try simp (disch := omega) only [w64, td, tm]); try (refine ⟨by kernel_rfl, ?_⟩)))))
      refine ⟨i + 1, by omega, by omega, ?_⟩
      rw [← hsw]
      refine sub_of _ [.old 0 ⟨3, 1, ((D.set p y).set q x).map ii⟩, .old 1 ⟨22, 1, [bsl R]⟩] (by simp [go_sem, hns, hzs]) ?_
      simp [go_sem]
      try omega
    · simp at hc
      rw [sw_full hUV (by omega), sw_full hUV.symm (by omega)]
      (repeat (first | refine awp_seq ?_ | refine awp_block ?_ | ((first | refine awp_runG [0, 1, 2, 3, 10, 13, 1000000, 1000001] hX ?_ | refine awp_drawnG [0, 1, 2, 3, 10, 13, 1000000, 1000001] hX mixed ?_ | refine awp_skip ?_ | refine awp_exit ?_); (simp [go_sem]; try (refine ⟨by kernel_rfl, ?_⟩)))))
      (try refine awp_ret ?_); (try simp only [thenQ, blkQ, loopQ]); refine retH_normal [(1000000, .ow 0), (1000001, .ow 1)] [.old 0 ⟨3, 1, (r5 Q V M U T).map ii⟩, .old 1 ⟨22, 1, [bsl R]⟩] ?_
      simp [go_sem]

set_option maxHeartbeats 4000000 in
set_option maxRecDepth 20000 in
theorem rot_m (Q E F T : List Int) (R : List Bd) (hE : 0 < E.length) (hF : 0 < F.length) (hb : Q.length + E.length + F.length + T.length ≤ 100000) (hR : R.length ≤ 100000) :
    MeansH Tryd.prog 82 (sH (r4 (Q, E, F, T)) R) [.ow 0, ii Q.length, ii (Q.length + E.length : Nat), ii (Q.length + E.length + F.length : Nat), clo] (.tup []) (sH (r4 (Q, F, E, T)) R) := by
  obtain ⟨m, hm⟩ : ∃ m, Q.length + E.length = m := ⟨_, rfl⟩
  obtain ⟨b, hbe⟩ : ∃ b, m + F.length = b := ⟨_, rfl⟩
  obtain ⟨a, ha⟩ : ∃ a, Q.length = a := ⟨_, rfl⟩
  rw [hm, hbe, ha]
  have hi0 : (m : Int) - a = E.length := by omega
  have hj0 : (b : Int) - m = F.length := by omega
  refine meansH_fn 2 58 [] Tryd.func82 rfl rfl rfl (by simp) (by decide) rfl fun X hX => ?_
  (repeat (first | refine awp_seq ?_ | refine awp_block ?_ | ((first | refine awp_runG [0, 1, 2, 3, 4, 10, 11, 20, 23, 1000000, 1000001] hX ?_ | refine awp_drawnG [0, 1, 2, 3, 4, 10, 11, 20, 23, 1000000, 1000001] hX mixed ?_ | refine awp_skip ?_ | refine awp_exit ?_); (simp [go_sem, hi0, hj0]; (try simp (disch := omega) only [w64, td, tm]); try (refine ⟨by kernel_rfl, ?_⟩)))))
  try (simp [go_sem, hi0, hj0]; try (refine ⟨by kernel_rfl, ?_⟩))
  refine awp_loop (fun x : List Int × List Int × List Int × List Int => ⟨mkE [(0, .ow 0), (2, ii m), (4, clo), (10, ii x.2.1.length), (11, ii x.2.2.1.length), (1000000, .ow 0), (1000001, .ow 1)], sH (r4 x) R⟩)
    (fun x => r4 (x.1, x.2.2.1, x.2.1, x.2.2.2) = r4 (Q, F, E, T) ∧ x.1.length + x.2.1.length = m ∧ 0 < x.2.1.length ∧ 0 < x.2.2.1.length ∧ x.1.length + x.2.1.length + x.2.2.1.length + x.2.2.2.length ≤ 100000) (fun x => x.2.1.length + x.2.2.1.length) (Q, E, F, T) ?_ ?_ ?_
  · refine sub_of _ [.old 0 ⟨3, 1, (r4 (Q, E, F, T)).map ii⟩, .old 1 ⟨22, 1, [bsl R]⟩] (by simp [go_sem]) ?_
    simp [go_sem]
  · exact ⟨rfl, hm, hE, hF, hb⟩
  · rintro ⟨P, U, V, S⟩ ⟨h1, h2, h3, h4, h5⟩
    simp only [] at h1 h2 h3 h4 h5
    have hmu : (m : Int) - U.length = P.length := by omega
    have hwp := w64 (x := (P.length : Int)) (by omega) (by omega)
    (repeat (first | refine awp_seq ?_ | refine awp_block ?_ | ((first | refine awp_runG [0, 1, 2, 3, 4, 10, 11, 20, 23, 1000000, 1000001] hX ?_ | refine awp_drawnG [0, 1, 2, 3, 4, 10, 11, 20, 23, 1000000, 1000001] hX mixed ?_ | refine awp_skip ?_ | refine awp_exit ?_); (simp [go_sem]; try (refine ⟨by kernel_rfl, ?_⟩)))))
    refine awp_cond (b := decide (U.length ≠ V.length)) (by simp [go_sem]; try omega) (fun hc => ?_) (fun hc => ?_)
    · simp only [decide_eq_true_eq] at hc
      (repeat (first | refine awp_seq ?_ | refine awp_block ?_ | ((first | refine awp_runG [0, 1, 2, 3, 4, 10, 11, 20, 23, 1000000, 1000001] hX ?_ | refine awp_drawnG [0, 1, 2, 3, 4, 10, 11, 20, 23, 1000000, 1000001] hX mixed ?_ | refine awp_skip ?_ | refine awp_exit ?_); (simp [go_sem]; try (refine ⟨by kernel_rfl, ?_⟩)))))
      refine awp_cond (b := decide (V.length < U.length)) (by simp [go_sem]; try omega) (fun hd => ?_) (fun hd => ?_)
      · simp only [decide_eq_true_eq] at hd
        have l1 : (U.take V.length).length = V.length := by simp; omega
        have l2 : (U.drop V.length).length = U.length - V.length := by simp
        have e1 : r4 (P, U, V, S) = r5 P (U.take V.length) (U.drop V.length) V S := by simp [r4, r5]
        have e2 : r5 P V (U.drop V.length) (U.take V.length) S = r4 (P ++ V, U.drop V.length, U.take V.length, S) := by simp [r4, r5]
        have hs := swapR_m P (U.take V.length) (U.drop V.length) V S R l1 (by omega) hR
        rw [e2, ← e1, l1, show P.length + V.length + (U.drop V.length).length = m by omega] at hs
        have hwj : IntKind.i64.wrap ((U.length : Int) - V.length) = ((U.drop V.length).length : Int) := by rw [w64 (by omega) (by omega)]; omega
        have h1' : r4 (P ++ V, U.take V.length, U.drop V.length, S) = r4 (Q, F, E, T) := by rw [← h1]; simp [r4]
        generalize U.drop V.length = U2 at *
        generalize hU1 : U.take V.length = U1 at *
        (repeat (first | refine awp_seq ?_ | refine awp_block ?_ | ((first | refine awp_runG [0, 1, 2, 3, 4, 10, 11, 20, 23, 1000000, 1000001] hX ?_ | refine awp_drawnG [0, 1, 2, 3, 4, 10, 11, 20, 23, 1000000, 1000001] hX mixed ?_ | refine awp_skip ?_ | refine awp_exit ?_); (simp [go_sem, hmu, hwp]; try (refine ⟨by kernel_rfl, ?_⟩)))))
        first | refine callH_intro [0, 1] (hs) (by simp [go_sem]) ?_ | refine callTQ_intro [0, 1] (hs) (by simp [go_sem]) ?_ | refine callTE_intro [0, 1] (hs) (by simp [go_sem]) ?_
        try (simp [go_sem, hwj]; try (refine ⟨by kernel_rfl, ?_⟩))
        (repeat (first | refine awp_seq ?_ | refine awp_block ?_ | ((first | refine awp_runG [0, 1, 2, 3, 4, 10, 11, 20, 23, 1000000, 1000001] hX ?_ | refine awp_drawnG [0, 1, 2, 3, 4, 10, 11, 20, 23, 1000000, 1000001] hX mixed ?_ | refine awp_skip ?_ | refine awp_exit ?_); (simp [go_sem, hwj]; try (refine ⟨by kernel_rfl, ?_⟩)))))
        refine ⟨P ++ V, U2, U1, S, ⟨h1', by simp; omega, by omega, by omega, by simp; omega⟩, by first | omega | (simp only []; omega), ?_⟩
        refine sub_of _ [.old 0 ⟨3, 1, (r4 (P ++ V, U2, U1, S)).map ii⟩, .old 1 ⟨22, 1, [bsl R]⟩] (by simp [go_sem]) ?_
        simp [go_sem, l1]
      · simp only [decide_eq_false_iff_not] at hd
        obtain ⟨k, hk⟩ : ∃ k, V.length - U.length = k := ⟨_, rfl⟩
        have l1 : (V.take k).length = k := by simp; omega
        have l2 : (V.drop k).length = U.length := by simp; omega
        have e1 : r4 (P, U, V, S) = r5 P U (V.take k) (V.drop k) S := by simp [r4, r5]
        have e2 : r5 P (V.drop k) (V.take k) U S = r4 (P, V.drop k, V.take k, U ++ S) := by simp [r4, r5]
        have hs := swapR_m P U (V.take k) (V.drop k) S R l2.symm (by omega) hR
        rw [e2, ← e1, l1] at hs
        have hw1 : IntKind.i64.wrap (IntKind.i64.wrap ((m : Int) + V.length) - U.length) = ((P.length + U.length + k : Nat) : Int) := by rw [w64 (x := (m : Int) + V.length) (by omega) (by omega), w64 (by omega) (by omega)]; omega
        have hwj : IntKind.i64.wrap ((V.length : Int) - U.length) = ((V.take k).length : Int) := by rw [w64 (by omega) (by omega)]; omega
        have h1' : r4 (P, V.take k, V.drop k, U ++ S) = r4 (Q, F, E, T) := by rw [← h1]; simp [r4]
        generalize V.drop k = V2 at *
        generalize V.take k = V1 at *
        obtain ⟨w, hw⟩ : ∃ w, P.length + U.length + k = w := ⟨_, rfl⟩
        rw [hw] at hs hw1
        (repeat (first | refine awp_seq ?_ | refine awp_block ?_ | ((first | refine awp_runG [0, 1, 2, 3, 4, 10, 11, 20, 23, 1000000, 1000001] hX ?_ | refine awp_drawnG [0, 1, 2, 3, 4, 10, 11, 20, 23, 1000000, 1000001] hX mixed ?_ | refine awp_skip ?_ | refine awp_exit ?_); (simp [go_sem, hmu, hwp, hw1]; try (refine ⟨by kernel_rfl, ?_⟩)))))
        first | refine callH_intro [0, 1] (hs) (by simp [go_sem]) ?_ | refine callTQ_intro [0, 1] (hs) (by simp [go_sem]) ?_ | refine callTE_intro [0, 1] (hs) (by simp [go_sem]) ?_
        try (simp [go_sem, hwj]; try (refine ⟨by kernel_rfl, ?_⟩))
        (repeat (first | refine awp_seq ?_ | refine awp_block ?_ | ((first | refine awp_runG [0, 1, 2, 3, 4, 10, 11, 20, 23, 1000000, 1000001] hX ?_ | refine awp_drawnG [0, 1, 2, 3, 4, 10, 11, 20, 23, 1000000, 1000001] hX mixed ?_ | refine awp_skip ?_ | refine awp_exit ?_); (simp [go_sem, hwj]; try (refine ⟨by kernel_rfl, ?_⟩)))))
        refine ⟨P, V2, V1, U ++ S, ⟨h1', by omega, by omega, by omega, by simp; omega⟩, by first | omega | (simp only []; omega), ?_⟩
        refine sub_of _ [.old 0 ⟨3, 1, (r4 (P, V2, V1, U ++ S)).map ii⟩, .old 1 ⟨22, 1, [bsl R]⟩] (by simp [go_sem]) ?_
        simp [go_sem, l2]
    · simp only [decide_eq_false_iff_not, Classical.not_not] at hc
      have e1 : r4 (P, U, V, S) = r5 P U [] V S := by simp [r4, r5]
      have e2 : r5 P V [] U S = r4 (Q, F, E, T) := by rw [← h1]; simp [r4, r5]
      have hs := swapR_m P U [] V S R hc (by simp; omega) hR
      rw [e2, ← e1, List.length_nil, Nat.add_zero, h2] at hs
      (repeat (first | refine awp_seq ?_ | refine awp_block ?_ | ((first | refine awp_runG [0, 1, 2, 3, 4, 10, 11, 20, 23, 1000000, 1000001] hX ?_ | refine awp_drawnG [0, 1, 2, 3, 4, 10, 11, 20, 23, 1000000, 1000001] hX mixed ?_ | refine awp_skip ?_ | refine awp_exit ?_); (simp [go_sem, hmu, hwp]; try (refine ⟨by kernel_rfl, ?_⟩)))))
      first | refine callH_intro [0, 1] (hs) (by simp [go_sem]) ?_ | refine callTQ_intro [0, 1] (hs) (by simp [go_sem]) ?_ | refine callTE_intro [0, 1] (hs) (by simp [go_sem]) ?_
      try (simp [go_sem]; try (refine ⟨by kernel_rfl, ?_⟩))
      (repeat (first | refine awp_seq ?_ | refine awp_block ?_ | ((first | refine awp_runG [0, 1, 2, 3, 4, 10, 11, 20, 23, 1000000, 1000001] hX ?_ | refine awp_drawnG [0, 1, 2, 3, 4, 10, 11, 20, 23, 1000000, 1000001] hX mixed ?_ | refine awp_skip ?_ | refine awp_exit ?_); (simp [go_sem]; try (refine ⟨by kernel_rfl, ?_⟩)))))
      (try refine awp_ret ?_); (try simp only [thenQ, blkQ, loopQ]); refine retH_normal [(1000000, .ow 0), (1000001, .ow 1)] [.old 0 ⟨3, 1, (r4 (Q, F, E, T)).map ii⟩, .old 1 ⟨22, 1, [bsl R]⟩] ?_
      simp [go_sem]

end Go.Proofs.YtjgkjenbgadacaaDoor.B
