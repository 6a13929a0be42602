/-
  Layer 24: equal parts, as a row of the call's own; a number put in.
-/
import Derived.Test.YtjgkjenbgadacaaDoorSplE
import Derived.Test.YtjgkjenbgadacaaDoorShelfI
import Derived.Test.YtjgkjenbgadacaaDoorFw5
import Derived.Test.YtjgkjenbgadacaaDoorBidS
set_option linter.all false
namespace Go.Proofs.YtjgkjenbgadacaaDoor
open Go.RowKit Go.Ab
attribute [local irreducible] AWP Go.Ab.Sub Means MeansH CallK CallG CallT CallGT CallU

set_option maxHeartbeats 16000000 in
set_option maxRecDepth 20000 in
theorem weighted_h (n : Int) (W : List Int) (hl : W.length ≤ 9223372036854775807) (hc : isAm n = true ∧ wsum W ≠ 0) :
    MeansH Tryd.prog 55 [] [ii n, il W] (.tup [.ow 0, ii 0]) [rowI (wtd W n)] := by
  obtain ⟨hn, hW⟩ := hc
  obtain ⟨hok, hse, hs0⟩ := wsum_pos hW
  have hl60 := okW_len hok
  have hsb := (okW_sum hok).2
  have hn2 : 0 ≤ n ∧ n ≤ 1099511627776 := by simpa [isAm] using hn
  have hlb := left_bd (h := n) hs0
  have hqi := qF_in (n := n) hok hn2.1 hs0
  have hsm := wsum_m W hl
  rw [hse] at hsm
  have hwt : wtd W n = bumps (qF n (sumL W) W) ((srt (kf (rF n (sumL W) W)) (idxI W.length)).take (n - sumL (qF n (sumL W) W)).toNat) := rfl
  rw [hwt]
  generalize sumL W = s at *
  have hrok : okR (rF n s W) := rF_okR (by omega) W
  have hS := sortG_m (idxI W.length) (rF n s W) (List.pairwise_iff_getElem.2 fun i j hi hj hij => idxI_ord _ i j hi hj hij) (fun x hx => by rw [rF_len]; exact idxI_mem.1 hx) (by rw [idxI_len]; omega) (by rw [rF_len]; omega) hrok
  have hql : (qF n s W).length = W.length := qF_len _ _ _
  have hrl : (rF n s W).length = W.length := rF_len _ _ _
  have hil : (idxI W.length).length = W.length := idxI_len _
  have hqa : ∀ k (hk : k < W.length) (hk' : k < (qF n s W).length), (qF n s W)[k] = n * W[k] / s := fun k hk hk' => by simp [qF]
  have hra : ∀ k (hk : k < W.length) (hk' : k < (rF n s W).length), (rF n s W)[k] = n * W[k] % s := fun k hk hk' => by simp [rF]
  have hia : ∀ k (hk' : k < (idxI W.length).length), (idxI W.length)[k] = k := fun k hk' => idxI_at hk'
  obtain ⟨m, hm⟩ : ∃ m : Nat, (m : Int) = n - sumL (qF n s W) := ⟨(n - sumL (qF n s W)).toNat, by omega⟩
  have hmt : (n - sumL (qF n s W)).toNat = m := by omega
  rw [hmt]
  have hmW : m ≤ W.length := by omega
  obtain ⟨O, hO⟩ : ∃ O, srt (kf (rF n s W)) (idxI W.length) = O := ⟨_, rfl⟩
  rw [hO] at hS ⊢
  have hOl : O.length = W.length := by rw [← hO, srt_len, idxI_len]
  have hOm : ∀ x ∈ O, 0 ≤ x ∧ x < W.length := fun x hx => by
    rw [← hO] at hx
    exact idxI_mem.1 ((srt_perm _ _).mem_iff.1 hx)
  have hlm := fun k hk => left_m (q := qF n s W) hqi hn2.1 k hk
  have hsc : ∀ k (hk : k < W.length) (hk' : k < (qF n s W).length), sumL ((qF n s W).take (k + 1)) = sumL ((qF n s W).take k) + (qF n s W)[k] := fun k _ hk' => sumL_succ hk'
  generalize hQ : qF n s W = Q at *
  generalize hR : rF n s W = R at *
  generalize hI : idxI W.length = I at *
  have pq := fun k (hk : k < Q.length) => part_set hk
  have pr := fun k (hk : k < R.length) => part_set hk
  have pi := fun k (hk : k < I.length) => part_set hk
  have plq := fun k hk => part_len (L := Q) (k := k) hk
  have plr := fun k hk => part_len (L := R) (k := k) hk
  have pli := fun k hk => part_len (L := I) (k := k) hk
  have pz1 := part_zero Q
  have pz2 := part_zero R
  have pz3 := part_zero I
  rw [hql] at pz1
  rw [hrl] at pz2
  rw [hil] at pz3
  have ps := s
  refine meansH_fn 0 84 [.tmp 4, .tmp 5] Tryd.func55 rfl rfl rfl (by simp) (by decide) rfl fun X hX => ?_
  (repeat (first | refine awp_seq ?_ | refine awp_block ?_ | ((first | refine awp_runG [0, 1, 4, 5, 6, 7, 8, 9, 10, 11, 12, 14, 23, 34, 35, 36, 37, 70, 71, 72, 73] hX ?_ | refine awp_drawnG [0, 1, 4, 5, 6, 7, 8, 9, 10, 11, 12, 14, 23, 34, 35, 36, 37, 70, 71, 72, 73] hX mixed ?_ | refine awp_skip ?_ | refine awp_exit ?_); (simp [go_sem]; try (refine ⟨by kernel_rfl, ?_⟩)))))
  first | refine callK_intro (hsm) rfl (by simp [go_sem]) rfl ?_ | refine callT_intro (hsm) rfl (by simp [go_sem]) rfl ?_
  try (simp [go_sem]; try (refine ⟨by kernel_rfl, ?_⟩))
  (repeat (first | refine awp_seq ?_ | refine awp_block ?_ | ((first | refine awp_runG [0, 1, 4, 5, 6, 7, 8, 9, 10, 11, 12, 14, 23, 34, 35, 36, 37, 70, 71, 72, 73] hX ?_ | refine awp_drawnG [0, 1, 4, 5, 6, 7, 8, 9, 10, 11, 12, 14, 23, 34, 35, 36, 37, 70, 71, 72, 73] hX mixed ?_ | refine awp_skip ?_ | refine awp_exit ?_); (simp [go_sem]; try (refine ⟨by kernel_rfl, ?_⟩)))))
  first | refine callK_intro (amount_m n) rfl (by simp [go_sem]) rfl ?_ | refine callT_intro (amount_m n) rfl (by simp [go_sem]) rfl ?_
  try (simp [go_sem]; try (refine ⟨by kernel_rfl, ?_⟩))
  have hs1 : s ≠ 0 := by omega
  refine awp_cond (b := false) (by simp [go_sem, hn, hs1]) (fun h => by cases h) (fun _ => ?_)
  (repeat (first | refine awp_seq ?_ | refine awp_block ?_ | ((first | refine awp_runG [0, 1, 4, 5, 6, 7, 8, 9, 10, 11, 12, 14, 23, 34, 35, 36, 37, 70, 71, 72, 73] hX ?_ | refine awp_skip ?_ | refine awp_exit ?_); (simp [go_sem]; try (refine ⟨by kernel_rfl, ?_⟩)))))
  refine awp_drawUG [0, 1, 4, 5, 6, 7, 8, 9, 10, 11, 12, 14, 23, 34, 35, 36, 37, 70, 71, 72, 73] 3 hX mixed ?_; (simp [go_sem]; try (refine ⟨by kernel_rfl, ?_⟩))
  (repeat refine And.intro (by first | omega | (unfold maxLen; omega) | kernel_rfl | (refine ⟨by first | omega | (unfold maxLen; omega), by first | omega | (unfold maxLen; omega)⟩) | grind) ?_)
  refine ⟨⟨by kernel_rfl, by kernel_rfl⟩, ?_⟩
  (repeat (first | refine awp_seq ?_ | refine awp_block ?_ | ((first | refine awp_runG [0, 1, 4, 5, 6, 7, 8, 9, 10, 11, 12, 14, 23, 34, 35, 36, 37, 70, 71, 72, 73] hX ?_ | refine awp_drawnG [0, 1, 4, 5, 6, 7, 8, 9, 10, 11, 12, 14, 23, 34, 35, 36, 37, 70, 71, 72, 73] hX mixed ?_ | refine awp_skip ?_ | refine awp_exit ?_); (simp [go_sem]; try (refine ⟨by kernel_rfl, ?_⟩)))))
  (repeat refine And.intro (by first | omega | (unfold maxLen; omega) | kernel_rfl | (refine ⟨by first | omega | (unfold maxLen; omega), by first | omega | (unfold maxLen; omega)⟩) | grind) ?_)
  (repeat (first | refine awp_seq ?_ | refine awp_block ?_ | ((first | refine awp_runG [0, 1, 4, 5, 6, 7, 8, 9, 10, 11, 12, 14, 23, 34, 35, 36, 37, 70, 71, 72, 73] hX ?_ | refine awp_drawnG [0, 1, 4, 5, 6, 7, 8, 9, 10, 11, 12, 14, 23, 34, 35, 36, 37, 70, 71, 72, 73] hX mixed ?_ | refine awp_skip ?_ | refine awp_exit ?_); (simp [go_sem]; try (refine ⟨by kernel_rfl, ?_⟩)))))
  refine awp_loop (fun k : Nat => ⟨mkE [(0, ii n), (6, ii s), (7, .ow 0), (8, .el 2 1 0 0), (9, .ow 3), (10, ii (n - sumL (Q.take k))), (34, il W), (35, ii W.length), (36, ii k)], [rowI (part Q k), rowI (part R k), .row ⟨25, 1, [.ow 1]⟩, rowI (part I k)]⟩) (fun k => k ≤ W.length) (fun k => W.length - k) 0 ?_ ?_ ?_
  · rw [pz1, pz2, pz3]
    refine sub_of _ [.old 0 ⟨3, 1, (List.replicate W.length (0 : Int)).map ii⟩, .old 1 ⟨3, 1, (List.replicate W.length (0 : Int)).map ii⟩, .old 2 ⟨25, 1, [.ow 1]⟩, .old 3 ⟨3, 1, (List.replicate W.length (0 : Int)).map ii⟩] ?_ ?_
    · simp [go_sem, List.map_replicate]
    · simp [go_sem]
  · omega
  · intro k hk
    have lb := hlm k (by omega)
    have l1 := plq k (by omega)
    have l2 := plr k (by omega)
    have l3 := pli k (by omega)
    (repeat (first | refine awp_seq ?_ | refine awp_block ?_ | ((first | refine awp_runG [0, 1, 4, 5, 6, 7, 8, 9, 10, 11, 12, 14, 23, 34, 35, 36, 37, 70, 71, 72, 73] hX ?_ | refine awp_drawnG [0, 1, 4, 5, 6, 7, 8, 9, 10, 11, 12, 14, 23, 34, 35, 36, 37, 70, 71, 72, 73] hX mixed ?_ | refine awp_skip ?_ | refine awp_exit ?_); (simp [go_sem]; try (refine ⟨by kernel_rfl, ?_⟩)))))
    refine awp_cond (b := decide (k < W.length)) (by simp [go_sem]) (fun hc => ?_) (fun hc => ?_)
    · simp at hc
      have hwr := okW_mem hok (List.getElem_mem hc)
      have hq := quota_m n W[k] s hn2 hwr (by omega)
      have a1 := pq k (by omega)
      have a2 := pr k (by omega)
      have a3 := pi k (by omega)
      have b1 := hqa k hc (by omega)
      have b2 := hra k hc (by omega)
      have b3 := hia k (by omega)
      have lb2 := hlm (k + 1) (by omega)
      have sc := hsc k hc (by omega)
      have hqk := hqi Q[k] (List.getElem_mem (by omega))
      obtain ⟨q, hqe⟩ : ∃ q, Q[k]'(by omega) = q := ⟨_, rfl⟩
      obtain ⟨r, hre⟩ : ∃ r, R[k]'(by omega) = r := ⟨_, rfl⟩
      rw [hqe] at a1 b1 sc hqk
      rw [hre] at a2 b2
      rw [b3] at a3
      rw [← b1, ← b2] at hq
      rw [sc] at lb2
      have hkq : k < (part Q k).length := by omega
      have hkr : k < (part R k).length := by omega
      have hki : k < (part I k).length := by omega
      have hw1 := w64 (x := n - sumL (Q.take k) - q) (by omega) (by omega)
      have hw2 := w64 (x := (k : Int) + 1) (by omega) (by omega)
      have hse : n - (sumL (Q.take k) + q) = n - sumL (Q.take k) - q := by omega
      clear b3 hqe hre l1 l2 l3 pq pr pi plq plr pli
      generalize part Q k = PQ at *
      generalize part R k = PR at *
      generalize part I k = PI at *
      have hns := nth_set_ii (v := q) hkq
      (repeat (first | refine awp_seq ?_ | refine awp_block ?_ | ((first | refine awp_runG [0, 1, 4, 5, 6, 7, 8, 9, 10, 11, 12, 14, 23, 34, 35, 36, 37, 70, 71, 72, 73] hX ?_ | refine awp_drawnG [0, 1, 4, 5, 6, 7, 8, 9, 10, 11, 12, 14, 23, 34, 35, 36, 37, 70, 71, 72, 73] hX mixed ?_ | refine awp_skip ?_ | refine awp_exit ?_); (simp [go_sem, hc]; try (refine ⟨by kernel_rfl, ?_⟩)))))
      first | refine callK_intro (hq) rfl (by simp [go_sem]) rfl ?_ | refine callT_intro (hq) rfl (by simp [go_sem]) rfl ?_
      try (simp [go_sem]; try (refine ⟨by kernel_rfl, ?_⟩))
      (repeat (first | refine awp_seq ?_ | refine awp_block ?_ | ((first | refine awp_runG [0, 1, 4, 5, 6, 7, 8, 9, 10, 11, 12, 14, 23, 34, 35, 36, 37, 70, 71, 72, 73] hX ?_ | refine awp_drawnG [0, 1, 4, 5, 6, 7, 8, 9, 10, 11, 12, 14, 23, 34, 35, 36, 37, 70, 71, 72, 73] hX mixed ?_ | refine awp_skip ?_ | refine awp_exit ?_); (simp [go_sem, hkq, hkr, hki, hw1, hw2, hns]; try (refine ⟨by kernel_rfl, ?_⟩)))))
      try (repeat refine And.intro (by first | omega | (unfold maxLen; omega) | kernel_rfl | (refine ⟨by first | omega | (unfold maxLen; omega), by first | omega | (unfold maxLen; omega)⟩) | grind) ?_)
      try (repeat (first | refine awp_seq ?_ | refine awp_block ?_ | ((first | refine awp_runG [0, 1, 4, 5, 6, 7, 8, 9, 10, 11, 12, 14, 23, 34, 35, 36, 37, 70, 71, 72, 73] hX ?_ | refine awp_drawnG [0, 1, 4, 5, 6, 7, 8, 9, 10, 11, 12, 14, 23, 34, 35, 36, 37, 70, 71, 72, 73] hX mixed ?_ | refine awp_skip ?_ | refine awp_exit ?_); (simp [go_sem, hkq, hkr, hki, hw1, hw2, hns]; try (refine ⟨by kernel_rfl, ?_⟩)))))
      refine ⟨k + 1, by omega, by omega, ?_⟩
      rw [← a1, ← a2, ← a3, sc, hse]
      refine sub_of _ [.old 0 ⟨3, 1, (PQ.set k q).map ii⟩, .old 1 ⟨3, 1, (PR.set k r).map ii⟩, .old 2 ⟨25, 1, [.ow 1]⟩, .old 3 ⟨3, 1, (PI.set k (k : Int)).map ii⟩] (by simp [go_sem]) ?_
      simp [go_sem]
    · have hkl : k = W.length := by simp at hc; omega
      have e1 : part Q k = Q := by rw [hkl, ← hql]; exact part_full Q
      have e2 : part R k = R := by rw [hkl, ← hrl]; exact part_full R
      have e3 : part I k = I := by rw [hkl, ← hil]; exact part_full I
      have e4 : Q.take k = Q := List.take_of_length_le (by omega)
      rw [e1, e2, e3, e4, ← hm]
      (repeat (first | refine awp_seq ?_ | refine awp_block ?_ | ((first | refine awp_runG [0, 1, 4, 5, 6, 7, 8, 9, 10, 11, 12, 14, 23, 34, 35, 36, 37, 70, 71, 72, 73] hX ?_ | refine awp_drawnG [0, 1, 4, 5, 6, 7, 8, 9, 10, 11, 12, 14, 23, 34, 35, 36, 37, 70, 71, 72, 73] hX mixed ?_ | refine awp_skip ?_ | refine awp_exit ?_); (simp [go_sem]; try (refine ⟨by kernel_rfl, ?_⟩)))))
      first | refine callH_intro [3, 2, 1] (hS) (by simp [go_sem]) ?_ | refine callTQ_intro [3, 2, 1] (hS) (by simp [go_sem]) ?_ | refine callTE_intro [3, 2, 1] (hS) (by simp [go_sem]) ?_
      try (simp [go_sem]; try (refine ⟨by kernel_rfl, ?_⟩))
      (repeat (first | refine awp_seq ?_ | refine awp_block ?_ | ((first | refine awp_runG [0, 1, 4, 5, 6, 7, 8, 9, 10, 11, 12, 14, 23, 34, 35, 36, 37, 70, 71, 72, 73] hX ?_ | refine awp_drawnG [0, 1, 4, 5, 6, 7, 8, 9, 10, 11, 12, 14, 23, 34, 35, 36, 37, 70, 71, 72, 73] hX mixed ?_ | refine awp_skip ?_ | refine awp_exit ?_); (simp [go_sem, hmW, hOl]; try (refine ⟨by kernel_rfl, ?_⟩)))))
      refine awp_loop (fun j : Nat => ⟨mkE [(7, .ow 0), (70, .wn 1 1 0 m), (71, ii m), (72, ii j)], [rowI (bumps Q (O.take j)), rowI O]⟩) (fun j => j ≤ m) (fun j => m - j) 0 ?_ ?_ ?_
      · refine sub_of _ [.old 0 ⟨3, 1, Q.map ii⟩, .old 3 ⟨3, 1, O.map ii⟩] (by simp [go_sem, bumps]) ?_
        simp [go_sem, bumps]
      · omega
      · intro j hj
        have hbl := bumps_len (O.take j) Q
        (repeat (first | refine awp_seq ?_ | refine awp_block ?_ | ((first | refine awp_runG [0, 1, 4, 5, 6, 7, 8, 9, 10, 11, 12, 14, 23, 34, 35, 36, 37, 70, 71, 72, 73] hX ?_ | refine awp_drawnG [0, 1, 4, 5, 6, 7, 8, 9, 10, 11, 12, 14, 23, 34, 35, 36, 37, 70, 71, 72, 73] hX mixed ?_ | refine awp_skip ?_ | refine awp_exit ?_); (simp [go_sem]; try (refine ⟨by kernel_rfl, ?_⟩)))))
        refine awp_cond (b := decide (j < m)) (by simp [go_sem]) (fun hc => ?_) (fun hc => ?_)
        · simp at hc
          have hjO : j < O.length := by omega
          have hx := hOm O[j] (List.getElem_mem hjO)
          have hbs := bumps_succ (L := Q) hjO
          obtain ⟨p, hp⟩ : ∃ p : Nat, O[j] = (p : Int) := ⟨O[j].toNat, by omega⟩
          obtain ⟨B, hB⟩ : ∃ B, bumps Q (O.take j) = B := ⟨_, rfl⟩
          rw [hp] at hx hbs
          have hbd := bumps_bd (O.take j) hqi
          rw [hB] at hbl hbs hbd ⊢
          have hpB : p < B.length := by omega
          have hbd : 0 ≤ B[p] ∧ B[p] ≤ n + 60 := by
            have := hbd B[p] (List.getElem_mem _)
            rw [List.length_take] at this
            omega
          have hbe : bump B (p : Int) = B.set p (B[p] + 1) := by
            unfold bump
            rw [Int.toNat_natCast, List.getD_eq_getElem?_getD, List.getElem?_eq_getElem hpB]; rfl
          (repeat (first | refine awp_seq ?_ | refine awp_block ?_ | ((first | refine awp_runG [0, 1, 4, 5, 6, 7, 8, 9, 10, 11, 12, 14, 23, 34, 35, 36, 37, 70, 71, 72, 73] hX ?_ | refine awp_drawnG [0, 1, 4, 5, 6, 7, 8, 9, 10, 11, 12, 14, 23, 34, 35, 36, 37, 70, 71, 72, 73] hX mixed ?_ | refine awp_skip ?_ | refine awp_exit ?_); (simp [go_sem, hc, hjO, hp, hpB]; (try simp (disch := omega) only [w64, td, tm]); try (refine ⟨by kernel_rfl, ?_⟩)))))
          (repeat refine And.intro (by first | omega | (unfold maxLen; omega) | kernel_rfl | (refine ⟨by first | omega | (unfold maxLen; omega), by first | omega | (unfold maxLen; omega)⟩) | grind) ?_)
          (repeat (first | refine awp_seq ?_ | refine awp_block ?_ | ((first | refine awp_runG [0, 1, 4, 5, 6, 7, 8, 9, 10, 11, 12, 14, 23, 34, 35, 36, 37, 70, 71, 72, 73] hX ?_ | refine awp_drawnG [0, 1, 4, 5, 6, 7, 8, 9, 10, 11, 12, 14, 23, 34, 35, 36, 37, 70, 71, 72, 73] hX mixed ?_ | refine awp_skip ?_ | refine awp_exit ?_); (simp [go_sem, hc, hjO, hp, hpB]; (try simp (disch := omega) only [w64, td, tm]); try (refine ⟨by kernel_rfl, ?_⟩)))))
          refine ⟨j + 1, by omega, by omega, ?_⟩
          rw [hbs, hbe]
          refine sub_of _ [.old 0 ⟨3, 1, (B.set p (B[p] + 1)).map ii⟩, .old 1 ⟨3, 1, O.map ii⟩] (by simp [go_sem]) ?_
          simp [go_sem]
          try omega
        · have : j = m := by simp at hc; omega
          subst this
          (repeat (first | refine awp_seq ?_ | refine awp_block ?_ | ((first | refine awp_runG [0, 1, 4, 5, 6, 7, 8, 9, 10, 11, 12, 14, 23, 34, 35, 36, 37, 70, 71, 72, 73] hX ?_ | refine awp_drawnG [0, 1, 4, 5, 6, 7, 8, 9, 10, 11, 12, 14, 23, 34, 35, 36, 37, 70, 71, 72, 73] hX mixed ?_ | refine awp_skip ?_ | refine awp_exit ?_); (simp [go_sem]; try (refine ⟨by kernel_rfl, ?_⟩)))))
          obtain ⟨Z, hZ⟩ : ∃ Z, bumps Q (O.take j) = Z := ⟨_, rfl⟩
          rw [hZ]
          refine awp_ret ?_; (try simp only [thenQ, blkQ, loopQ]); refine retH_ret [(4, .ow 0), (5, ii 0)] [.old 0 ⟨3, 1, Z.map ii⟩] ?_
          simp [go_sem]

set_option maxHeartbeats 4000000 in
theorem even_h (n : Int) (k : Nat) (hn : isAm n = true) (hk : 1 ≤ k ∧ k ≤ 60) : MeansH Tryd.prog 43 [] [ii n, ii k] (.tup [.ow 0, ii 0]) [rowI (evens n k)] := by
  have hR := repeat_m k hk
  have hs : wsum (List.replicate k 1) ≠ 0 := by
    have hok : okW (List.replicate k 1) = true := by
      simp only [okW, Bool.and_eq_true, List.all_eq_true, decide_eq_true_eq, List.length_replicate]
      exact ⟨fun x hx => by rw [List.eq_of_mem_replicate hx]; rfl, by omega⟩
    unfold wsum
    rw [if_pos hok, sumL_ones]; omega
  have hW := weighted_h n (List.replicate k 1) (by simp; omega) ⟨hn, hs⟩
  have e : wtd (List.replicate k 1) n = evens n k := rfl
  rw [e] at hW
  generalize evens n k = A at *
  generalize List.replicate k (1 : Int) = L at *
  refine meansH_fn 0 19 [.tmp 4, .tmp 5] Tryd.func43 rfl rfl rfl (by simp) (by decide) rfl fun X hX => ?_
  (repeat (first | refine awp_seq ?_ | refine awp_block ?_ | ((first | refine awp_runG [0, 1, 4, 5, 11] hX ?_ | refine awp_drawnG [0, 1, 4, 5, 11] hX mixed ?_ | refine awp_skip ?_ | refine awp_exit ?_); (simp [go_sem]; try (refine ⟨by kernel_rfl, ?_⟩)))))
  refine awp_cond (b := false) (by simp [go_sem]; try omega) (fun hb => by cases hb) (fun _ => ?_)
  (repeat (first | refine awp_seq ?_ | refine awp_block ?_ | ((first | refine awp_runG [0, 1, 4, 5, 11] hX ?_ | refine awp_drawnG [0, 1, 4, 5, 11] hX mixed ?_ | refine awp_skip ?_ | refine awp_exit ?_); (simp [go_sem]; try (refine ⟨by kernel_rfl, ?_⟩)))))
  first | refine callK_intro (hR) rfl (by simp [go_sem]) rfl ?_ | refine callT_intro (hR) rfl (by simp [go_sem]) rfl ?_
  try (simp [go_sem]; try (refine ⟨by kernel_rfl, ?_⟩))
  first | refine callH_intro [] (hW) (by simp [go_sem]) ?_ | refine callTQ_intro [] (hW) (by simp [go_sem]) ?_ | refine callTE_intro [] (hW) (by simp [go_sem]) ?_
  try (simp [go_sem]; try (refine ⟨by kernel_rfl, ?_⟩))
  (repeat (first | refine awp_seq ?_ | refine awp_block ?_ | ((first | refine awp_runG [0, 1, 4, 5, 11] hX ?_ | refine awp_drawnG [0, 1, 4, 5, 11] hX mixed ?_ | refine awp_skip ?_ | refine awp_exit ?_); (simp [go_sem]; try (refine ⟨by kernel_rfl, ?_⟩)))))
  refine awp_ret ?_; (try simp only [thenQ, blkQ, loopQ]); refine retH_ret [(4, .ow 0), (5, ii 0)] [.old 1 ⟨3, 1, A.map ii⟩] ?_
  simp [go_sem]

/-- slices.Insert over a row of the call's own. -/
theorem insert_h (L : List Int) (x : Int) (i : Nat) (hi : i ≤ L.length) (hl : L.length ≤ 1000) (h0 : L ≠ []) :
    MeansH Tryd.prog 44 [rowI L, rowI [x]] [.ow 0, ii i, .ow 1] (.ow 2) [.dead, rowI [x], rowI (insL i x L)] := by
  have h := row_ins (P := Tryd.prog) (f := 44) (E := 3) (xs := L.map fun n => Value.int .i64 n) (ys := insL i (Value.int .i64 x) (L.map fun n => Value.int .i64 n)) (y := .int .i64 x) (i := .int .i64 i) (by simpa using h0)
    (fun y hy => by
      unfold insL at hy
      rcases List.mem_append.1 hy with hy | hy
      · obtain ⟨z, _, rfl⟩ := List.mem_map.1 (List.mem_of_mem_take hy); rfl
      · rcases List.mem_cons.1 hy with rfl | hy
        · rfl
        · obtain ⟨z, _, rfl⟩ := List.mem_map.1 (List.mem_of_mem_drop hy); rfl)
    (ins_ok (i := i) (by simpa using hi) (by simpa using h0) (by simpa using hl) (fun v hv => by obtain ⟨z, _, rfl⟩ := List.mem_map.1 hv; rfl) rfl Tryd.slices_Insert_int_shift Tryd.slices_Insert_int_end_room Tryd.slices_Insert_int_end_grow Tryd.slices_Insert_int_grow)
  have e1 : (L.map fun n => Value.int .i64 n).map AV.v = L.map ii := by simp [List.map_map, Function.comp_def]
  have e2 : (insL i (Value.int .i64 x) (L.map fun n => Value.int .i64 n)).map AV.v = (insL i x L).map ii := by simp [insL, List.map_map, Function.comp_def]
  rw [e1, e2] at h
  exact h

end Go.Proofs.YtjgkjenbgadacaaDoor
