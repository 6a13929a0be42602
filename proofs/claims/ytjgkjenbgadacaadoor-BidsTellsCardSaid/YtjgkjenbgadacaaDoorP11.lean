/-
  Lemmas for the statement at the top.
-/
import Derived.Test.YtjgkjenbgadacaaDoorP10
import Derived.Test.YtjgkjenbgadacaaDoorFw5
import Derived.Test.YtjgkjenbgadacaaDoorP6
import Derived.Test.YtjgkjenbgadacaaDoorP9
import Derived.Shelf.Small.Wraps
import Derived.Shelf.Strconv.Itoa0
import Derived.Shelf.Strconv.Itoa1
import Derived.Shelf.LaysM
import Derived.Shelf.Strconv.Itoa2
import Derived.Shelf.Strconv.Itoa3
import Derived.Test.YtjgkjenbgadacaaDoorProg
import Derived.Lib.QuietBelow
set_option linter.all false
namespace Go.Proofs.YtjgkjenbgadacaaDoor
open Go.RowKit Go.Ab
attribute [local irreducible] AWP Go.Ab.Sub Means MeansH CallK CallG CallT CallGT CallU
set_option maxHeartbeats 16000000 in
set_option maxRecDepth 20000 in
theorem weighted_h (n : Int) (W : List Int) (hl : W.length ≤ 9223372036854775807) (hc : isAm n = true ∧ wsum W ≠ 0) :
    MeansH Tryd.prog 55 [] [ii n, il W] (.tup [.ow 0, ii 0]) [rowI (wtd W n)] := by
  obtain ⟨hn, hW⟩ := hc
  obtain ⟨hok, hse, hs0⟩ := wsum_pos hW
  have hl60 := okW_len hok
  have hsb := (okW_sum hok).2
  have hn2 : 0 ≤ n ∧ n ≤ 1099511627776 := by simpa [isAm] using hn
  have hlb := left_bd (h := n) hs0
  have hqi := qF_in (n := n) hok hn2.1 hs0
  have hsm := wsum_m W hl
  rw [hse] at hsm
  have hwt : wtd W n = bumps (qF n (sumL W) W) ((srt (kf (rF n (sumL W) W)) (idxI W.length)).take (n - sumL (qF n (sumL W) W)).toNat) := rfl
  rw [hwt]
  generalize sumL W = s at *
  have hrok : okR (rF n s W) := rF_okR (by omega) W
  have hS := sortG_m (idxI W.length) (rF n s W) (List.pairwise_iff_getElem.2 fun i j hi hj hij => idxI_ord _ i j hi hj hij) (fun x hx => by rw [rF_len]; exact idxI_mem.1 hx) (by rw [idxI_len]; omega) (by rw [rF_len]; omega) hrok
  have hql : (qF n s W).length = W.length := qF_len _ _ _
  have hrl : (rF n s W).length = W.length := rF_len _ _ _
  have hil : (idxI W.length).length = W.length := idxI_len _
  have hqa : ∀ k (hk : k < W.length) (hk' : k < (qF n s W).length), (qF n s W)[k] = n * W[k] / s := fun k hk hk' => by simp [qF]
  have hra : ∀ k (hk : k < W.length) (hk' : k < (rF n s W).length), (rF n s W)[k] = n * W[k] % s := fun k hk hk' => by simp [rF]
  have hia : ∀ k (hk' : k < (idxI W.length).length), (idxI W.length)[k] = k := fun k hk' => idxI_at hk'
  obtain ⟨m, hm⟩ : ∃ m : Nat, (m : Int) = n - sumL (qF n s W) := ⟨(n - sumL (qF n s W)).toNat, by omega⟩
  have hmt : (n - sumL (qF n s W)).toNat = m := by omega
  rw [hmt]
  have hmW : m ≤ W.length := by omega
  obtain ⟨O, hO⟩ : ∃ O, srt (kf (rF n s W)) (idxI W.length) = O := ⟨_, rfl⟩
  rw [hO] at hS ⊢
  have hOl : O.length = W.length := by rw [← hO, srt_len, idxI_len]
  have hOm : ∀ x ∈ O, 0 ≤ x ∧ x < W.length := fun x hx => by
    rw [← hO] at hx
    exact idxI_mem.1 ((srt_perm _ _).mem_iff.1 hx)
  have hlm := fun k hk => left_m (q := qF n s W) hqi hn2.1 k hk
  have hsc : ∀ k (hk : k < W.length) (hk' : k < (qF n s W).length), sumL ((qF n s W).take (k + 1)) = sumL ((qF n s W).take k) + (qF n s W)[k] := fun k _ hk' => sumL_succ hk'
  generalize hQ : qF n s W = Q at *
  generalize hR : rF n s W = R at *
  generalize hI : idxI W.length = I at *
  have pq := fun k (hk : k < Q.length) => part_set hk
  have pr := fun k (hk : k < R.length) => part_set hk
  have pi := fun k (hk : k < I.length) => part_set hk
  have plq := fun k hk => part_len (L := Q) (k := k) hk
  have plr := fun k hk => part_len (L := R) (k := k) hk
  have pli := fun k hk => part_len (L := I) (k := k) hk
  have pz1 := part_zero Q
  have pz2 := part_zero R
  have pz3 := part_zero I
  rw [hql] at pz1
  rw [hrl] at pz2
  rw [hil] at pz3
  have ps := s
  refine meansH_fn 0 84 [.tmp 4, .tmp 5] Tryd.func55 rfl rfl rfl (by simp) (by decide) rfl fun X hX => ?_
  (repeat (first | refine awp_seq ?_ | refine awp_block ?_ | ((first | refine awp_runG [0, 1, 4, 5, 6, 7, 8, 9, 10, 11, 12, 14, 23, 34, 35, 36, 37, 70, 71, 72, 73] hX ?_ | refine awp_drawnG [0, 1, 4, 5, 6, 7, 8, 9, 10, 11, 12, 14, 23, 34, 35, 36, 37, 70, 71, 72, 73] hX mixed ?_ | refine awp_skip ?_ | refine awp_exit ?_); (simp [go_sem]; try (refine ⟨by kernel_rfl, ?_⟩)))))
  first | refine callK_intro (hsm) rfl (by simp [go_sem]) rfl ?_ | refine callT_intro (hsm) rfl (by simp [go_sem]) rfl ?_
  try (simp [go_sem]; try (refine ⟨by kernel_rfl, ?_⟩))
  (repeat (first | refine awp_seq ?_ | refine awp_block ?_ | ((first | refine awp_runG [0, 1, 4, 5, 6, 7, 8, 9, 10, 11, 12, 14, 23, 34, 35, 36, 37, 70, 71, 72, 73] hX ?_ | refine awp_drawnG [0, 1, 4, 5, 6, 7, 8, 9, 10, 11, 12, 14, 23, 34, 35, 36, 37, 70, 71, 72, 73] hX mixed ?_ | refine awp_skip ?_ | refine awp_exit ?_); (simp [go_sem]; try (refine ⟨by kernel_rfl, ?_⟩)))))
  first | refine callK_intro (amount_m n) rfl (by simp [go_sem]) rfl ?_ | refine callT_intro (amount_m n) rfl (by simp [go_sem]) rfl ?_
  try (simp [go_sem]; try (refine ⟨by kernel_rfl, ?_⟩))
  have hs1 : s ≠ 0 := by omega
  refine awp_cond (b := false) (by simp [go_sem, hn, hs1]) (fun h => by cases h) (fun _ => ?_)
  (repeat (first | refine awp_seq ?_ | refine awp_block ?_ | ((first | refine awp_runG [0, 1, 4, 5, 6, 7, 8, 9, 10, 11, 12, 14, 23, 34, 35, 36, 37, 70, 71, 72, 73] hX ?_ | refine awp_skip ?_ | refine awp_exit ?_); (simp [go_sem]; try (refine ⟨by kernel_rfl, ?_⟩)))))
  refine awp_drawUG [0, 1, 4, 5, 6, 7, 8, 9, 10, 11, 12, 14, 23, 34, 35, 36, 37, 70, 71, 72, 73] 3 hX mixed ?_; (simp [go_sem]; try (refine ⟨by kernel_rfl, ?_⟩))
  (repeat refine And.intro (by first | omega | (unfold maxLen; omega) | kernel_rfl | (refine ⟨by first | omega | (unfold maxLen; omega), by first | omega | (unfold maxLen; omega)⟩) | grind) ?_)
  refine ⟨⟨by kernel_rfl, by kernel_rfl⟩, ?_⟩
  (repeat (first | refine awp_seq ?_ | refine awp_block ?_ | ((first | refine awp_runG [0, 1, 4, 5, 6, 7, 8, 9, 10, 11, 12, 14, 23, 34, 35, 36, 37, 70, 71, 72, 73] hX ?_ | refine awp_drawnG [0, 1, 4, 5, 6, 7, 8, 9, 10, 11, 12, 14, 23, 34, 35, 36, 37, 70, 71, 72, 73] hX mixed ?_ | refine awp_skip ?_ | refine awp_exit ?_); (simp [go_sem]; try (refine ⟨by kernel_rfl, ?_⟩)))))
  (repeat refine And.intro (by first | omega | (unfold maxLen; omega) | kernel_rfl | (refine ⟨by first | omega | (unfold maxLen; omega), by first | omega | (unfold maxLen; omega)⟩) | grind) ?_)
  (repeat (first | refine awp_seq ?_ | refine awp_block ?_ | ((first | refine awp_runG [0, 1, 4, 5, 6, 7, 8, 9, 10, 11, 12, 14, 23, 34, 35, 36, 37, 70, 71, 72, 73] hX ?_ | refine awp_drawnG [0, 1, 4, 5, 6, 7, 8, 9, 10, 11, 12, 14, 23, 34, 35, 36, 37, 70, 71, 72, 73] hX mixed ?_ | refine awp_skip ?_ | refine awp_exit ?_); (simp [go_sem]; try (refine ⟨by kernel_rfl, ?_⟩)))))
  refine awp_loop (fun k : Nat => ⟨mkE [(0, ii n), (6, ii s), (7, .ow 0), (8, .el 2 1 0 0), (9, .ow 3), (10, ii (n - sumL (Q.take k))), (34, il W), (35, ii W.length), (36, ii k)], [rowI (part Q k), rowI (part R k), .row ⟨25, 1, [.ow 1]⟩, rowI (part I k)]⟩) (fun k => k ≤ W.length) (fun k => W.length - k) 0 ?_ ?_ ?_
  · rw [pz1, pz2, pz3]
    refine sub_of _ [.old 0 ⟨3, 1, (List.replicate W.length (0 : Int)).map ii⟩, .old 1 ⟨3, 1, (List.replicate W.length (0 : Int)).map ii⟩, .old 2 ⟨25, 1, [.ow 1]⟩, .old 3 ⟨3, 1, (List.replicate W.length (0 : Int)).map ii⟩] ?_ ?_
    · simp [go_sem, List.map_replicate]
    · simp [go_sem]
  · omega
  · intro k hk
    have lb := hlm k (by omega)
    have l1 := plq k (by omega)
    have l2 := plr k (by omega)
    have l3 := pli k (by omega)
    (repeat (first | refine awp_seq ?_ | refine awp_block ?_ | ((first | refine awp_runG [0, 1, 4, 5, 6, 7, 8, 9, 10, 11, 12, 14, 23, 34, 35, 36, 37, 70, 71, 72, 73] hX ?_ | refine awp_drawnG [0, 1, 4, 5, 6, 7, 8, 9, 10, 11, 12, 14, 23, 34, 35, 36, 37, 70, 71, 72, 73] hX mixed ?_ | refine awp_skip ?_ | refine awp_exit ?_); (simp [go_sem]; try (refine ⟨by kernel_rfl, ?_⟩)))))
    refine awp_cond (b := decide (k < W.length)) (by simp [go_sem]) (fun hc => ?_) (fun hc => ?_)
    · simp at hc
      have hwr := okW_mem hok (List.getElem_mem hc)
      have hq := quota_m n W[k] s hn2 hwr (by omega)
      have a1 := pq k (by omega)
      have a2 := pr k (by omega)
      have a3 := pi k (by omega)
      have b1 := hqa k hc (by omega)
      have b2 := hra k hc (by omega)
      have b3 := hia k (by omega)
      have lb2 := hlm (k + 1) (by omega)
      have sc := hsc k hc (by omega)
      have hqk := hqi Q[k] (List.getElem_mem (by omega))
      obtain ⟨q, hqe⟩ : ∃ q, Q[k]'(by omega) = q := ⟨_, rfl⟩
      obtain ⟨r, hre⟩ : ∃ r, R[k]'(by omega) = r := ⟨_, rfl⟩
      rw [hqe] at a1 b1 sc hqk
      rw [hre] at a2 b2
      rw [b3] at a3
      rw [← b1, ← b2] at hq
      rw [sc] at lb2
      have hkq : k < (part Q k).length := by omega
      have hkr : k < (part R k).length := by omega
      have hki : k < (part I k).length := by omega
      have hw1 := w64 (x := n - sumL (Q.take k) - q) (by omega) (by omega)
      have hw2 := w64 (x := (k : Int) + 1) (by omega) (by omega)
      have hse : n - (sumL (Q.take k) + q) = n - sumL (Q.take k) - q := by omega
      clear b3 hqe hre l1 l2 l3 pq pr pi plq plr pli
      generalize part Q k = PQ at *
      generalize part R k = PR at *
      generalize part I k = PI at *
      have hns := nth_set_ii (v := q) hkq
      (repeat (first | refine awp_seq ?_ | refine awp_block ?_ | ((first | refine awp_runG [0, 1, 4, 5, 6, 7, 8, 9, 10, 11, 12, 14, 23, 34, 35, 36, 37, 70, 71, 72, 73] hX ?_ | refine awp_drawnG [0, 1, 4, 5, 6, 7, 8, 9, 10, 11, 12, 14, 23, 34, 35, 36, 37, 70, 71, 72, 73] hX mixed ?_ | refine awp_skip ?_ | refine awp_exit ?_); (simp [go_sem, hc]; try (refine ⟨by kernel_rfl, ?_⟩)))))
      first | refine callK_intro (hq) rfl (by simp [go_sem]) rfl ?_ | refine callT_intro (hq) rfl (by simp [go_sem]) rfl ?_
      try (simp [go_sem]; try (refine ⟨by kernel_rfl, ?_⟩))
      (repeat (first | refine awp_seq ?_ | refine awp_block ?_ | ((first | refine awp_runG [0, 1, 4, 5, 6, 7, 8, 9, 10, 11, 12, 14, 23, 34, 35, 36, 37, 70, 71, 72, 73] hX ?_ | refine awp_drawnG [0, 1, 4, 5, 6, 7, 8, 9, 10, 11, 12, 14, 23, 34, 35, 36, 37, 70, 71, 72, 73] hX mixed ?_ | refine awp_skip ?_ | refine awp_exit ?_); (simp [go_sem, hkq, hkr, hki, hw1, hw2, hns]; try (refine ⟨by kernel_rfl, ?_⟩)))))
      try (repeat refine And.intro (by first | omega | (unfold maxLen; omega) | kernel_rfl | (refine ⟨by first | omega | (unfold maxLen; omega), by first | omega | (unfold maxLen; omega)⟩) | grind) ?_)
      try (repeat (first | refine awp_seq ?_ | refine awp_block ?_ | ((first | refine awp_runG [0, 1, 4, 5, 6, 7, 8, 9, 10, 11, 12, 14, 23, 34, 35, 36, 37, 70, 71, 72, 73] hX ?_ | refine awp_drawnG [0, 1, 4, 5, 6, 7, 8, 9, 10, 11, 12, 14, 23, 34, 35, 36, 37, 70, 71, 72, 73] hX mixed ?_ | refine awp_skip ?_ | refine awp_exit ?_); (simp [go_sem, hkq, hkr, hki, hw1, hw2, hns]; try (refine ⟨by kernel_rfl, ?_⟩)))))
      refine ⟨k + 1, by omega, by omega, ?_⟩
      rw [← a1, ← a2, ← a3, sc, hse]
      refine sub_of _ [.old 0 ⟨3, 1, (PQ.set k q).map ii⟩, .old 1 ⟨3, 1, (PR.set k r).map ii⟩, .old 2 ⟨25, 1, [.ow 1]⟩, .old 3 ⟨3, 1, (PI.set k (k : Int)).map ii⟩] (by simp [go_sem]) ?_
      simp [go_sem]
    · have hkl : k = W.length := by simp at hc; omega
      have e1 : part Q k = Q := by rw [hkl, ← hql]; exact part_full Q
      have e2 : part R k = R := by rw [hkl, ← hrl]; exact part_full R
      have e3 : part I k = I := by rw [hkl, ← hil]; exact part_full I
      have e4 : Q.take k = Q := List.take_of_length_le (by omega)
      rw [e1, e2, e3, e4, ← hm]
      (repeat (first | refine awp_seq ?_ | refine awp_block ?_ | ((first | refine awp_runG [0, 1, 4, 5, 6, 7, 8, 9, 10, 11, 12, 14, 23, 34, 35, 36, 37, 70, 71, 72, 73] hX ?_ | refine awp_drawnG [0, 1, 4, 5, 6, 7, 8, 9, 10, 11, 12, 14, 23, 34, 35, 36, 37, 70, 71, 72, 73] hX mixed ?_ | refine awp_skip ?_ | refine awp_exit ?_); (simp [go_sem]; try (refine ⟨by kernel_rfl, ?_⟩)))))
      first | refine callH_intro [3, 2, 1] (hS) (by simp [go_sem]) ?_ | refine callTQ_intro [3, 2, 1] (hS) (by simp [go_sem]) ?_ | refine callTE_intro [3, 2, 1] (hS) (by simp [go_sem]) ?_
      try (simp [go_sem]; try (refine ⟨by kernel_rfl, ?_⟩))
      (repeat (first | refine awp_seq ?_ | refine awp_block ?_ | ((first | refine awp_runG [0, 1, 4, 5, 6, 7, 8, 9, 10, 11, 12, 14, 23, 34, 35, 36, 37, 70, 71, 72, 73] hX ?_ | refine awp_drawnG [0, 1, 4, 5, 6, 7, 8, 9, 10, 11, 12, 14, 23, 34, 35, 36, 37, 70, 71, 72, 73] hX mixed ?_ | refine awp_skip ?_ | refine awp_exit ?_); (simp [go_sem, hmW, hOl]; try (refine ⟨by kernel_rfl, ?_⟩)))))
      refine awp_loop (fun j : Nat => ⟨mkE [(7, .ow 0), (70, .wn 1 1 0 m), (71, ii m), (72, ii j)], [rowI (bumps Q (O.take j)), rowI O]⟩) (fun j => j ≤ m) (fun j => m - j) 0 ?_ ?_ ?_
      · refine sub_of _ [.old 0 ⟨3, 1, Q.map ii⟩, .old 3 ⟨3, 1, O.map ii⟩] (by simp [go_sem, bumps]) ?_
        simp [go_sem, bumps]
      · omega
      · intro j hj
        have hbl := bumps_len (O.take j) Q
        (repeat (first | refine awp_seq ?_ | refine awp_block ?_ | ((first | refine awp_runG [0, 1, 4, 5, 6, 7, 8, 9, 10, 11, 12, 14, 23, 34, 35, 36, 37, 70, 71, 72, 73] hX ?_ | refine awp_drawnG [0, 1, 4, 5, 6, 7, 8, 9, 10, 11, 12, 14, 23, 34, 35, 36, 37, 70, 71, 72, 73] hX mixed ?_ | refine awp_skip ?_ | refine awp_exit ?_); (simp [go_sem]; try (refine ⟨by kernel_rfl, ?_⟩)))))
        refine awp_cond (b := decide (j < m)) (by simp [go_sem]) (fun hc => ?_) (fun hc => ?_)
        · simp at hc
          have hjO : j < O.length := by omega
          have hx := hOm O[j] (List.getElem_mem hjO)
          have hbs := bumps_succ (L := Q) hjO
          obtain ⟨p, hp⟩ : ∃ p : Nat, O[j] = (p : Int) := ⟨O[j].toNat, by omega⟩
          obtain ⟨B, hB⟩ : ∃ B, bumps Q (O.take j) = B := ⟨_, rfl⟩
          rw [hp] at hx hbs
          have hbd := bumps_bd (O.take j) hqi
          rw [hB] at hbl hbs hbd ⊢
          have hpB : p < B.length := by omega
          have hbd : 0 ≤ B[p] ∧ B[p] ≤ n + 60 := by
            have := hbd B[p] (List.getElem_mem _)
            rw [List.length_take] at this
            omega
          have hbe : bump B (p : Int) = B.set p (B[p] + 1) := by
            unfold bump
            rw [Int.toNat_natCast, List.getD_eq_getElem?_getD, List.getElem?_eq_getElem hpB]; rfl
          (repeat (first | refine awp_seq ?_ | refine awp_block ?_ | ((first | refine awp_runG [0, 1, 4, 5, 6, 7, 8, 9, 10, 11, 12, 14, 23, 34, 35, 36, 37, 70, 71, 72, 73] hX ?_ | refine awp_drawnG [0, 1, 4, 5, 6, 7, 8, 9, 10, 11, 12, 14, 23, 34, 35, 36, 37, 70, 71, 72, 73] hX mixed ?_ | refine awp_skip ?_ | refine awp_exit ?_); (simp [go_sem, hc, hjO, hp, hpB]; (try simp (disch := omega) only [w64, td, tm]); try (refine ⟨by kernel_rfl, ?_⟩)))))
          (repeat refine And.intro (by first | omega | (unfold maxLen; omega) | kernel_rfl | (refine ⟨by first | omega | (unfold maxLen; omega), by first | omega | (unfold maxLen; omega)⟩) | grind) ?_)
          (repeat (first | refine awp_seq ?_ | refine awp_block ?_ | ((first | refine awp_runG [0, 1, 4, 5, 6, 7, 8, 9, 10, 11, 12, 14, 23, 34, 35, 36, 37, 70, 71, 72, 73] hX ?_ | refine awp_drawnG [0, 1, 4, 5, 6, 7, 8, 9, 10, 11, 12, 14, 23, 34, 35, 36, 37, 70, 71, 72, 73] hX mixed ?_ | refine awp_skip ?_ | refine awp_exit ?_); (simp [go_sem, hc, hjO, hp, hpB]; (try simp (disch := omega) only [w64, td, tm]); try (refine ⟨by kernel_rfl, ?_⟩)))))
          refine ⟨j + 1, by omega, by omega, ?_⟩
          rw [hbs, hbe]
          refine sub_of _ [.old 0 ⟨3, 1, (B.set p (B[p] + 1)).map ii⟩, .old 1 ⟨3, 1, O.map ii⟩] (by simp [go_sem]) ?_
          simp [go_sem]
          try omega
        · have : j = m := by simp at hc; omega
          subst this
          (repeat (first | refine awp_seq ?_ | refine awp_block ?_ | ((first | refine awp_runG [0, 1, 4, 5, 6, 7, 8, 9, 10, 11, 12, 14, 23, 34, 35, 36, 37, 70, 71, 72, 73] hX ?_ | refine awp_drawnG [0, 1, 4, 5, 6, 7, 8, 9, 10, 11, 12, 14, 23, 34, 35, 36, 37, 70, 71, 72, 73] hX mixed ?_ | refine awp_skip ?_ | refine awp_exit ?_); (simp [go_sem]; try (refine ⟨by kernel_rfl, ?_⟩)))))
          obtain ⟨Z, hZ⟩ : ∃ Z, bumps Q (O.take j) = Z := ⟨_, rfl⟩
          rw [hZ]
          refine awp_ret ?_; (try simp only [thenQ, blkQ, loopQ]); refine retH_ret [(4, .ow 0), (5, ii 0)] [.old 0 ⟨3, 1, Z.map ii⟩] ?_
          simp [go_sem]
set_option maxHeartbeats 4000000 in
theorem even_h (n : Int) (k : Nat) (hn : isAm n = true) (hk : 1 ≤ k ∧ k ≤ 60) : MeansH Tryd.prog 43 [] [ii n, ii k] (.tup [.ow 0, ii 0]) [rowI (evens n k)] := by
  have hR := repeat_m k hk
  have hs : wsum (List.replicate k 1) ≠ 0 := by
    have hok : okW (List.replicate k 1) = true := by
      simp only [okW, Bool.and_eq_true, List.all_eq_true, decide_eq_true_eq, List.length_replicate]
      exact ⟨fun x hx => by rw [List.eq_of_mem_replicate hx]; rfl, by omega⟩
    unfold wsum
    rw [if_pos hok, sumL_ones]; omega
  have hW := weighted_h n (List.replicate k 1) (by simp; omega) ⟨hn, hs⟩
  have e : wtd (List.replicate k 1) n = evens n k := rfl
  rw [e] at hW
  generalize evens n k = A at *
  generalize List.replicate k (1 : Int) = L at *
  refine meansH_fn 0 19 [.tmp 4, .tmp 5] Tryd.func43 rfl rfl rfl (by simp) (by decide) rfl fun X hX => ?_
  (repeat (first | refine awp_seq ?_ | refine awp_block ?_ | ((first | refine awp_runG [0, 1, 4, 5, 11] hX ?_ | refine awp_drawnG [0, 1, 4, 5, 11] hX mixed ?_ | refine awp_skip ?_ | refine awp_exit ?_); (simp [go_sem]; try (refine ⟨by kernel_rfl, ?_⟩)))))
  refine awp_cond (b := false) (by simp [go_sem]; try omega) (fun hb => by cases hb) (fun _ => ?_)
  (repeat (first | refine awp_seq ?_ | refine awp_block ?_ | ((first | refine awp_runG [0, 1, 4, 5, 11] hX ?_ | refine awp_drawnG [0, 1, 4, 5, 11] hX mixed ?_ | refine awp_skip ?_ | refine awp_exit ?_); (simp [go_sem]; try (refine ⟨by kernel_rfl, ?_⟩)))))
  first | refine callK_intro (hR) rfl (by simp [go_sem]) rfl ?_ | refine callT_intro (hR) rfl (by simp [go_sem]) rfl ?_
  try (simp [go_sem]; try (refine ⟨by kernel_rfl, ?_⟩))
  first | refine callH_intro [] (hW) (by simp [go_sem]) ?_ | refine callTQ_intro [] (hW) (by simp [go_sem]) ?_ | refine callTE_intro [] (hW) (by simp [go_sem]) ?_
  try (simp [go_sem]; try (refine ⟨by kernel_rfl, ?_⟩))
  (repeat (first | refine awp_seq ?_ | refine awp_block ?_ | ((first | refine awp_runG [0, 1, 4, 5, 11] hX ?_ | refine awp_drawnG [0, 1, 4, 5, 11] hX mixed ?_ | refine awp_skip ?_ | refine awp_exit ?_); (simp [go_sem]; try (refine ⟨by kernel_rfl, ?_⟩)))))
  refine awp_ret ?_; (try simp only [thenQ, blkQ, loopQ]); refine retH_ret [(4, .ow 0), (5, ii 0)] [.old 1 ⟨3, 1, A.map ii⟩] ?_
  simp [go_sem]
theorem insert_h (L : List Int) (x : Int) (i : Nat) (hi : i ≤ L.length) (hl : L.length ≤ 1000) (h0 : L ≠ []) :
    MeansH Tryd.prog 44 [rowI L, rowI [x]] [.ow 0, ii i, .ow 1] (.ow 2) [.dead, rowI [x], rowI (insL i x L)] := by
  have h := row_ins (P := Tryd.prog) (f := 44) (E := 3) (xs := L.map fun n => Value.int .i64 n) (ys := insL i (Value.int .i64 x) (L.map fun n => Value.int .i64 n)) (y := .int .i64 x) (i := .int .i64 i) (by simpa using h0)
    (fun y hy => by
      unfold insL at hy
      rcases List.mem_append.1 hy with hy | hy
      · obtain ⟨z, _, rfl⟩ := List.mem_map.1 (List.mem_of_mem_take hy); rfl
      · rcases List.mem_cons.1 hy with rfl | hy
        · rfl
        · obtain ⟨z, _, rfl⟩ := List.mem_map.1 (List.mem_of_mem_drop hy); rfl)
    (ins_ok (i := i) (by simpa using hi) (by simpa using h0) (by simpa using hl) (fun v hv => by obtain ⟨z, _, rfl⟩ := List.mem_map.1 hv; rfl) rfl Tryd.slices_Insert_int_shift Tryd.slices_Insert_int_end_room Tryd.slices_Insert_int_end_grow Tryd.slices_Insert_int_grow)
  have e1 : (L.map fun n => Value.int .i64 n).map AV.v = L.map ii := by simp [List.map_map, Function.comp_def]
  have e2 : (insL i (Value.int .i64 x) (L.map fun n => Value.int .i64 n)).map AV.v = (insL i x L).map ii := by simp [insL, List.map_map, Function.comp_def]
  rw [e1, e2] at h
  exact h
end Go.Proofs.YtjgkjenbgadacaaDoor

namespace Go.Proofs.YtjgkjenbgadacaaDoor
open Go.RowKit Go.Ab
attribute [local irreducible] AWP Go.Ab.Sub Means MeansH CallK CallG CallT CallGT CallU
theorem potS_none {L : List Bd} {P : Int} {M : List Int} (h : okL L = true ∧ coinB P = true ∧ okMb M = true) (hw : winB L P M = none) : potS L P M = ([], 4) := by unfold potS; rw [if_pos h, hw]
theorem potS_some {L : List Bd} {P : Int} {M : List Int} {b : Bd} (h : okL L = true ∧ coinB P = true ∧ okMb M = true) (hw : winB L P M = some b) : potS L P M = if M.length = 1 then ([P], 0) else (insL (atI M b.w) (P - b.n) (evens b.n (M.length - 1)), 0) := by unfold potS; rw [if_pos h, hw]
theorem winP_none {L : List Bd} {P : Int} (h : wins L P = none) : winP L P = (0, false) := by unfold winP; rw [h]
theorem winP_some {L : List Bd} {P : Int} {w : Nat} (h : wins L P = some w) : winP L P = ((w : Int), true) := by unfold winP; rw [h]
set_option maxHeartbeats 16000000 in
set_option maxRecDepth 20000 in
theorem sharesN_m (L : List Bd) (P : Int) (M : List Int) (hl : L.length ≤ 1000) (hM : M.length ≤ 9223372036854775807) (hok : okL L = true ∧ coinB P = true ∧ okMb M = true) (hn : ∀ x ∈ L, memB M x = true) :
    Means true Tryd.prog 13 [bl L, ii P, il M] (.tup [il (potS L P M).1, ii (potS L P M).2]) := by
  have c1 := rightL_m L (by omega)
  have c2 := coins_m P
  have c3 := different_m M hM
  have c4 := clone_h L (by omega)
  have hMs := (okMb_iff M).1 hok.2.2
  have hPr : 0 ≤ P ∧ P ≤ 1099511627776 := by have := hok.2.1; simp [coinB] at this; omega
  have c5 := deleteN_m L M (by omega) (by have := hMs.2.2.2; omega) hn
  have hfl : L.filter (memB M) = L := List.filter_eq_self.2 hn
  rw [← hfl] at c5
  have hol : (L.filter (memB M)).length ≤ L.length := List.length_filter_le _ _
  have c6 := winner_m (L.filter (memB M)) P (by omega)
  have hzo := zone_ob (L.filter (memB M))
  have hpn := @potS_none L P M hok
  have hps := fun b => @potS_some L P M b hok
  have hwb := fun b => @winB_some L P M b
  unfold winB at hpn hps hwb
  cases hw : wins (L.filter (memB M)) P with
  | none =>
    have hpot := hpn (by rw [hw]; rfl)
    clear hpn hps hwb
    rw [winP_none hw] at c6
    rw [hpot]
    generalize L.filter (memB M) = F at *
    subst hfl
    have hzr := zone_ob (F ++ List.replicate (F.length - F.length) nobody)
    refine means_fn true 77 [.tmp 6, .tmp 7] Tryd.func13 rfl rfl rfl (by simp) (by decide) rfl fun X hX => ?_
    (repeat (first | refine awp_seq ?_ | refine awp_block ?_ | ((first | refine awp_runG [0, 1, 2, 5, 6, 7, 8, 9, 10, 11, 12, 13, 26, 38, 48, 64] hX ?_ | refine awp_drawnG [0, 1, 2, 5, 6, 7, 8, 9, 10, 11, 12, 13, 26, 38, 48, 64] hX mixed ?_ | refine awp_ret ?_ | refine awp_skip ?_ | refine awp_exit ?_); (simp [go_sem]; try (refine ⟨by kernel_rfl, ?_⟩)))))
    first | refine callK_intro (c1) rfl (by simp [go_sem]) rfl ?_ | refine callT_intro (c1) rfl (by simp [go_sem]) rfl ?_
    try (simp [go_sem]; try (refine ⟨by kernel_rfl, ?_⟩))
    (repeat (first | refine awp_seq ?_ | refine awp_block ?_ | ((first | refine awp_runG [0, 1, 2, 5, 6, 7, 8, 9, 10, 11, 12, 13, 26, 38, 48, 64] hX ?_ | refine awp_drawnG [0, 1, 2, 5, 6, 7, 8, 9, 10, 11, 12, 13, 26, 38, 48, 64] hX mixed ?_ | refine awp_ret ?_ | refine awp_skip ?_ | refine awp_exit ?_); (simp [go_sem]; try (refine ⟨by kernel_rfl, ?_⟩)))))
    first | refine callG_intro (fun hg => c2) rfl (by simp [go_sem]) rfl ?_ | refine callGT_intro (fun hg => c2) rfl (by simp [go_sem]) rfl ?_
    try (simp [go_sem]; try (refine ⟨by kernel_rfl, ?_⟩))
    first | refine callG_intro (fun hg => c3) rfl (by simp [go_sem]) rfl ?_ | refine callGT_intro (fun hg => c3) rfl (by simp [go_sem]) rfl ?_
    try (simp [go_sem]; try (refine ⟨by kernel_rfl, ?_⟩))
    (repeat (first | refine awp_seq ?_ | refine awp_block ?_ | ((first | refine awp_runG [0, 1, 2, 5, 6, 7, 8, 9, 10, 11, 12, 13, 26, 38, 48, 64] hX ?_ | refine awp_drawnG [0, 1, 2, 5, 6, 7, 8, 9, 10, 11, 12, 13, 26, 38, 48, 64] hX mixed ?_ | refine awp_ret ?_ | refine awp_skip ?_ | refine awp_exit ?_); (simp [go_sem]; try (refine ⟨by kernel_rfl, ?_⟩)))))
    refine awp_cond (b := false) (by simp [go_sem, hok.1, hok.2.1, hok.2.2]) (fun hb => by cases hb) (fun _ => ?_)
    (repeat (first | refine awp_seq ?_ | refine awp_block ?_ | ((first | refine awp_runG [0, 1, 2, 5, 6, 7, 8, 9, 10, 11, 12, 13, 26, 38, 48, 64] hX ?_ | refine awp_drawnG [0, 1, 2, 5, 6, 7, 8, 9, 10, 11, 12, 13, 26, 38, 48, 64] hX mixed ?_ | refine awp_ret ?_ | refine awp_skip ?_ | refine awp_exit ?_); (simp [go_sem]; try (refine ⟨by kernel_rfl, ?_⟩)))))
    first | refine callH_intro [] (c4) (by simp [go_sem]) ?_ | refine callTQ_intro [] (c4) (by simp [go_sem]) ?_ | refine callTE_intro [] (c4) (by simp [go_sem]) ?_
    try (simp [go_sem]; try (refine ⟨by kernel_rfl, ?_⟩))
    first | refine callH_intro [1, 0] (c5) (by simp [go_sem]) ?_ | refine callTQ_intro [1, 0] (c5) (by simp [go_sem]) ?_ | refine callTE_intro [1, 0] (c5) (by simp [go_sem]) ?_
    try (simp [go_sem]; try (refine ⟨by kernel_rfl, ?_⟩))
    (repeat (first | refine awp_seq ?_ | refine awp_block ?_ | ((first | refine awp_runG [0, 1, 2, 5, 6, 7, 8, 9, 10, 11, 12, 13, 26, 38, 48, 64] hX ?_ | refine awp_drawnG [0, 1, 2, 5, 6, 7, 8, 9, 10, 11, 12, 13, 26, 38, 48, 64] hX mixed ?_ | refine awp_ret ?_ | refine awp_skip ?_ | refine awp_exit ?_); (simp [go_sem]; try (refine ⟨by kernel_rfl, ?_⟩)))))
    refine callK_intro (c6) rfl (by simp [go_sem]) (by simp [go_sem, hzo, hzr]) ?_
    try (simp [go_sem]; try (refine ⟨by kernel_rfl, ?_⟩))
    (repeat (first | refine awp_seq ?_ | refine awp_block ?_ | ((first | refine awp_runG [0, 1, 2, 5, 6, 7, 8, 9, 10, 11, 12, 13, 26, 38, 48, 64] hX ?_ | refine awp_drawnG [0, 1, 2, 5, 6, 7, 8, 9, 10, 11, 12, 13, 26, 38, 48, 64] hX mixed ?_ | refine awp_ret ?_ | refine awp_skip ?_ | refine awp_exit ?_); (simp [go_sem]; try (refine ⟨by kernel_rfl, ?_⟩)))))
    refine awp_cond (b := true) (by simp [go_sem]) (fun _ => ?_) (fun hb => by cases hb)
    (repeat (first | refine awp_seq ?_ | refine awp_block ?_ | ((first | refine awp_runG [0, 1, 2, 5, 6, 7, 8, 9, 10, 11, 12, 13, 26, 38, 48, 64] hX ?_ | refine awp_drawnG [0, 1, 2, 5, 6, 7, 8, 9, 10, 11, 12, 13, 26, 38, 48, 64] hX mixed ?_ | refine awp_ret ?_ | refine awp_skip ?_ | refine awp_exit ?_); (simp [go_sem]; try (refine ⟨by kernel_rfl, ?_⟩)))))
  | some w =>
    obtain ⟨hwl, hwc, _⟩ := wins_some.1 hw
    have hget : (Option.bind (some w) fun w => (L.filter (memB M))[w]?) = some (L.filter (memB M))[w] := by simp only [Option.bind_some, List.getElem?_eq_getElem hwl]
    have hpot := hps _ (by rw [hw]; exact hget)
    rw [winP_some hw] at c6
    obtain ⟨hbL, hbM, hbc⟩ := hwb _ (by rw [hw]; exact hget)
    clear hpn hps hwb hget
    have hq := nth_ob hwl
    have hwr : nth ((L.filter (memB M) ++ List.replicate (L.length - (L.filter (memB M)).length) nobody).map ob) w = ob (L.filter (memB M))[w] := by
      rw [nth_ob (by simp; omega), List.getElem_append_left hwl]
    obtain ⟨b, hb⟩ : ∃ b, (L.filter (memB M))[w] = b := ⟨_, rfl⟩
    rw [hb] at hpot hbL hbM hbc hq hwr
    have hbn : 0 ≤ b.n ∧ b.n ≤ P := by
      have h1 := ((okL_iff L).1 hok.1).1 b hbL
      simp only [cntB, Bool.and_eq_true, decide_eq_true_eq] at hbc
      simp only [okB, Bool.and_eq_true, hbc.1, if_true, coinB, decide_eq_true_eq] at h1
      omega
    obtain ⟨hat, _⟩ := atI_lt hbM
    have c7 := index_m M hM b.w
    have haz : atZ M b.w = (atI M b.w : Nat) := by unfold atZ; rw [if_pos hat]
    rw [haz] at c7
    have c8 : M.length ≠ 1 → _ := fun h1 => even_h b.n (M.length - 1) (by simp [isAm]; omega) ⟨by omega, by omega⟩
    have c9 : M.length ≠ 1 → _ := fun h1 => insert_h (evens b.n (M.length - 1)) (P - b.n) (atI M b.w) (by rw [evens_len]; omega) (by rw [evens_len]; omega) (by intro h; have := evens_len b.n (M.length - 1); rw [h] at this; simp at this; omega)
    have hsub := w64 (x := P - b.n) (by omega) (by omega)
    have hm1 := w64 (x := (M.length : Int) - 1) (by omega) (by omega)
    have hmn : (M.length : Int) - 1 = ((M.length - 1 : Nat) : Int) := by have := hMs.2.2.1; omega
    have hm2 := w64 (x := ((M.length - 1 : Nat) : Int)) (by omega) (by omega)
    have hone : decide (M.length = 1) = decide ((M.length : Int) = 1) := by simp; omega
    rw [hpot]
    clear hb hwc hpot hMs
    generalize L.filter (memB M) = F at *
    subst hfl
    generalize evens b.n (M.length - 1) = A at *
    generalize atI M b.w = t at *
    have hzr := zone_ob (F ++ List.replicate (F.length - F.length) nobody)
    have hwr2 := hwr
    simp only [List.map_append, List.map_replicate] at hwr2
    have hwl2 : w < F.length + (F.length - F.length) := by omega
    refine means_fn true 77 [.tmp 6, .tmp 7] Tryd.func13 rfl rfl rfl (by simp) (by decide) rfl fun X hX => ?_
    (repeat (first | refine awp_seq ?_ | refine awp_block ?_ | ((first | refine awp_runG [0, 1, 2, 5, 6, 7, 8, 9, 10, 11, 12, 13, 26, 38, 48, 64] hX ?_ | refine awp_drawnG [0, 1, 2, 5, 6, 7, 8, 9, 10, 11, 12, 13, 26, 38, 48, 64] hX mixed ?_ | refine awp_ret ?_ | refine awp_skip ?_ | refine awp_exit ?_); (simp [go_sem]; try (refine ⟨by kernel_rfl, ?_⟩)))))
    first | refine callK_intro (c1) rfl (by simp [go_sem]) rfl ?_ | refine callT_intro (c1) rfl (by simp [go_sem]) rfl ?_
    try (simp [go_sem]; try (refine ⟨by kernel_rfl, ?_⟩))
    (repeat (first | refine awp_seq ?_ | refine awp_block ?_ | ((first | refine awp_runG [0, 1, 2, 5, 6, 7, 8, 9, 10, 11, 12, 13, 26, 38, 48, 64] hX ?_ | refine awp_drawnG [0, 1, 2, 5, 6, 7, 8, 9, 10, 11, 12, 13, 26, 38, 48, 64] hX mixed ?_ | refine awp_ret ?_ | refine awp_skip ?_ | refine awp_exit ?_); (simp [go_sem]; try (refine ⟨by kernel_rfl, ?_⟩)))))
    first | refine callG_intro (fun hg => c2) rfl (by simp [go_sem]) rfl ?_ | refine callGT_intro (fun hg => c2) rfl (by simp [go_sem]) rfl ?_
    try (simp [go_sem]; try (refine ⟨by kernel_rfl, ?_⟩))
    first | refine callG_intro (fun hg => c3) rfl (by simp [go_sem]) rfl ?_ | refine callGT_intro (fun hg => c3) rfl (by simp [go_sem]) rfl ?_
    try (simp [go_sem]; try (refine ⟨by kernel_rfl, ?_⟩))
    (repeat (first | refine awp_seq ?_ | refine awp_block ?_ | ((first | refine awp_runG [0, 1, 2, 5, 6, 7, 8, 9, 10, 11, 12, 13, 26, 38, 48, 64] hX ?_ | refine awp_drawnG [0, 1, 2, 5, 6, 7, 8, 9, 10, 11, 12, 13, 26, 38, 48, 64] hX mixed ?_ | refine awp_ret ?_ | refine awp_skip ?_ | refine awp_exit ?_); (simp [go_sem]; try (refine ⟨by kernel_rfl, ?_⟩)))))
    refine awp_cond (b := false) (by simp [go_sem, hok.1, hok.2.1, hok.2.2]) (fun hb => by cases hb) (fun _ => ?_)
    (repeat (first | refine awp_seq ?_ | refine awp_block ?_ | ((first | refine awp_runG [0, 1, 2, 5, 6, 7, 8, 9, 10, 11, 12, 13, 26, 38, 48, 64] hX ?_ | refine awp_drawnG [0, 1, 2, 5, 6, 7, 8, 9, 10, 11, 12, 13, 26, 38, 48, 64] hX mixed ?_ | refine awp_ret ?_ | refine awp_skip ?_ | refine awp_exit ?_); (simp [go_sem]; try (refine ⟨by kernel_rfl, ?_⟩)))))
    first | refine callH_intro [] (c4) (by simp [go_sem]) ?_ | refine callTQ_intro [] (c4) (by simp [go_sem]) ?_ | refine callTE_intro [] (c4) (by simp [go_sem]) ?_
    try (simp [go_sem]; try (refine ⟨by kernel_rfl, ?_⟩))
    first | refine callH_intro [1, 0] (c5) (by simp [go_sem]) ?_ | refine callTQ_intro [1, 0] (c5) (by simp [go_sem]) ?_ | refine callTE_intro [1, 0] (c5) (by simp [go_sem]) ?_
    try (simp [go_sem]; try (refine ⟨by kernel_rfl, ?_⟩))
    (repeat (first | refine awp_seq ?_ | refine awp_block ?_ | ((first | refine awp_runG [0, 1, 2, 5, 6, 7, 8, 9, 10, 11, 12, 13, 26, 38, 48, 64] hX ?_ | refine awp_drawnG [0, 1, 2, 5, 6, 7, 8, 9, 10, 11, 12, 13, 26, 38, 48, 64] hX mixed ?_ | refine awp_ret ?_ | refine awp_skip ?_ | refine awp_exit ?_); (simp [go_sem]; try (refine ⟨by kernel_rfl, ?_⟩)))))
    refine callK_intro (c6) rfl (by simp [go_sem]) (by simp [go_sem, hzo, hzr]) ?_
    try (simp [go_sem]; try (refine ⟨by kernel_rfl, ?_⟩))
    (repeat (first | refine awp_seq ?_ | refine awp_block ?_ | ((first | refine awp_runG [0, 1, 2, 5, 6, 7, 8, 9, 10, 11, 12, 13, 26, 38, 48, 64] hX ?_ | refine awp_drawnG [0, 1, 2, 5, 6, 7, 8, 9, 10, 11, 12, 13, 26, 38, 48, 64] hX mixed ?_ | refine awp_ret ?_ | refine awp_skip ?_ | refine awp_exit ?_); (simp [go_sem]; try (refine ⟨by kernel_rfl, ?_⟩)))))
    refine awp_cond (b := false) (by simp [go_sem]) (fun hb => by cases hb) (fun _ => ?_)
    (repeat (first | refine awp_seq ?_ | refine awp_block ?_ | ((first | refine awp_runG [0, 1, 2, 5, 6, 7, 8, 9, 10, 11, 12, 13, 26, 38, 48, 64] hX ?_ | refine awp_drawnG [0, 1, 2, 5, 6, 7, 8, 9, 10, 11, 12, 13, 26, 38, 48, 64] hX mixed ?_ | refine awp_ret ?_ | refine awp_skip ?_ | refine awp_exit ?_); (simp [go_sem, hwl, hwl2, hq, hwr2]; try (refine ⟨by kernel_rfl, ?_⟩)))))
    first | refine callK_intro (c7) rfl (by simp [go_sem]) rfl ?_ | refine callT_intro (c7) rfl (by simp [go_sem]) rfl ?_
    try (simp [go_sem, hwl, hwl2, hq, hwr2]; try (refine ⟨by kernel_rfl, ?_⟩))
    (repeat (first | refine awp_seq ?_ | refine awp_block ?_ | ((first | refine awp_runG [0, 1, 2, 5, 6, 7, 8, 9, 10, 11, 12, 13, 26, 38, 48, 64] hX ?_ | refine awp_drawnG [0, 1, 2, 5, 6, 7, 8, 9, 10, 11, 12, 13, 26, 38, 48, 64] hX mixed ?_ | refine awp_ret ?_ | refine awp_skip ?_ | refine awp_exit ?_); (simp [go_sem]; try (refine ⟨by kernel_rfl, ?_⟩)))))
    refine awp_cond (b := decide (M.length = 1)) (by simp [go_sem]; try omega) (fun h1 => ?_) (fun h1 => ?_)
    · simp only [decide_eq_true_eq] at h1
      rw [if_pos h1]
      (repeat (first | refine awp_seq ?_ | refine awp_block ?_ | ((first | refine awp_runG [0, 1, 2, 5, 6, 7, 8, 9, 10, 11, 12, 13, 26, 38, 48, 64] hX ?_ | refine awp_drawnG [0, 1, 2, 5, 6, 7, 8, 9, 10, 11, 12, 13, 26, 38, 48, 64] hX mixed ?_ | refine awp_ret ?_ | refine awp_skip ?_ | refine awp_exit ?_); (simp [go_sem]; try (refine ⟨by kernel_rfl, ?_⟩)))))
    · simp only [decide_eq_false_iff_not] at h1
      rw [if_neg h1]
      have c8 := c8 h1
      have c9 := c9 h1
      (repeat (first | refine awp_seq ?_ | refine awp_block ?_ | ((first | refine awp_runG [0, 1, 2, 5, 6, 7, 8, 9, 10, 11, 12, 13, 26, 38, 48, 64] hX ?_ | refine awp_drawnG [0, 1, 2, 5, 6, 7, 8, 9, 10, 11, 12, 13, 26, 38, 48, 64] hX mixed ?_ | refine awp_ret ?_ | refine awp_skip ?_ | refine awp_exit ?_); (simp [go_sem, hwl, hwl2, hq, hwr2, hm1, hmn, hm2]; try (refine ⟨by kernel_rfl, ?_⟩)))))
      first | refine callH_intro [] (c8) (by simp [go_sem]) ?_ | refine callTQ_intro [] (c8) (by simp [go_sem]) ?_ | refine callTE_intro [] (c8) (by simp [go_sem]) ?_
      try (simp [go_sem]; try (refine ⟨by kernel_rfl, ?_⟩))
      (repeat (first | refine awp_seq ?_ | refine awp_block ?_ | ((first | refine awp_runG [0, 1, 2, 5, 6, 7, 8, 9, 10, 11, 12, 13, 26, 38, 48, 64] hX ?_ | refine awp_drawnG [0, 1, 2, 5, 6, 7, 8, 9, 10, 11, 12, 13, 26, 38, 48, 64] hX mixed ?_ | refine awp_ret ?_ | refine awp_skip ?_ | refine awp_exit ?_); (simp [go_sem]; try (refine ⟨by kernel_rfl, ?_⟩)))))
      refine awp_cond (b := false) (by simp [go_sem]) (fun hb => by cases hb) (fun _ => ?_)
      (repeat (first | refine awp_seq ?_ | refine awp_block ?_ | ((first | refine awp_runG [0, 1, 2, 5, 6, 7, 8, 9, 10, 11, 12, 13, 26, 38, 48, 64] hX ?_ | refine awp_drawnG [0, 1, 2, 5, 6, 7, 8, 9, 10, 11, 12, 13, 26, 38, 48, 64] hX mixed ?_ | refine awp_ret ?_ | refine awp_skip ?_ | refine awp_exit ?_); (simp [go_sem, hwl, hwl2, hq, hwr2, hsub]; try (refine ⟨by kernel_rfl, ?_⟩)))))
      first | refine callH_intro [2, 3] (c9) (by simp [go_sem]) ?_ | refine callTQ_intro [2, 3] (c9) (by simp [go_sem]) ?_ | refine callTE_intro [2, 3] (c9) (by simp [go_sem]) ?_
      try (simp [go_sem]; try (refine ⟨by kernel_rfl, ?_⟩))
      (repeat (first | refine awp_seq ?_ | refine awp_block ?_ | ((first | refine awp_runG [0, 1, 2, 5, 6, 7, 8, 9, 10, 11, 12, 13, 26, 38, 48, 64] hX ?_ | refine awp_drawnG [0, 1, 2, 5, 6, 7, 8, 9, 10, 11, 12, 13, 26, 38, 48, 64] hX mixed ?_ | refine awp_ret ?_ | refine awp_skip ?_ | refine awp_exit ?_); (simp [go_sem]; try (refine ⟨by kernel_rfl, ?_⟩)))))
set_option maxHeartbeats 16000000 in
set_option maxRecDepth 20000 in
theorem sharesS_m (L : List Bd) (P : Int) (M : List Int) (hl : L.length ≤ 1000) (hM : M.length ≤ 9223372036854775807) (hok : okL L = true ∧ coinB P = true ∧ okMb M = true) (f : Nat) (hf : f < L.length) (hn : ∀ x ∈ L.take f, memB M x = true) (hb0 : memB M L[f] = false) :
    Means true Tryd.prog 13 [bl L, ii P, il M] (.tup [il (potS L P M).1, ii (potS L P M).2]) := by
  have c1 := rightL_m L (by omega)
  have c2 := coins_m P
  have c3 := different_m M hM
  have c4 := clone_h L (by omega)
  have hMs := (okMb_iff M).1 hok.2.2
  have hPr : 0 ≤ P ∧ P ≤ 1099511627776 := by have := hok.2.1; simp [coinB] at this; omega
  have c5 := deleteS_m L M (by omega) (by have := hMs.2.2.2; omega) hf hn hb0
  have hol : (L.filter (memB M)).length ≤ L.length := List.length_filter_le _ _
  have c6 := winner_m (L.filter (memB M)) P (by omega)
  have hzo := zone_ob (L.filter (memB M))
  have hpn := @potS_none L P M hok
  have hps := fun b => @potS_some L P M b hok
  have hwb := fun b => @winB_some L P M b
  unfold winB at hpn hps hwb
  cases hw : wins (L.filter (memB M)) P with
  | none =>
    have hpot := hpn (by rw [hw]; rfl)
    clear hpn hps hwb
    rw [winP_none hw] at c6
    rw [hpot]
    generalize L.filter (memB M) = F at *
    have hzr := zone_ob (F ++ List.replicate (L.length - F.length) nobody)
    refine means_fn true 77 [.tmp 6, .tmp 7] Tryd.func13 rfl rfl rfl (by simp) (by decide) rfl fun X hX => ?_
    (repeat (first | refine awp_seq ?_ | refine awp_block ?_ | ((first | refine awp_runG [0, 1, 2, 5, 6, 7, 8, 9, 10, 11, 12, 13, 26, 38, 48, 64] hX ?_ | refine awp_drawnG [0, 1, 2, 5, 6, 7, 8, 9, 10, 11, 12, 13, 26, 38, 48, 64] hX mixed ?_ | refine awp_ret ?_ | refine awp_skip ?_ | refine awp_exit ?_); (simp [go_sem]; try (refine ⟨by kernel_rfl, ?_⟩)))))
    first | refine callK_intro (c1) rfl (by simp [go_sem]) rfl ?_ | refine callT_intro (c1) rfl (by simp [go_sem]) rfl ?_
    try (simp [go_sem]; try (refine ⟨by kernel_rfl, ?_⟩))
    (repeat (first | refine awp_seq ?_ | refine awp_block ?_ | ((first | refine awp_runG [0, 1, 2, 5, 6, 7, 8, 9, 10, 11, 12, 13, 26, 38, 48, 64] hX ?_ | refine awp_drawnG [0, 1, 2, 5, 6, 7, 8, 9, 10, 11, 12, 13, 26, 38, 48, 64] hX mixed ?_ | refine awp_ret ?_ | refine awp_skip ?_ | refine awp_exit ?_); (simp [go_sem]; try (refine ⟨by kernel_rfl, ?_⟩)))))
    first | refine callG_intro (fun hg => c2) rfl (by simp [go_sem]) rfl ?_ | refine callGT_intro (fun hg => c2) rfl (by simp [go_sem]) rfl ?_
    try (simp [go_sem]; try (refine ⟨by kernel_rfl, ?_⟩))
    first | refine callG_intro (fun hg => c3) rfl (by simp [go_sem]) rfl ?_ | refine callGT_intro (fun hg => c3) rfl (by simp [go_sem]) rfl ?_
    try (simp [go_sem]; try (refine ⟨by kernel_rfl, ?_⟩))
    (repeat (first | refine awp_seq ?_ | refine awp_block ?_ | ((first | refine awp_runG [0, 1, 2, 5, 6, 7, 8, 9, 10, 11, 12, 13, 26, 38, 48, 64] hX ?_ | refine awp_drawnG [0, 1, 2, 5, 6, 7, 8, 9, 10, 11, 12, 13, 26, 38, 48, 64] hX mixed ?_ | refine awp_ret ?_ | refine awp_skip ?_ | refine awp_exit ?_); (simp [go_sem]; try (refine ⟨by kernel_rfl, ?_⟩)))))
    refine awp_cond (b := false) (by simp [go_sem, hok.1, hok.2.1, hok.2.2]) (fun hb => by cases hb) (fun _ => ?_)
    (repeat (first | refine awp_seq ?_ | refine awp_block ?_ | ((first | refine awp_runG [0, 1, 2, 5, 6, 7, 8, 9, 10, 11, 12, 13, 26, 38, 48, 64] hX ?_ | refine awp_drawnG [0, 1, 2, 5, 6, 7, 8, 9, 10, 11, 12, 13, 26, 38, 48, 64] hX mixed ?_ | refine awp_ret ?_ | refine awp_skip ?_ | refine awp_exit ?_); (simp [go_sem]; try (refine ⟨by kernel_rfl, ?_⟩)))))
    first | refine callH_intro [] (c4) (by simp [go_sem]) ?_ | refine callTQ_intro [] (c4) (by simp [go_sem]) ?_ | refine callTE_intro [] (c4) (by simp [go_sem]) ?_
    try (simp [go_sem]; try (refine ⟨by kernel_rfl, ?_⟩))
    first | refine callH_intro [1, 0] (c5) (by simp [go_sem]) ?_ | refine callTQ_intro [1, 0] (c5) (by simp [go_sem]) ?_ | refine callTE_intro [1, 0] (c5) (by simp [go_sem]) ?_
    try (simp [go_sem]; try (refine ⟨by kernel_rfl, ?_⟩))
    (repeat (first | refine awp_seq ?_ | refine awp_block ?_ | ((first | refine awp_runG [0, 1, 2, 5, 6, 7, 8, 9, 10, 11, 12, 13, 26, 38, 48, 64] hX ?_ | refine awp_drawnG [0, 1, 2, 5, 6, 7, 8, 9, 10, 11, 12, 13, 26, 38, 48, 64] hX mixed ?_ | refine awp_ret ?_ | refine awp_skip ?_ | refine awp_exit ?_); (simp [go_sem]; try (refine ⟨by kernel_rfl, ?_⟩)))))
    refine callK_intro (c6) rfl (by simp [go_sem]) (by simp [go_sem, hzo, hzr]) ?_
    try (simp [go_sem]; try (refine ⟨by kernel_rfl, ?_⟩))
    (repeat (first | refine awp_seq ?_ | refine awp_block ?_ | ((first | refine awp_runG [0, 1, 2, 5, 6, 7, 8, 9, 10, 11, 12, 13, 26, 38, 48, 64] hX ?_ | refine awp_drawnG [0, 1, 2, 5, 6, 7, 8, 9, 10, 11, 12, 13, 26, 38, 48, 64] hX mixed ?_ | refine awp_ret ?_ | refine awp_skip ?_ | refine awp_exit ?_); (simp [go_sem]; try (refine ⟨by kernel_rfl, ?_⟩)))))
    refine awp_cond (b := true) (by simp [go_sem]) (fun _ => ?_) (fun hb => by cases hb)
    (repeat (first | refine awp_seq ?_ | refine awp_block ?_ | ((first | refine awp_runG [0, 1, 2, 5, 6, 7, 8, 9, 10, 11, 12, 13, 26, 38, 48, 64] hX ?_ | refine awp_drawnG [0, 1, 2, 5, 6, 7, 8, 9, 10, 11, 12, 13, 26, 38, 48, 64] hX mixed ?_ | refine awp_ret ?_ | refine awp_skip ?_ | refine awp_exit ?_); (simp [go_sem]; try (refine ⟨by kernel_rfl, ?_⟩)))))
  | some w =>
    obtain ⟨hwl, hwc, _⟩ := wins_some.1 hw
    have hget : (Option.bind (some w) fun w => (L.filter (memB M))[w]?) = some (L.filter (memB M))[w] := by simp only [Option.bind_some, List.getElem?_eq_getElem hwl]
    have hpot := hps _ (by rw [hw]; exact hget)
    rw [winP_some hw] at c6
    obtain ⟨hbL, hbM, hbc⟩ := hwb _ (by rw [hw]; exact hget)
    clear hpn hps hwb hget
    have hq := nth_ob hwl
    have hwr : nth ((L.filter (memB M) ++ List.replicate (L.length - (L.filter (memB M)).length) nobody).map ob) w = ob (L.filter (memB M))[w] := by
      rw [nth_ob (by simp; omega), List.getElem_append_left hwl]
    obtain ⟨b, hb⟩ : ∃ b, (L.filter (memB M))[w] = b := ⟨_, rfl⟩
    rw [hb] at hpot hbL hbM hbc hq hwr
    have hbn : 0 ≤ b.n ∧ b.n ≤ P := by
      have h1 := ((okL_iff L).1 hok.1).1 b hbL
      simp only [cntB, Bool.and_eq_true, decide_eq_true_eq] at hbc
      simp only [okB, Bool.and_eq_true, hbc.1, if_true, coinB, decide_eq_true_eq] at h1
      omega
    obtain ⟨hat, _⟩ := atI_lt hbM
    have c7 := index_m M hM b.w
    have haz : atZ M b.w = (atI M b.w : Nat) := by unfold atZ; rw [if_pos hat]
    rw [haz] at c7
    have c8 : M.length ≠ 1 → _ := fun h1 => even_h b.n (M.length - 1) (by simp [isAm]; omega) ⟨by omega, by omega⟩
    have c9 : M.length ≠ 1 → _ := fun h1 => insert_h (evens b.n (M.length - 1)) (P - b.n) (atI M b.w) (by rw [evens_len]; omega) (by rw [evens_len]; omega) (by intro h; have := evens_len b.n (M.length - 1); rw [h] at this; simp at this; omega)
    have hsub := w64 (x := P - b.n) (by omega) (by omega)
    have hm1 := w64 (x := (M.length : Int) - 1) (by omega) (by omega)
    have hmn : (M.length : Int) - 1 = ((M.length - 1 : Nat) : Int) := by have := hMs.2.2.1; omega
    have hm2 := w64 (x := ((M.length - 1 : Nat) : Int)) (by omega) (by omega)
    have hone : decide (M.length = 1) = decide ((M.length : Int) = 1) := by simp; omega
    rw [hpot]
    clear hb hwc hpot hMs
    generalize L.filter (memB M) = F at *
    generalize evens b.n (M.length - 1) = A at *
    generalize atI M b.w = t at *
    have hzr := zone_ob (F ++ List.replicate (L.length - F.length) nobody)
    have hwr2 := hwr
    simp only [List.map_append, List.map_replicate] at hwr2
    have hwl2 : w < F.length + (L.length - F.length) := by omega
    refine means_fn true 77 [.tmp 6, .tmp 7] Tryd.func13 rfl rfl rfl (by simp) (by decide) rfl fun X hX => ?_
    (repeat (first | refine awp_seq ?_ | refine awp_block ?_ | ((first | refine awp_runG [0, 1, 2, 5, 6, 7, 8, 9, 10, 11, 12, 13, 26, 38, 48, 64] hX ?_ | refine awp_drawnG [0, 1, 2, 5, 6, 7, 8, 9, 10, 11, 12, 13, 26, 38, 48, 64] hX mixed ?_ | refine awp_ret ?_ | refine awp_skip ?_ | refine awp_exit ?_); (simp [go_sem]; try (refine ⟨by kernel_rfl, ?_⟩)))))
    first | refine callK_intro (c1) rfl (by simp [go_sem]) rfl ?_ | refine callT_intro (c1) rfl (by simp [go_sem]) rfl ?_
    try (simp [go_sem]; try (refine ⟨by kernel_rfl, ?_⟩))
    (repeat (first | refine awp_seq ?_ | refine awp_block ?_ | ((first | refine awp_runG [0, 1, 2, 5, 6, 7, 8, 9, 10, 11, 12, 13, 26, 38, 48, 64] hX ?_ | refine awp_drawnG [0, 1, 2, 5, 6, 7, 8, 9, 10, 11, 12, 13, 26, 38, 48, 64] hX mixed ?_ | refine awp_ret ?_ | refine awp_skip ?_ | refine awp_exit ?_); (simp [go_sem]; try (refine ⟨by kernel_rfl, ?_⟩)))))
    first | refine callG_intro (fun hg => c2) rfl (by simp [go_sem]) rfl ?_ | refine callGT_intro (fun hg => c2) rfl (by simp [go_sem]) rfl ?_
    try (simp [go_sem]; try (refine ⟨by kernel_rfl, ?_⟩))
    first | refine callG_intro (fun hg => c3) rfl (by simp [go_sem]) rfl ?_ | refine callGT_intro (fun hg => c3) rfl (by simp [go_sem]) rfl ?_
    try (simp [go_sem]; try (refine ⟨by kernel_rfl, ?_⟩))
    (repeat (first | refine awp_seq ?_ | refine awp_block ?_ | ((first | refine awp_runG [0, 1, 2, 5, 6, 7, 8, 9, 10, 11, 12, 13, 26, 38, 48, 64] hX ?_ | refine awp_drawnG [0, 1, 2, 5, 6, 7, 8, 9, 10, 11, 12, 13, 26, 38, 48, 64] hX mixed ?_ | refine awp_ret ?_ | refine awp_skip ?_ | refine awp_exit ?_); (simp [go_sem]; try (refine ⟨by kernel_rfl, ?_⟩)))))
    refine awp_cond (b := false) (by simp [go_sem, hok.1, hok.2.1, hok.2.2]) (fun hb => by cases hb) (fun _ => ?_)
    (repeat (first | refine awp_seq ?_ | refine awp_block ?_ | ((first | refine awp_runG [0, 1, 2, 5, 6, 7, 8, 9, 10, 11, 12, 13, 26, 38, 48, 64] hX ?_ | refine awp_drawnG [0, 1, 2, 5, 6, 7, 8, 9, 10, 11, 12, 13, 26, 38, 48, 64] hX mixed ?_ | refine awp_ret ?_ | refine awp_skip ?_ | refine awp_exit ?_); (simp [go_sem]; try (refine ⟨by kernel_rfl, ?_⟩)))))
    first | refine callH_intro [] (c4) (by simp [go_sem]) ?_ | refine callTQ_intro [] (c4) (by simp [go_sem]) ?_ | refine callTE_intro [] (c4) (by simp [go_sem]) ?_
    try (simp [go_sem]; try (refine ⟨by kernel_rfl, ?_⟩))
    first | refine callH_intro [1, 0] (c5) (by simp [go_sem]) ?_ | refine callTQ_intro [1, 0] (c5) (by simp [go_sem]) ?_ | refine callTE_intro [1, 0] (c5) (by simp [go_sem]) ?_
    try (simp [go_sem]; try (refine ⟨by kernel_rfl, ?_⟩))
    (repeat (first | refine awp_seq ?_ | refine awp_block ?_ | ((first | refine awp_runG [0, 1, 2, 5, 6, 7, 8, 9, 10, 11, 12, 13, 26, 38, 48, 64] hX ?_ | refine awp_drawnG [0, 1, 2, 5, 6, 7, 8, 9, 10, 11, 12, 13, 26, 38, 48, 64] hX mixed ?_ | refine awp_ret ?_ | refine awp_skip ?_ | refine awp_exit ?_); (simp [go_sem]; try (refine ⟨by kernel_rfl, ?_⟩)))))
    refine callK_intro (c6) rfl (by simp [go_sem]) (by simp [go_sem, hzo, hzr]) ?_
    try (simp [go_sem]; try (refine ⟨by kernel_rfl, ?_⟩))
    (repeat (first | refine awp_seq ?_ | refine awp_block ?_ | ((first | refine awp_runG [0, 1, 2, 5, 6, 7, 8, 9, 10, 11, 12, 13, 26, 38, 48, 64] hX ?_ | refine awp_drawnG [0, 1, 2, 5, 6, 7, 8, 9, 10, 11, 12, 13, 26, 38, 48, 64] hX mixed ?_ | refine awp_ret ?_ | refine awp_skip ?_ | refine awp_exit ?_); (simp [go_sem]; try (refine ⟨by kernel_rfl, ?_⟩)))))
    refine awp_cond (b := false) (by simp [go_sem]) (fun hb => by cases hb) (fun _ => ?_)
    (repeat (first | refine awp_seq ?_ | refine awp_block ?_ | ((first | refine awp_runG [0, 1, 2, 5, 6, 7, 8, 9, 10, 11, 12, 13, 26, 38, 48, 64] hX ?_ | refine awp_drawnG [0, 1, 2, 5, 6, 7, 8, 9, 10, 11, 12, 13, 26, 38, 48, 64] hX mixed ?_ | refine awp_ret ?_ | refine awp_skip ?_ | refine awp_exit ?_); (simp [go_sem, hwl, hwl2, hq, hwr2]; try (refine ⟨by kernel_rfl, ?_⟩)))))
    first | refine callK_intro (c7) rfl (by simp [go_sem]) rfl ?_ | refine callT_intro (c7) rfl (by simp [go_sem]) rfl ?_
    try (simp [go_sem, hwl, hwl2, hq, hwr2]; try (refine ⟨by kernel_rfl, ?_⟩))
    (repeat (first | refine awp_seq ?_ | refine awp_block ?_ | ((first | refine awp_runG [0, 1, 2, 5, 6, 7, 8, 9, 10, 11, 12, 13, 26, 38, 48, 64] hX ?_ | refine awp_drawnG [0, 1, 2, 5, 6, 7, 8, 9, 10, 11, 12, 13, 26, 38, 48, 64] hX mixed ?_ | refine awp_ret ?_ | refine awp_skip ?_ | refine awp_exit ?_); (simp [go_sem]; try (refine ⟨by kernel_rfl, ?_⟩)))))
    refine awp_cond (b := decide (M.length = 1)) (by simp [go_sem]; try omega) (fun h1 => ?_) (fun h1 => ?_)
    · simp only [decide_eq_true_eq] at h1
      rw [if_pos h1]
      (repeat (first | refine awp_seq ?_ | refine awp_block ?_ | ((first | refine awp_runG [0, 1, 2, 5, 6, 7, 8, 9, 10, 11, 12, 13, 26, 38, 48, 64] hX ?_ | refine awp_drawnG [0, 1, 2, 5, 6, 7, 8, 9, 10, 11, 12, 13, 26, 38, 48, 64] hX mixed ?_ | refine awp_ret ?_ | refine awp_skip ?_ | refine awp_exit ?_); (simp [go_sem]; try (refine ⟨by kernel_rfl, ?_⟩)))))
    · simp only [decide_eq_false_iff_not] at h1
      rw [if_neg h1]
      have c8 := c8 h1
      have c9 := c9 h1
      (repeat (first | refine awp_seq ?_ | refine awp_block ?_ | ((first | refine awp_runG [0, 1, 2, 5, 6, 7, 8, 9, 10, 11, 12, 13, 26, 38, 48, 64] hX ?_ | refine awp_drawnG [0, 1, 2, 5, 6, 7, 8, 9, 10, 11, 12, 13, 26, 38, 48, 64] hX mixed ?_ | refine awp_ret ?_ | refine awp_skip ?_ | refine awp_exit ?_); (simp [go_sem, hwl, hwl2, hq, hwr2, hm1, hmn, hm2]; try (refine ⟨by kernel_rfl, ?_⟩)))))
      first | refine callH_intro [] (c8) (by simp [go_sem]) ?_ | refine callTQ_intro [] (c8) (by simp [go_sem]) ?_ | refine callTE_intro [] (c8) (by simp [go_sem]) ?_
      try (simp [go_sem]; try (refine ⟨by kernel_rfl, ?_⟩))
      (repeat (first | refine awp_seq ?_ | refine awp_block ?_ | ((first | refine awp_runG [0, 1, 2, 5, 6, 7, 8, 9, 10, 11, 12, 13, 26, 38, 48, 64] hX ?_ | refine awp_drawnG [0, 1, 2, 5, 6, 7, 8, 9, 10, 11, 12, 13, 26, 38, 48, 64] hX mixed ?_ | refine awp_ret ?_ | refine awp_skip ?_ | refine awp_exit ?_); (simp [go_sem]; try (refine ⟨by kernel_rfl, ?_⟩)))))
      refine awp_cond (b := false) (by simp [go_sem]) (fun hb => by cases hb) (fun _ => ?_)
      (repeat (first | refine awp_seq ?_ | refine awp_block ?_ | ((first | refine awp_runG [0, 1, 2, 5, 6, 7, 8, 9, 10, 11, 12, 13, 26, 38, 48, 64] hX ?_ | refine awp_drawnG [0, 1, 2, 5, 6, 7, 8, 9, 10, 11, 12, 13, 26, 38, 48, 64] hX mixed ?_ | refine awp_ret ?_ | refine awp_skip ?_ | refine awp_exit ?_); (simp [go_sem, hwl, hwl2, hq, hwr2, hsub]; try (refine ⟨by kernel_rfl, ?_⟩)))))
      first | refine callH_intro [2, 3] (c9) (by simp [go_sem]) ?_ | refine callTQ_intro [2, 3] (c9) (by simp [go_sem]) ?_ | refine callTE_intro [2, 3] (c9) (by simp [go_sem]) ?_
      try (simp [go_sem]; try (refine ⟨by kernel_rfl, ?_⟩))
      (repeat (first | refine awp_seq ?_ | refine awp_block ?_ | ((first | refine awp_runG [0, 1, 2, 5, 6, 7, 8, 9, 10, 11, 12, 13, 26, 38, 48, 64] hX ?_ | refine awp_drawnG [0, 1, 2, 5, 6, 7, 8, 9, 10, 11, 12, 13, 26, 38, 48, 64] hX mixed ?_ | refine awp_ret ?_ | refine awp_skip ?_ | refine awp_exit ?_); (simp [go_sem]; try (refine ⟨by kernel_rfl, ?_⟩)))))
theorem shares_m (L : List Bd) (P : Int) (M : List Int) (hl : L.length ≤ 1000) (hM : M.length ≤ 9223372036854775807) : Means true Tryd.prog 13 [bl L, ii P, il M] (.tup [il (potS L P M).1, ii (potS L P M).2]) := by
  by_cases hok : okL L = true ∧ coinB P = true ∧ okMb M = true
  · by_cases hn : ∀ x ∈ L, memB M x = true
    · exact sharesN_m L P M hl hM hok hn
    · have hlt : L.findIdx (fun b => !memB M b) < L.length := by
        rw [List.findIdx_lt_length]
        simp only [Classical.not_forall, Bool.not_eq_true] at hn
        obtain ⟨x, hx, h⟩ := hn
        exact ⟨x, hx, by rw [h]; rfl⟩
      refine sharesS_m L P M hl hM hok _ hlt (fun x hx => ?_) (by have := List.findIdx_getElem (p := fun b => !memB M b) (w := hlt); simpa using this)
      obtain ⟨j, hj, rfl⟩ := List.mem_take_iff_getElem.1 hx
      have := List.not_of_lt_findIdx (p := fun b => !memB M b) (show j < L.findIdx (fun b => !memB M b) by omega)
      simpa using this
  · have e : potS L P M = ([], 1) := by unfold potS; rw [if_neg hok]
    rw [e]
    have c1 := rightL_m L (by omega)
    have c2 := coins_m P
    have c3 := different_m M hM
    refine means_fn true 77 [.tmp 6, .tmp 7] Tryd.func13 rfl rfl rfl (by simp) (by decide) rfl fun X hX => ?_
    (repeat (first | refine awp_seq ?_ | refine awp_block ?_ | ((first | refine awp_runG [0, 1, 2, 5, 6, 7, 8, 9, 10, 11, 12, 13, 26, 38, 48, 64] hX ?_ | refine awp_drawnG [0, 1, 2, 5, 6, 7, 8, 9, 10, 11, 12, 13, 26, 38, 48, 64] hX mixed ?_ | refine awp_ret ?_ | refine awp_skip ?_ | refine awp_exit ?_); (simp [go_sem]; try (refine ⟨by kernel_rfl, ?_⟩)))))
    first | refine callK_intro (c1) rfl (by simp [go_sem]) rfl ?_ | refine callT_intro (c1) rfl (by simp [go_sem]) rfl ?_
    try (simp [go_sem]; try (refine ⟨by kernel_rfl, ?_⟩))
    (repeat (first | refine awp_seq ?_ | refine awp_block ?_ | ((first | refine awp_runG [0, 1, 2, 5, 6, 7, 8, 9, 10, 11, 12, 13, 26, 38, 48, 64] hX ?_ | refine awp_drawnG [0, 1, 2, 5, 6, 7, 8, 9, 10, 11, 12, 13, 26, 38, 48, 64] hX mixed ?_ | refine awp_ret ?_ | refine awp_skip ?_ | refine awp_exit ?_); (simp [go_sem]; try (refine ⟨by kernel_rfl, ?_⟩)))))
    first | refine callG_intro (fun hg => c2) rfl (by simp [go_sem]) rfl ?_ | refine callGT_intro (fun hg => c2) rfl (by simp [go_sem]) rfl ?_
    try (simp [go_sem]; try (refine ⟨by kernel_rfl, ?_⟩))
    first | refine callG_intro (fun hg => c3) rfl (by simp [go_sem]) rfl ?_ | refine callGT_intro (fun hg => c3) rfl (by simp [go_sem]) rfl ?_
    try (simp [go_sem]; try (refine ⟨by kernel_rfl, ?_⟩))
    (repeat (first | refine awp_seq ?_ | refine awp_block ?_ | ((first | refine awp_runG [0, 1, 2, 5, 6, 7, 8, 9, 10, 11, 12, 13, 26, 38, 48, 64] hX ?_ | refine awp_drawnG [0, 1, 2, 5, 6, 7, 8, 9, 10, 11, 12, 13, 26, 38, 48, 64] hX mixed ?_ | refine awp_ret ?_ | refine awp_skip ?_ | refine awp_exit ?_); (simp [go_sem]; try (refine ⟨by kernel_rfl, ?_⟩)))))
    refine awp_cond (b := true) (by
      simp [go_sem]
      cases h1 : okL L <;> cases h2 : coinB P <;> cases h3 : okMb M <;> simp_all) (fun _ => ?_) (fun hb => by cases hb)
    (repeat (first | refine awp_seq ?_ | refine awp_block ?_ | ((first | refine awp_runG [0, 1, 2, 5, 6, 7, 8, 9, 10, 11, 12, 13, 26, 38, 48, 64] hX ?_ | refine awp_drawnG [0, 1, 2, 5, 6, 7, 8, 9, 10, 11, 12, 13, 26, 38, 48, 64] hX mixed ?_ | refine awp_ret ?_ | refine awp_skip ?_ | refine awp_exit ?_); (simp [go_sem]; try (refine ⟨by kernel_rfl, ?_⟩)))))
end Go.Proofs.YtjgkjenbgadacaaDoor

namespace Go.Proofs
open Go.Shelf
def Tryd.laysM171_ren : Go.Shelf.Ren := ⟨fun | 171 => 76 | 243 => 83 | 246 => 85 | 283 => 86 | 284 => 87 | 285 => 88 | 286 => 89 | 129 => 91 | 317 => 90 | 318 => 92 | 319 => 93 | 320 => 94 | 337 => 95 | 338 => 96 | n => n, fun | 3 => 3 | 9 => 9 | 2 => 2 | 4 => 4 | 171 => 99 | 0 => 0 | 53 => 93 | 37 => 97 | 5 => 5 | 173 => 102 | 212 => 106 | 51 => 90 | 20 => 20 | 213 => 107 | 46 => 84 | 232 => 110 | 233 => 111 | n => n, fun | 17 => 0 | 18 => 1 | 19 => 2 | n => n⟩
theorem Tryd.laysM171 : Go.Proofs.LaysM.n171 Tryd.prog Tryd.laysM171_ren := {
  mixed := by kernel_rfl
  f129 := Tryd.func91.trans (congrArg some (by kernel_rfl))
  f171 := Tryd.func76.trans (congrArg some (by kernel_rfl))
  f243 := Tryd.func83.trans (congrArg some (by kernel_rfl))
  f246 := Tryd.func85.trans (congrArg some (by kernel_rfl))
  f283 := Tryd.func86.trans (congrArg some (by kernel_rfl))
  f284 := Tryd.func87.trans (congrArg some (by kernel_rfl))
  f285 := Tryd.func88.trans (congrArg some (by kernel_rfl))
  f286 := Tryd.func89.trans (congrArg some (by kernel_rfl))
  f317 := Tryd.func90.trans (congrArg some (by kernel_rfl))
  f318 := Tryd.func92.trans (congrArg some (by kernel_rfl))
  f319 := Tryd.func93.trans (congrArg some (by kernel_rfl))
  f320 := Tryd.func94.trans (congrArg some (by kernel_rfl))
  f337 := Tryd.func95.trans (congrArg some (by kernel_rfl))
  f338 := Tryd.func96.trans (congrArg some (by kernel_rfl))
  t0 := Tryd.underlying0
  a0 := Tryd.isAgg0
  z0 := Tryd.sizeOf0
  v0 := Tryd.zeroValue0
  t2 := Tryd.underlying2
  a2 := Tryd.isAgg2
  z2 := Tryd.sizeOf2
  v2 := Tryd.zeroValue2
  t3 := Tryd.underlying3
  a3 := Tryd.isAgg3
  z3 := Tryd.sizeOf3
  v3 := Tryd.zeroValue3
  t4 := Tryd.underlying4
  a4 := Tryd.isAgg4
  z4 := Tryd.sizeOf4
  v4 := Tryd.zeroValue4
  t5 := Tryd.underlying5
  a5 := Tryd.isAgg5
  z5 := Tryd.sizeOf5
  v5 := Tryd.zeroValue5
  t9 := Tryd.underlying9
  a9 := Tryd.isAgg9
  z9 := Tryd.sizeOf9
  v9 := Tryd.zeroValue9
  t20 := Tryd.underlying20
  a20 := Tryd.isAgg20
  z20 := Tryd.sizeOf20
  v20 := Tryd.zeroValue20
  t37 := Tryd.underlying97
  a37 := Tryd.isAgg97
  z37 := Tryd.sizeOf97
  v37 := Tryd.zeroValue97
  t46 := Tryd.underlying84
  a46 := Tryd.isAgg84
  z46 := Tryd.sizeOf84
  v46 := Tryd.zeroValue84
  t51 := Tryd.underlying90
  a51 := Tryd.isAgg90
  z51 := Tryd.sizeOf90
  v51 := Tryd.zeroValue90
  t53 := Tryd.underlying93
  a53 := Tryd.isAgg93
  z53 := Tryd.sizeOf93
  v53 := Tryd.zeroValue93
  t171 := Tryd.underlying99
  a171 := Tryd.isAgg99
  z171 := Tryd.sizeOf99
  v171 := Tryd.zeroValue99
  t173 := Tryd.underlying102
  a173 := Tryd.isAgg102
  z173 := Tryd.sizeOf102
  v173 := Tryd.zeroValue102
  t212 := Tryd.underlying106
  a212 := Tryd.isAgg106
  z212 := Tryd.sizeOf106
  v212 := Tryd.zeroValue106
  t213 := Tryd.underlying107
  a213 := Tryd.isAgg107
  z213 := Tryd.sizeOf107
  t232 := Tryd.underlying110
  a232 := Tryd.isAgg110
  z232 := Tryd.sizeOf110
  v232 := Tryd.zeroValue110
  t233 := Tryd.underlying111
  a233 := Tryd.isAgg111
  z233 := Tryd.sizeOf111
  v233 := Tryd.zeroValue111
  g17 := by kernel_rfl
  g18 := by kernel_rfl
  g19 := by kernel_rfl
  i0 := by kernel_rfl
  i2 := by kernel_rfl
  i3 := by kernel_rfl
  i4 := by kernel_rfl
  i5 := by kernel_rfl
  i9 := by kernel_rfl
  i20 := by kernel_rfl
  i37 := by kernel_rfl
  i46 := by kernel_rfl
  i51 := by kernel_rfl
  i53 := by kernel_rfl
  i171 := by kernel_rfl
  i173 := by kernel_rfl
  i212 := by kernel_rfl
  i232 := by kernel_rfl
  i233 := by kernel_rfl
  m17 := by kernel_rfl
  m18 := by kernel_rfl
  m19 := by kernel_rfl }
open Go.RowKit Go.Sort Go.Lib in
theorem Tryd.strconv_Itoa (n : Int) (h0 : -9223372036854775808 ≤ n) (h1 : n ≤ 9223372036854775807) (w : World) (htab : Lib.TabIs Tryd.prog w "internal/strconv.uint64pow10" .u64 Lib.pow10Tab) :
    Calls Tryd.prog 76 #[.int .i64 n] w fun e w' => e = .returned (.string ⟨(Lib.itoa n).toArray⟩) ∧ ∃ k os, w' = grow (w.drewN k) os := Any.strconv_Itoa Tryd.laysM171 n h0 h1 w htab
end Go.Proofs

namespace Go.Proofs.YtjgkjenbgadacaaDoor
open Go.RowKit Go.Ab
attribute [local irreducible] AWP Go.Ab.Sub Means MeansH CallK CallG CallT CallGT CallU
abbrev sb (l : List UInt8) : AV := .v (.string ⟨l.toArray⟩)
@[go_sem] theorem sb_app (a b : List UInt8) : ((⟨a.toArray⟩ : ByteArray) ++ ⟨b.toArray⟩) = ⟨(a ++ b).toArray⟩ := by
  apply ByteArray.ext; simp
@[go_sem] theorem sb_size (a : List UInt8) : (⟨a.toArray⟩ : ByteArray).size = a.length := by simp [ByteArray.size]
theorem pow10 {w : World} {M : Nat → Prop} (h : GlobW w M) : Lib.TabIs Tryd.prog w "internal/strconv.uint64pow10" .u64 Lib.pow10Tab := by
  have := glob_var h (P := Tryd.prog) (n := "internal/strconv.uint64pow10") (g := 0) (cs := Lib.pow10Tab.map fun z => Value.int .u64 z) (by kernel_rfl) (by rw [globs]; exact List.mem_cons.2 (.inl (by kernel_rfl)))
  exact this
theorem itoa_m (n : Int) (h0 : 0 ≤ n) (h1 : n ≤ 9223372036854775807) : Means true Tryd.prog 76 [ii n] (sb (Lib.decDigits n.toNat)) := by
  have hi : Lib.itoa n = Lib.decDigits n.toNat := by unfold Lib.itoa; rw [if_neg (by omega)]
  refine means_scal (args := [.int .i64 n]) (x := .string ⟨(Lib.decDigits n.toNat).toArray⟩) (fun _ _ => .v _) fun w M hM hg => ?_
  refine (Tryd.strconv_Itoa n (by omega) (by omega) w (pow10 hg)).mono fun e w' ⟨he, k, os, hw⟩ => ?_
  rw [hi] at he
  refine ⟨he, ?_⟩
  rw [hw]
  exact ⟨rfl, rfl, rfl, by simp [Go.Sort.grow, World.drewN], fun k hk => by simp [Go.Sort.grow, World.drewN, Array.getElem?_append_left hk]⟩
theorem nd_le : ∀ (k u : Nat), u < 10 ^ (k + 1) → Lib.nDigits u ≤ k + 1
  | 0, u, h => by rw [Lib.nDigits_small (by simpa using h)]; omega
  | k + 1, u, h => by
    by_cases hu : u < 10
    · rw [Lib.nDigits_small hu]; omega
    · rw [Lib.nDigits_big hu]
      have : u / 10 < 10 ^ (k + 1) := by rw [Nat.div_lt_iff_lt_mul (by omega), ← Nat.pow_succ]; exact h
      have := nd_le k (u / 10) this
      omega
theorem dd_len {n : Int} (h : 0 ≤ n ∧ n ≤ 9223372036854775807) : (Lib.decDigits n.toNat).length ≤ 19 := by
  rw [Lib.decDigits_length]
  exact nd_le 18 _ (by omega)
def numT (n : Int) : List UInt8 := if n < 0 then [] else Lib.decDigits n.toNat ++ [59]
theorem numT_len {n : Int} (h : n ≤ 9223372036854775807) : (numT n).length ≤ 20 := by
  unfold numT
  split
  · simp
  · have := dd_len (n := n) (by omega)
    simp; omega
def hidT (c p n : Int) : List UInt8 := if c < 0 ∨ p < 0 ∨ n < 0 then [] else [98, 105, 100, 58] ++ numT c ++ numT p ++ numT n
theorem wint_m (n : Int) (h0 : 0 ≤ n) (h1 : n ≤ 9223372036854775807) : Means true Tryd.prog 61 [ii n] (sb (numT n)) := by
  have c1 := itoa_m n h0 h1
  have hl := dd_len ⟨h0, h1⟩
  have e : numT n = Lib.decDigits n.toNat ++ [59] := if_neg (by omega)
  rw [e]
  generalize Lib.decDigits n.toNat = D at *
  refine means_fn true 6 [.tmp 2] Tryd.func61 rfl rfl rfl (by simp) (by decide) rfl fun X hX => ?_
  (repeat (first | refine awp_seq ?_ | refine awp_block ?_ | ((first | refine awp_runG [0, 2] hX ?_ | refine awp_drawnG [0, 2] hX mixed ?_ | refine awp_ret ?_ | refine awp_skip ?_ | refine awp_exit ?_); (simp [go_sem]; try (refine ⟨by kernel_rfl, ?_⟩)))))
  first | refine callK_intro (c1) rfl (by simp [go_sem]) rfl ?_ | refine callT_intro (c1) rfl (by simp [go_sem]) rfl ?_
  try (simp [go_sem]; try (refine ⟨by kernel_rfl, ?_⟩))
  (repeat (first | refine awp_seq ?_ | refine awp_block ?_ | ((first | refine awp_runG [0, 2] hX ?_ | refine awp_drawnG [0, 2] hX mixed ?_ | refine awp_ret ?_ | refine awp_skip ?_ | refine awp_exit ?_); (simp [go_sem]; try (refine ⟨by kernel_rfl, ?_⟩)))))
  try (repeat refine And.intro (by first | omega | (unfold maxLen; omega) | kernel_rfl | (refine ⟨by first | omega | (unfold maxLen; omega), by first | omega | (unfold maxLen; omega)⟩) | grind) ?_)
  try (repeat (first | refine awp_seq ?_ | refine awp_block ?_ | ((first | refine awp_runG [0, 2] hX ?_ | refine awp_drawnG [0, 2] hX mixed ?_ | refine awp_ret ?_ | refine awp_skip ?_ | refine awp_exit ?_); (simp [go_sem]; try (refine ⟨by kernel_rfl, ?_⟩)))))
theorem num_m (n : Int) (h1 : n ≤ 9223372036854775807) : Means true Tryd.prog 48 [ii n] (sb (numT n)) := by
  by_cases h : n < 0
  · have e : numT n = [] := if_pos h
    rw [e]
    refine means_fn true 7 [.tmp 2] Tryd.func48 rfl rfl rfl (by simp) (by decide) rfl fun X hX => ?_
    (repeat (first | refine awp_seq ?_ | refine awp_block ?_ | ((first | refine awp_runG [0, 2, 4] hX ?_ | refine awp_drawnG [0, 2, 4] hX mixed ?_ | refine awp_ret ?_ | refine awp_skip ?_ | refine awp_exit ?_); (simp [go_sem]; try (refine ⟨by kernel_rfl, ?_⟩)))))
    refine awp_cond (b := true) (by simp [go_sem, h]) (fun _ => ?_) (fun hb => by cases hb)
    (repeat (first | refine awp_seq ?_ | refine awp_block ?_ | ((first | refine awp_runG [0, 2, 4] hX ?_ | refine awp_drawnG [0, 2, 4] hX mixed ?_ | refine awp_ret ?_ | refine awp_skip ?_ | refine awp_exit ?_); (simp [go_sem]; try (refine ⟨by kernel_rfl, ?_⟩)))))
  · have c1 := wint_m n (by omega) h1
    refine means_fn true 7 [.tmp 2] Tryd.func48 rfl rfl rfl (by simp) (by decide) rfl fun X hX => ?_
    (repeat (first | refine awp_seq ?_ | refine awp_block ?_ | ((first | refine awp_runG [0, 2, 4] hX ?_ | refine awp_drawnG [0, 2, 4] hX mixed ?_ | refine awp_ret ?_ | refine awp_skip ?_ | refine awp_exit ?_); (simp [go_sem]; try (refine ⟨by kernel_rfl, ?_⟩)))))
    refine awp_cond (b := false) (by simp [go_sem]; omega) (fun hb => by cases hb) (fun _ => ?_)
    (repeat (first | refine awp_seq ?_ | refine awp_block ?_ | ((first | refine awp_runG [0, 2, 4] hX ?_ | refine awp_drawnG [0, 2, 4] hX mixed ?_ | refine awp_ret ?_ | refine awp_skip ?_ | refine awp_exit ?_); (simp [go_sem]; try (refine ⟨by kernel_rfl, ?_⟩)))))
    first | refine callK_intro (c1) rfl (by simp [go_sem]) rfl ?_ | refine callT_intro (c1) rfl (by simp [go_sem]) rfl ?_
    try (simp [go_sem]; try (refine ⟨by kernel_rfl, ?_⟩))
    (repeat (first | refine awp_seq ?_ | refine awp_block ?_ | ((first | refine awp_runG [0, 2, 4] hX ?_ | refine awp_drawnG [0, 2, 4] hX mixed ?_ | refine awp_ret ?_ | refine awp_skip ?_ | refine awp_exit ?_); (simp [go_sem]; try (refine ⟨by kernel_rfl, ?_⟩)))))
theorem hidden_m (c p n : Int) (hc : c ≤ 9223372036854775807) (hp : p ≤ 9223372036854775807) (hn : n ≤ 9223372036854775807) : Means true Tryd.prog 23 [ii c, ii p, ii n] (sb (hidT c p n)) := by
  by_cases h : c < 0 ∨ p < 0 ∨ n < 0
  · have e : hidT c p n = [] := if_pos h
    rw [e]
    refine means_fn true 21 [.tmp 6] Tryd.func23 rfl rfl rfl (by simp) (by decide) rfl fun X hX => ?_
    (repeat (first | refine awp_seq ?_ | refine awp_block ?_ | ((first | refine awp_runG [0, 1, 2, 6, 11] hX ?_ | refine awp_drawnG [0, 1, 2, 6, 11] hX mixed ?_ | refine awp_ret ?_ | refine awp_skip ?_ | refine awp_exit ?_); (simp [go_sem]; try (refine ⟨by kernel_rfl, ?_⟩)))))
    refine awp_cond (b := true) (by simp [go_sem]; omega) (fun _ => ?_) (fun hb => by cases hb)
    (repeat (first | refine awp_seq ?_ | refine awp_block ?_ | ((first | refine awp_runG [0, 1, 2, 6, 11] hX ?_ | refine awp_drawnG [0, 1, 2, 6, 11] hX mixed ?_ | refine awp_ret ?_ | refine awp_skip ?_ | refine awp_exit ?_); (simp [go_sem]; try (refine ⟨by kernel_rfl, ?_⟩)))))
  · have e : hidT c p n = [98, 105, 100, 58] ++ numT c ++ numT p ++ numT n := if_neg h
    rw [e]
    have c1 := num_m c hc
    have c2 := num_m p hp
    have c3 := num_m n hn
    have l1 := numT_len hc
    have l2 := numT_len hp
    have l3 := numT_len hn
    have es : ∀ l : List UInt8, (⟨#[98, 105, 100, 58]⟩ : ByteArray) ++ ⟨l.toArray⟩ = ⟨([98, 105, 100, 58] ++ l).toArray⟩ := fun l => sb_app [98, 105, 100, 58] l
    have ez : (⟨#[98, 105, 100, 58]⟩ : ByteArray).size = 4 := rfl
    have hmn : ¬ min (min c p) n < 0 := by omega
    generalize numT c = A at *
    generalize numT p = B at *
    generalize numT n = C at *
    refine means_fn true 21 [.tmp 6] Tryd.func23 rfl rfl rfl (by simp) (by decide) rfl fun X hX => ?_
    (repeat (first | refine awp_seq ?_ | refine awp_block ?_ | ((first | refine awp_runG [0, 1, 2, 6, 11] hX ?_ | refine awp_drawnG [0, 1, 2, 6, 11] hX mixed ?_ | refine awp_ret ?_ | refine awp_skip ?_ | refine awp_exit ?_); (simp [go_sem]; try (refine ⟨by kernel_rfl, ?_⟩)))))
    refine awp_cond (b := false) (by simp [go_sem]; omega) (fun hb => by cases hb) (fun _ => ?_)
    (repeat (first | refine awp_seq ?_ | refine awp_block ?_ | ((first | refine awp_runG [0, 1, 2, 6, 11] hX ?_ | refine awp_drawnG [0, 1, 2, 6, 11] hX mixed ?_ | refine awp_ret ?_ | refine awp_skip ?_ | refine awp_exit ?_); (simp [go_sem]; try (refine ⟨by kernel_rfl, ?_⟩)))))
    first | refine callK_intro (c1) rfl (by simp [go_sem]) rfl ?_ | refine callT_intro (c1) rfl (by simp [go_sem]) rfl ?_
    try (simp [go_sem, es, ez]; try (refine ⟨by kernel_rfl, ?_⟩))
    try (repeat refine And.intro (by first | omega | (unfold maxLen; omega) | kernel_rfl | (refine ⟨by first | omega | (unfold maxLen; omega), by first | omega | (unfold maxLen; omega)⟩) | grind) ?_)
    try (simp [go_sem, es, ez]; try (refine ⟨by kernel_rfl, ?_⟩))
    first | refine callK_intro (c2) rfl (by simp [go_sem]) rfl ?_ | refine callT_intro (c2) rfl (by simp [go_sem]) rfl ?_
    try (simp [go_sem, es, ez]; try (refine ⟨by kernel_rfl, ?_⟩))
    try (repeat refine And.intro (by first | omega | (unfold maxLen; omega) | kernel_rfl | (refine ⟨by first | omega | (unfold maxLen; omega), by first | omega | (unfold maxLen; omega)⟩) | grind) ?_)
    try (simp [go_sem, es, ez]; try (refine ⟨by kernel_rfl, ?_⟩))
    first | refine callK_intro (c3) rfl (by simp [go_sem]) rfl ?_ | refine callT_intro (c3) rfl (by simp [go_sem]) rfl ?_
    try (simp [go_sem, es, ez]; try (refine ⟨by kernel_rfl, ?_⟩))
    try (repeat refine And.intro (by first | omega | (unfold maxLen; omega) | kernel_rfl | (refine ⟨by first | omega | (unfold maxLen; omega), by first | omega | (unfold maxLen; omega)⟩) | grind) ?_)
    try (simp [go_sem, es, ez]; try (refine ⟨by kernel_rfl, ?_⟩))
    (repeat (first | refine awp_seq ?_ | refine awp_block ?_ | ((first | refine awp_runG [0, 1, 2, 6, 11] hX ?_ | refine awp_drawnG [0, 1, 2, 6, 11] hX mixed ?_ | refine awp_ret ?_ | refine awp_skip ?_ | refine awp_exit ?_); (simp [go_sem]; try (refine ⟨by kernel_rfl, ?_⟩)))))
end Go.Proofs.YtjgkjenbgadacaaDoor

namespace Go.Proofs.YtjgkjenbgadacaaDoor
open Go.RowKit Go.Ab
attribute [local irreducible] AWP Go.Ab.Sub Means MeansH CallK CallG CallT CallGT CallU
def smp (n : Int) (o : Bool) : List Bd := [⟨1, 3, 5, true⟩, ⟨2, 4, 9, true⟩, ⟨3, 5, n, o⟩]
theorem sample_m : Means true Tryd.prog 30 [] (bl (smp (-1) false)) := by
  refine means_fn true 5 [.tmp 0] Tryd.func30 rfl rfl rfl (by simp) (by decide) rfl fun X hX => ?_
  (repeat (first | refine awp_seq ?_ | refine awp_block ?_ | ((first | refine awp_runG [0] hX ?_ | refine awp_drawnG [0] hX mixed ?_ | refine awp_ret ?_ | refine awp_skip ?_ | refine awp_exit ?_); (simp [go_sem]; try (refine ⟨by kernel_rfl, ?_⟩)))))
  rfl
theorem s_w1 : winP (smp (-1) false) 20 = (1, true) := by kernel_rfl
theorem s_w2 : winP (smp 12 true) 20 = (2, true) := by kernel_rfl
theorem s_w3 : winP (smp 21 true) 20 = (1, true) := by kernel_rfl
theorem s_o1 : opn (smp (-1) false) 3 12 = (smp 12 true, 0) := by kernel_rfl
theorem s_o2 : opn (smp (-1) false) 3 21 = (smp 21 true, 0) := by kernel_rfl
theorem s_o3 : opn (smp (-1) false) 3 9 = (smp 9 true, 0) := by kernel_rfl
theorem s_o4 : opn (smp (-1) false) 3 20 = (smp 20 true, 0) := by kernel_rfl
theorem s_p1 : potS (smp (-1) false) 20 [3, 4, 5, 6] = ([3, 11, 3, 3], 0) := by kernel_rfl
theorem s_p2 : potS (smp 20 true) 20 [3, 4, 5, 6] = ([7, 7, 0, 6], 0) := by kernel_rfl
theorem s_u : put (smp (-1) false) ⟨4, 5, 1, true⟩ = ([], 5) := by kernel_rfl
theorem s_r : ranked (smp 9 true) 20 = [1, 2, 0] := by kernel_rfl
theorem s_h : hidT 7 2 9 = [98, 105, 100, 58, 55, 59, 50, 59, 57, 59] := by kernel_rfl
theorem s_k : okL (smp (-1) false) = true := by kernel_rfl
set_option maxHeartbeats 16000000 in
set_option maxRecDepth 20000 in
theorem small_m : Means true Tryd.prog 8 [] (bb true) := by
  have hl : ∀ n o, (smp n o).length ≤ 1000 := fun n o => by simp [smp]
  have c1 := sample_m
  have c2 := winner_m (smp (-1) false) 20 (hl _ _)
  have c3 := winner_m (smp 12 true) 20 (hl _ _)
  have c4 := winner_m (smp 21 true) 20 (hl _ _)
  have c5 := open_m (smp (-1) false) 3 12 (by simp [smp])
  have c6 := open_m (smp (-1) false) 3 21 (by simp [smp])
  have c7 := open_m (smp (-1) false) 3 9 (by simp [smp])
  have c8 := open_m (smp (-1) false) 3 20 (by simp [smp])
  have c9 := shares_m (smp (-1) false) 20 [3, 4, 5, 6] (hl _ _) (by simp)
  have c10 := shares_m (smp 20 true) 20 [3, 4, 5, 6] (hl _ _) (by simp)
  have c11 := put_m (smp (-1) false) ⟨4, 5, 1, true⟩ (by simp [smp])
  have c12 := ranked_m (smp 9 true) 20 (hl _ _)
  have c13 := hidden_m 7 2 9 (by omega) (by omega) (by omega)
  have c14 := rightL_m (smp (-1) false) (by simp [smp])
  have i1 := ints_t [1, 2, 0] (by simp)
  have i2 := ints_t [3, 11, 3, 3] (by simp)
  have i3 := ints_t [7, 7, 0, 6] (by simp)
  rw [s_w1] at c2; rw [s_w2] at c3; rw [s_w3] at c4; rw [s_o1] at c5; rw [s_o2] at c6; rw [s_o3] at c7; rw [s_o4] at c8; rw [s_p1] at c9; rw [s_p2] at c10; rw [s_u] at c11; rw [s_r] at c12; rw [s_h] at c13; rw [s_k] at c14
  generalize smp (-1) false = S0 at *
  generalize smp 12 true = S1 at *
  generalize smp 21 true = S2 at *
  generalize smp 9 true = S3 at *
  generalize smp 20 true = S4 at *
  refine means_fn true 153 [.tmp 0] Tryd.func8 rfl rfl rfl (by simp) (by decide) rfl fun X hX => ?_
  (repeat (first | refine awp_seq ?_ | refine awp_block ?_ | ((first | refine awp_runG [0, 1, 2, 3, 4, 5, 6, 7, 8, 9, 10, 11, 12, 13, 14, 15, 16, 17, 18, 19, 20, 22, 23, 24] hX ?_ | refine awp_drawnG [0, 1, 2, 3, 4, 5, 6, 7, 8, 9, 10, 11, 12, 13, 14, 15, 16, 17, 18, 19, 20, 22, 23, 24] hX mixed ?_ | refine awp_ret ?_ | refine awp_skip ?_ | refine awp_exit ?_); (simp [go_sem]; try (refine ⟨by kernel_rfl, ?_⟩)))))
  first | refine callK_intro (c1) rfl (by simp [go_sem]) rfl ?_ | refine callT_intro (c1) rfl (by simp [go_sem]) rfl ?_
  try (simp [go_sem]; try (refine ⟨by kernel_rfl, ?_⟩))
  (repeat (first | refine awp_seq ?_ | refine awp_block ?_ | ((first | refine awp_runG [0, 1, 2, 3, 4, 5, 6, 7, 8, 9, 10, 11, 12, 13, 14, 15, 16, 17, 18, 19, 20, 22, 23, 24] hX ?_ | refine awp_drawnG [0, 1, 2, 3, 4, 5, 6, 7, 8, 9, 10, 11, 12, 13, 14, 15, 16, 17, 18, 19, 20, 22, 23, 24] hX mixed ?_ | refine awp_ret ?_ | refine awp_skip ?_ | refine awp_exit ?_); (simp [go_sem]; try (refine ⟨by kernel_rfl, ?_⟩)))))
  first | refine callK_intro (c2) rfl (by simp [go_sem]) rfl ?_ | refine callT_intro (c2) rfl (by simp [go_sem]) rfl ?_
  try (simp [go_sem]; try (refine ⟨by kernel_rfl, ?_⟩))
  (repeat (first | refine awp_seq ?_ | refine awp_block ?_ | ((first | refine awp_runG [0, 1, 2, 3, 4, 5, 6, 7, 8, 9, 10, 11, 12, 13, 14, 15, 16, 17, 18, 19, 20, 22, 23, 24] hX ?_ | refine awp_drawnG [0, 1, 2, 3, 4, 5, 6, 7, 8, 9, 10, 11, 12, 13, 14, 15, 16, 17, 18, 19, 20, 22, 23, 24] hX mixed ?_ | refine awp_ret ?_ | refine awp_skip ?_ | refine awp_exit ?_); (simp [go_sem]; try (refine ⟨by kernel_rfl, ?_⟩)))))
  first | refine callK_intro (c5) rfl (by simp [go_sem]) rfl ?_ | refine callT_intro (c5) rfl (by simp [go_sem]) rfl ?_
  try (simp [go_sem]; try (refine ⟨by kernel_rfl, ?_⟩))
  (repeat (first | refine awp_seq ?_ | refine awp_block ?_ | ((first | refine awp_runG [0, 1, 2, 3, 4, 5, 6, 7, 8, 9, 10, 11, 12, 13, 14, 15, 16, 17, 18, 19, 20, 22, 23, 24] hX ?_ | refine awp_drawnG [0, 1, 2, 3, 4, 5, 6, 7, 8, 9, 10, 11, 12, 13, 14, 15, 16, 17, 18, 19, 20, 22, 23, 24] hX mixed ?_ | refine awp_ret ?_ | refine awp_skip ?_ | refine awp_exit ?_); (simp [go_sem]; try (refine ⟨by kernel_rfl, ?_⟩)))))
  first | refine callK_intro (c6) rfl (by simp [go_sem]) rfl ?_ | refine callT_intro (c6) rfl (by simp [go_sem]) rfl ?_
  try (simp [go_sem]; try (refine ⟨by kernel_rfl, ?_⟩))
  (repeat (first | refine awp_seq ?_ | refine awp_block ?_ | ((first | refine awp_runG [0, 1, 2, 3, 4, 5, 6, 7, 8, 9, 10, 11, 12, 13, 14, 15, 16, 17, 18, 19, 20, 22, 23, 24] hX ?_ | refine awp_drawnG [0, 1, 2, 3, 4, 5, 6, 7, 8, 9, 10, 11, 12, 13, 14, 15, 16, 17, 18, 19, 20, 22, 23, 24] hX mixed ?_ | refine awp_ret ?_ | refine awp_skip ?_ | refine awp_exit ?_); (simp [go_sem]; try (refine ⟨by kernel_rfl, ?_⟩)))))
  first | refine callK_intro (c7) rfl (by simp [go_sem]) rfl ?_ | refine callT_intro (c7) rfl (by simp [go_sem]) rfl ?_
  try (simp [go_sem]; try (refine ⟨by kernel_rfl, ?_⟩))
  (repeat (first | refine awp_seq ?_ | refine awp_block ?_ | ((first | refine awp_runG [0, 1, 2, 3, 4, 5, 6, 7, 8, 9, 10, 11, 12, 13, 14, 15, 16, 17, 18, 19, 20, 22, 23, 24] hX ?_ | refine awp_drawnG [0, 1, 2, 3, 4, 5, 6, 7, 8, 9, 10, 11, 12, 13, 14, 15, 16, 17, 18, 19, 20, 22, 23, 24] hX mixed ?_ | refine awp_ret ?_ | refine awp_skip ?_ | refine awp_exit ?_); (simp [go_sem]; try (refine ⟨by kernel_rfl, ?_⟩)))))
  first | refine callK_intro (c8) rfl (by simp [go_sem]) rfl ?_ | refine callT_intro (c8) rfl (by simp [go_sem]) rfl ?_
  try (simp [go_sem]; try (refine ⟨by kernel_rfl, ?_⟩))
  (repeat (first | refine awp_seq ?_ | refine awp_block ?_ | ((first | refine awp_runG [0, 1, 2, 3, 4, 5, 6, 7, 8, 9, 10, 11, 12, 13, 14, 15, 16, 17, 18, 19, 20, 22, 23, 24] hX ?_ | refine awp_drawnG [0, 1, 2, 3, 4, 5, 6, 7, 8, 9, 10, 11, 12, 13, 14, 15, 16, 17, 18, 19, 20, 22, 23, 24] hX mixed ?_ | refine awp_ret ?_ | refine awp_skip ?_ | refine awp_exit ?_); (simp [go_sem]; try (refine ⟨by kernel_rfl, ?_⟩)))))
  first | refine callK_intro (c3) rfl (by simp [go_sem]) rfl ?_ | refine callT_intro (c3) rfl (by simp [go_sem]) rfl ?_
  try (simp [go_sem]; try (refine ⟨by kernel_rfl, ?_⟩))
  (repeat (first | refine awp_seq ?_ | refine awp_block ?_ | ((first | refine awp_runG [0, 1, 2, 3, 4, 5, 6, 7, 8, 9, 10, 11, 12, 13, 14, 15, 16, 17, 18, 19, 20, 22, 23, 24] hX ?_ | refine awp_drawnG [0, 1, 2, 3, 4, 5, 6, 7, 8, 9, 10, 11, 12, 13, 14, 15, 16, 17, 18, 19, 20, 22, 23, 24] hX mixed ?_ | refine awp_ret ?_ | refine awp_skip ?_ | refine awp_exit ?_); (simp [go_sem]; try (refine ⟨by kernel_rfl, ?_⟩)))))
  first | refine callK_intro (c4) rfl (by simp [go_sem]) rfl ?_ | refine callT_intro (c4) rfl (by simp [go_sem]) rfl ?_
  try (simp [go_sem]; try (refine ⟨by kernel_rfl, ?_⟩))
  (repeat (first | refine awp_seq ?_ | refine awp_block ?_ | ((first | refine awp_runG [0, 1, 2, 3, 4, 5, 6, 7, 8, 9, 10, 11, 12, 13, 14, 15, 16, 17, 18, 19, 20, 22, 23, 24] hX ?_ | refine awp_drawnG [0, 1, 2, 3, 4, 5, 6, 7, 8, 9, 10, 11, 12, 13, 14, 15, 16, 17, 18, 19, 20, 22, 23, 24] hX mixed ?_ | refine awp_ret ?_ | refine awp_skip ?_ | refine awp_exit ?_); (simp [go_sem]; try (refine ⟨by kernel_rfl, ?_⟩)))))
  first | refine callK_intro (c9) rfl (by simp [go_sem]) rfl ?_ | refine callT_intro (c9) rfl (by simp [go_sem]) rfl ?_
  try (simp [go_sem]; try (refine ⟨by kernel_rfl, ?_⟩))
  (repeat (first | refine awp_seq ?_ | refine awp_block ?_ | ((first | refine awp_runG [0, 1, 2, 3, 4, 5, 6, 7, 8, 9, 10, 11, 12, 13, 14, 15, 16, 17, 18, 19, 20, 22, 23, 24] hX ?_ | refine awp_drawnG [0, 1, 2, 3, 4, 5, 6, 7, 8, 9, 10, 11, 12, 13, 14, 15, 16, 17, 18, 19, 20, 22, 23, 24] hX mixed ?_ | refine awp_ret ?_ | refine awp_skip ?_ | refine awp_exit ?_); (simp [go_sem]; try (refine ⟨by kernel_rfl, ?_⟩)))))
  first | refine callK_intro (c10) rfl (by simp [go_sem]) rfl ?_ | refine callT_intro (c10) rfl (by simp [go_sem]) rfl ?_
  try (simp [go_sem]; try (refine ⟨by kernel_rfl, ?_⟩))
  (repeat (first | refine awp_seq ?_ | refine awp_block ?_ | ((first | refine awp_runG [0, 1, 2, 3, 4, 5, 6, 7, 8, 9, 10, 11, 12, 13, 14, 15, 16, 17, 18, 19, 20, 22, 23, 24] hX ?_ | refine awp_drawnG [0, 1, 2, 3, 4, 5, 6, 7, 8, 9, 10, 11, 12, 13, 14, 15, 16, 17, 18, 19, 20, 22, 23, 24] hX mixed ?_ | refine awp_ret ?_ | refine awp_skip ?_ | refine awp_exit ?_); (simp [go_sem]; try (refine ⟨by kernel_rfl, ?_⟩)))))
  first | refine callK_intro (c11) rfl (by simp [go_sem]) rfl ?_ | refine callT_intro (c11) rfl (by simp [go_sem]) rfl ?_
  try (simp [go_sem]; try (refine ⟨by kernel_rfl, ?_⟩))
  (repeat (first | refine awp_seq ?_ | refine awp_block ?_ | ((first | refine awp_runG [0, 1, 2, 3, 4, 5, 6, 7, 8, 9, 10, 11, 12, 13, 14, 15, 16, 17, 18, 19, 20, 22, 23, 24] hX ?_ | refine awp_drawnG [0, 1, 2, 3, 4, 5, 6, 7, 8, 9, 10, 11, 12, 13, 14, 15, 16, 17, 18, 19, 20, 22, 23, 24] hX mixed ?_ | refine awp_ret ?_ | refine awp_skip ?_ | refine awp_exit ?_); (simp [go_sem]; try (refine ⟨by kernel_rfl, ?_⟩)))))
  first | refine callG_intro (fun hg => c12) rfl (by simp [go_sem]) rfl ?_ | refine callGT_intro (fun hg => c12) rfl (by simp [go_sem]) rfl ?_
  try (simp [go_sem]; try (refine ⟨by kernel_rfl, ?_⟩))
  first | refine callG_intro (fun hg => i1) rfl (by simp [go_sem]) rfl ?_ | refine callGT_intro (fun hg => i1) rfl (by simp [go_sem]) rfl ?_
  try (simp [go_sem]; try (refine ⟨by kernel_rfl, ?_⟩))
  (repeat (first | refine awp_seq ?_ | refine awp_block ?_ | ((first | refine awp_runG [0, 1, 2, 3, 4, 5, 6, 7, 8, 9, 10, 11, 12, 13, 14, 15, 16, 17, 18, 19, 20, 22, 23, 24] hX ?_ | refine awp_drawnG [0, 1, 2, 3, 4, 5, 6, 7, 8, 9, 10, 11, 12, 13, 14, 15, 16, 17, 18, 19, 20, 22, 23, 24] hX mixed ?_ | refine awp_ret ?_ | refine awp_skip ?_ | refine awp_exit ?_); (simp [go_sem]; try (refine ⟨by kernel_rfl, ?_⟩)))))
  first | refine callG_intro (fun hg => c13) rfl (by simp [go_sem]) rfl ?_ | refine callGT_intro (fun hg => c13) rfl (by simp [go_sem]) rfl ?_
  have hbe : ((⟨#[98, 105, 100, 58, 55, 59, 50, 59, 57, 59]⟩ : ByteArray) == ⟨#[98, 105, 100, 58, 55, 59, 50, 59, 57, 59]⟩) = true := by decide
  try (simp [go_sem, hbe]; try (refine ⟨by kernel_rfl, ?_⟩))
  first | refine callG_intro (fun hg => i2) rfl (by simp [go_sem]) rfl ?_ | refine callGT_intro (fun hg => i2) rfl (by simp [go_sem]) rfl ?_
  try (simp [go_sem]; try (refine ⟨by kernel_rfl, ?_⟩))
  first | refine callG_intro (fun hg => i3) rfl (by simp [go_sem]) rfl ?_ | refine callGT_intro (fun hg => i3) rfl (by simp [go_sem]) rfl ?_
  try (simp [go_sem]; try (refine ⟨by kernel_rfl, ?_⟩))
  first | refine callG_intro (fun hg => c14) rfl (by simp [go_sem]) rfl ?_ | refine callGT_intro (fun hg => c14) rfl (by simp [go_sem]) rfl ?_
  try (simp [go_sem]; try (refine ⟨by kernel_rfl, ?_⟩))
  (repeat (first | refine awp_seq ?_ | refine awp_block ?_ | ((first | refine awp_runG [0, 1, 2, 3, 4, 5, 6, 7, 8, 9, 10, 11, 12, 13, 14, 15, 16, 17, 18, 19, 20, 22, 23, 24] hX ?_ | refine awp_drawnG [0, 1, 2, 3, 4, 5, 6, 7, 8, 9, 10, 11, 12, 13, 14, 15, 16, 17, 18, 19, 20, 22, 23, 24] hX mixed ?_ | refine awp_ret ?_ | refine awp_skip ?_ | refine awp_exit ?_); (simp [go_sem]; try (refine ⟨by kernel_rfl, ?_⟩)))))
end Go.Proofs.YtjgkjenbgadacaaDoor

