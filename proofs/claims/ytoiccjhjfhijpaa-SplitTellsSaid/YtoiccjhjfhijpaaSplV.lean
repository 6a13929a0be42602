/-
  Layer 18: the reference's Weighted and Even.
-/
import Derived.Test.YtoiccjhjfhijpaaSplE
import Derived.Test.YtoiccjhjfhijpaaSplQ
set_option linter.all false
namespace Go.Proofs.Ytoiccjhjfhijpaa
open Go.RowKit Go.Ab
attribute [local irreducible] AWP Go.Ab.Sub Means MeansH CallK CallG CallT CallGT CallU

abbrev rowB (M : List Bool) : Cell := .row ⟨4, 1, M.map bb⟩
@[go_sem] theorem nth_bb {L : List Bool} {k : Nat} (h : k < L.length) : nth (L.map bb) k = bb L[k] := nth_map bb h
theorem nth_last {L : List Int} {k : Nat} {q : Int} (h : L.length = k) : nth (L.map ii ++ [ii q]) k = ii q := by
  have e : L.map ii ++ [ii q] = (L ++ [q]).map ii := by simp
  rw [e, nth_ii (by simp; omega)]
  simp [← h]

set_option maxHeartbeats 16000000 in
set_option maxRecDepth 20000 in
theorem rweighted_m (n : Int) (W : List Int) (hl : W.length ≤ 9223372036854775807) :
    Means true Try.prog 12 [ii n, il W] (.tup [il (if isAm n = true ∧ wsum W ≠ 0 then wtd W n else []), ii (if isAm n = true ∧ wsum W ≠ 0 then 0 else 1)]) := by
  by_cases hc : isAm n = true ∧ wsum W ≠ 0
  · rw [if_pos hc, if_pos hc]
    obtain ⟨hn, hW⟩ := hc
    obtain ⟨hok, hse, hs0⟩ := wsum_pos hW
    have hl60 := okW_len hok
    have hsb := (okW_sum hok).2
    have hn2 : 0 ≤ n ∧ n ≤ 1099511627776 := by simpa [isAm] using hn
    have hlb := left_bd (h := n) hs0
    have hqi := qF_in (n := n) hok hn2.1 hs0
    have hsm := rsum_m W hl
    rw [hse] at hsm
    have hwt : wtd W n = bumps (qF n (sumL W) W) ((srt (kR (rF n (sumL W) W)) (idxI W.length)).take (n - sumL (qF n (sumL W) W)).toNat) := rfl
    rw [hwt]
    have fl := fun i (h : i < W.length) => rfloor_m n W[i] (sumL W) hn2 (okW_mem hok (List.getElem_mem h)) ⟨hs0, hsb⟩
    have rs := fun i (h : i < W.length) => rrest_m n W[i] (sumL W) hn2 (okW_mem hok (List.getElem_mem h)) ⟨hs0, hsb⟩
    generalize sumL W = s at *
    have hql : (qF n s W).length = W.length := qF_len _ _ _
    have hrl : (rF n s W).length = W.length := rF_len _ _ _
    have hqa : ∀ k (hk : k < W.length) (hk' : k < (qF n s W).length), (qF n s W)[k] = n * W[k] / s := fun k hk hk' => by simp [qF]
    have hra : ∀ k (hk : k < W.length) (hk' : k < (rF n s W).length), (rF n s W)[k] = n * W[k] % s := fun k hk hk' => by simp [rF]
    obtain ⟨m, hm⟩ : ∃ m : Nat, (m : Int) = n - sumL (qF n s W) := ⟨(n - sumL (qF n s W)).toNat, by omega⟩
    have hmt : (n - sumL (qF n s W)).toNat = m := by omega
    rw [hmt]
    have hmW : m ≤ W.length := by omega
    obtain ⟨O, hO⟩ : ∃ O, srt (kR (rF n s W)) (idxI W.length) = O := ⟨_, rfl⟩
    have hnf := fun k hk b hb hnb h1 h2 => next_free (R := rF n s W) (O := O) (by rw [hrl]; exact hO.symm) (k := k) hk (b := b) hb hnb h1 h2
    rw [hO]
    have hOl : O.length = W.length := by rw [← hO, srt_len, idxI_len]
    have hOp : O.Perm (idxI W.length) := by rw [← hO]; exact srt_perm _ _
    have hOn : O.Nodup := hOp.symm.nodup (idxI_nodup _)
    have hlm := fun k hk => left_m (q := qF n s W) hqi hn2.1 k hk
    have hsc : ∀ k (hk : k < W.length) (hk' : k < (qF n s W).length), sumL ((qF n s W).take (k + 1)) = sumL ((qF n s W).take k) + (qF n s W)[k] := fun k _ hk' => sumL_succ hk'
    have hqt : ∀ k (hk : k < (qF n s W).length), (qF n s W).take (k + 1) = (qF n s W).take k ++ [(qF n s W)[k]] := fun k hk => List.take_succ_eq_append_getElem hk
    clear hO hwt
    generalize hQ : qF n s W = Q at *
    generalize hR : rF n s W = R at *
    refine means_fn true 96 [.tmp 4, .tmp 5] Try.func12 rfl rfl rfl (by simp) (by decide) rfl fun X hX => ?_
    (repeat (first | refine awp_seq ?_ | refine awp_block ?_ | ((first | refine awp_runG [0, 1, 4, 5, 6, 7, 8, 9, 10, 11, 12, 21, 26, 49, 53, 82] hX ?_ | refine awp_drawnG [0, 1, 4, 5, 6, 7, 8, 9, 10, 11, 12, 21, 26, 49, 53, 82] hX mixed ?_ | refine awp_ret ?_ | refine awp_skip ?_ | refine awp_exit ?_); (simp [go_sem]; try (refine ⟨by kernel_rfl, ?_⟩)))))
    first | refine callK_intro (hsm) rfl (by simp [go_sem]) rfl ?_ | refine callT_intro (hsm) rfl (by simp [go_sem]) rfl ?_
    try (simp [go_sem]; try (refine ⟨by kernel_rfl, ?_⟩))
    (repeat (first | refine awp_seq ?_ | refine awp_block ?_ | ((first | refine awp_runG [0, 1, 4, 5, 6, 7, 8, 9, 10, 11, 12, 21, 26, 49, 53, 82] hX ?_ | refine awp_drawnG [0, 1, 4, 5, 6, 7, 8, 9, 10, 11, 12, 21, 26, 49, 53, 82] hX mixed ?_ | refine awp_ret ?_ | refine awp_skip ?_ | refine awp_exit ?_); (simp [go_sem]; try (refine ⟨by kernel_rfl, ?_⟩)))))
    first | refine callK_intro (ramount_m n) rfl (by simp [go_sem]) rfl ?_ | refine callT_intro (ramount_m n) rfl (by simp [go_sem]) rfl ?_
    try (simp [go_sem]; try (refine ⟨by kernel_rfl, ?_⟩))
    have hs1 : s ≠ 0 := by omega
    refine awp_cond (b := false) (by simp [go_sem, hn, hs1]) (fun h => by cases h) (fun _ => ?_)
    (repeat (first | refine awp_seq ?_ | refine awp_block ?_ | ((first | refine awp_runG [0, 1, 4, 5, 6, 7, 8, 9, 10, 11, 12, 21, 26, 49, 53, 82] hX ?_ | refine awp_drawnG [0, 1, 4, 5, 6, 7, 8, 9, 10, 11, 12, 21, 26, 49, 53, 82] hX mixed ?_ | refine awp_ret ?_ | refine awp_skip ?_ | refine awp_exit ?_); (simp [go_sem]; try (refine ⟨by kernel_rfl, ?_⟩)))))
    refine awp_loop (fun k : Nat => ⟨mkE [(0, ii n), (1, il W), (6, ii s), (7, .ow 0), (8, .ow 1), (9, ii (n - sumL (Q.take k))), (10, ii k)], [rowI (Q.take k), rowB (List.replicate k false)]⟩) (fun k => k ≤ W.length) (fun k => W.length - k) 0 ?_ ?_ ?_
    · refine sub_of _ [.birth 3 1, .birth 4 1] (by simp [go_sem]) ?_
      simp [go_sem]
    · omega
    · intro k hk
      have lb := hlm k (by omega)
      have hll : (Q.take k).length = k := by rw [List.length_take]; omega
      have hbl : (List.replicate k false).length = k := by simp
      have hbs : List.replicate (k + 1) false = List.replicate k false ++ [false] := List.replicate_succ'
      (repeat (first | refine awp_seq ?_ | refine awp_block ?_ | ((first | refine awp_runG [0, 1, 4, 5, 6, 7, 8, 9, 10, 11, 12, 21, 26, 49, 53, 82] hX ?_ | refine awp_drawnG [0, 1, 4, 5, 6, 7, 8, 9, 10, 11, 12, 21, 26, 49, 53, 82] hX mixed ?_ | refine awp_ret ?_ | refine awp_skip ?_ | refine awp_exit ?_); (simp [go_sem]; try (refine ⟨by kernel_rfl, ?_⟩)))))
      refine awp_cond (b := decide (k < W.length)) (by simp [go_sem]) (fun hc => ?_) (fun hc => ?_)
      · simp at hc
        have cf := fl k hc
        have b1 := hqa k hc (by omega)
        have sc := hsc k hc (by omega)
        have qt := hqt k (by omega)
        have lb2 := hlm (k + 1) (by omega)
        rw [sc] at lb2
        rw [← b1] at cf
        have hqk := hqi Q[k] (List.getElem_mem (by omega))
        obtain ⟨q, hqe⟩ : ∃ q, Q[k]'(by omega) = q := ⟨_, rfl⟩
        rw [hqe] at cf sc qt lb2 hqk
        have hse2 : n - (sumL (Q.take k) + q) = n - sumL (Q.take k) - q := by omega
        have w1 := w64 (x := n - sumL (Q.take k) - q) (by omega) (by omega)
        have w2 := w64 (x := (k : Int) + 1) (by omega) (by omega)
        have hnl := nth_last (L := Q.take k) (k := k) (q := q) hll
        obtain ⟨z, hz⟩ : ∃ z, n - sumL (Q.take k) = z := ⟨_, rfl⟩
        rw [hz] at w1 hse2 ⊢
        clear hqe b1 hQ
        generalize Q.take k = D at *
        generalize List.replicate k false = E at *
        (repeat (first | refine awp_seq ?_ | refine awp_block ?_ | ((first | refine awp_runG [0, 1, 4, 5, 6, 7, 8, 9, 10, 11, 12, 21, 26, 49, 53, 82] hX ?_ | refine awp_drawnG [0, 1, 4, 5, 6, 7, 8, 9, 10, 11, 12, 21, 26, 49, 53, 82] hX mixed ?_ | refine awp_ret ?_ | refine awp_skip ?_ | refine awp_exit ?_); (simp [go_sem, hc]; try (refine ⟨by kernel_rfl, ?_⟩)))))
        first | refine callK_intro (cf) rfl (by simp [go_sem]) rfl ?_ | refine callT_intro (cf) rfl (by simp [go_sem]) rfl ?_
        try (simp [go_sem, hll, hbl, hnl, w1]; try (refine ⟨by kernel_rfl, ?_⟩))
        try (repeat refine And.intro (by first | omega | (unfold maxLen; omega) | kernel_rfl | (refine ⟨by first | omega | (unfold maxLen; omega), by first | omega | (unfold maxLen; omega)⟩) | grind) ?_)
        try (repeat (first | refine awp_seq ?_ | refine awp_block ?_ | ((first | refine awp_runG [0, 1, 4, 5, 6, 7, 8, 9, 10, 11, 12, 21, 26, 49, 53, 82] hX ?_ | refine awp_drawnG [0, 1, 4, 5, 6, 7, 8, 9, 10, 11, 12, 21, 26, 49, 53, 82] hX mixed ?_ | refine awp_ret ?_ | refine awp_skip ?_ | refine awp_exit ?_); (simp [go_sem, hll, hbl, hnl, w1, w2]; try (refine ⟨by kernel_rfl, ?_⟩)))))
        try (repeat refine And.intro (by first | omega | (unfold maxLen; omega) | kernel_rfl | (refine ⟨by first | omega | (unfold maxLen; omega), by first | omega | (unfold maxLen; omega)⟩) | grind) ?_)
        try (repeat (first | refine awp_seq ?_ | refine awp_block ?_ | ((first | refine awp_runG [0, 1, 4, 5, 6, 7, 8, 9, 10, 11, 12, 21, 26, 49, 53, 82] hX ?_ | refine awp_drawnG [0, 1, 4, 5, 6, 7, 8, 9, 10, 11, 12, 21, 26, 49, 53, 82] hX mixed ?_ | refine awp_ret ?_ | refine awp_skip ?_ | refine awp_exit ?_); (simp [go_sem, hll, hbl, hnl, w1, w2]; try (refine ⟨by kernel_rfl, ?_⟩)))))
        try (repeat refine And.intro (by first | omega | (unfold maxLen; omega) | kernel_rfl | (refine ⟨by first | omega | (unfold maxLen; omega), by first | omega | (unfold maxLen; omega)⟩) | grind) ?_)
        try (repeat (first | refine awp_seq ?_ | refine awp_block ?_ | ((first | refine awp_runG [0, 1, 4, 5, 6, 7, 8, 9, 10, 11, 12, 21, 26, 49, 53, 82] hX ?_ | refine awp_drawnG [0, 1, 4, 5, 6, 7, 8, 9, 10, 11, 12, 21, 26, 49, 53, 82] hX mixed ?_ | refine awp_ret ?_ | refine awp_skip ?_ | refine awp_exit ?_); (simp [go_sem, hll, hbl, hnl, w1, w2]; try (refine ⟨by kernel_rfl, ?_⟩)))))
        refine ⟨k + 1, by omega, by omega, ?_⟩
        rw [sc, qt, hbs, hse2]
        refine sub_of _ [.old 3 ⟨3, 1, (D ++ [q]).map ii⟩, .old 5 ⟨4, 1, (E ++ [false]).map bb⟩] (by simp [go_sem]) ?_
        simp [go_sem]
        try omega
      · have hkl : k = Q.length := by simp at hc; omega
        have hkW : k = W.length := by omega
        have e4 : Q.take k = Q := List.take_of_length_le (by omega)
        have e5 : List.replicate k false = took W.length (O.take 0) := by rw [List.take_zero, took_none, hkW]
        rw [e4, e5, ← hm]
        have hoz : bumps Q (O.take 0) = Q := rfl
        have hbd := fun O' => bumps_bd O' hqi
        have hbs := fun j hj => bumps_succ (L := Q) (O := O) (k := j) hj
        have hbl2 := fun O' => bumps_len O' Q
        have hts := fun j b hj h => took_succ (n := W.length) (O := O) (j := j) (b := b) hj h
        have hOR : ∀ j, j < W.length → ∃ p : Nat, p < W.length ∧ ¬ (p : Int) ∈ O.take j := fun j hj => by
          have hx := (idxI_mem (n := W.length) (x := O[j]'(by omega))).1 (by
            have := hOp.mem_iff.1 (List.getElem_mem (l := O) (n := j) (by omega)); exact this)
          refine ⟨(O[j]'(by omega)).toNat, by omega, fun q => ?_⟩
          obtain ⟨i, hi, e⟩ := List.getElem_of_mem q
          rw [List.getElem_take] at e
          have hij : i < j := by rw [List.length_take] at hi; omega
          have := List.pairwise_iff_getElem.1 hOn i j (by omega) (by omega) hij
          exact this (by omega)
        (repeat (first | refine awp_seq ?_ | refine awp_block ?_ | ((first | refine awp_runG [0, 1, 4, 5, 6, 7, 8, 9, 10, 11, 12, 21, 26, 49, 53, 82] hX ?_ | refine awp_drawnG [0, 1, 4, 5, 6, 7, 8, 9, 10, 11, 12, 21, 26, 49, 53, 82] hX mixed ?_ | refine awp_ret ?_ | refine awp_skip ?_ | refine awp_exit ?_); (simp [go_sem]; try (refine ⟨by kernel_rfl, ?_⟩)))))
        refine awp_loop (fun j : Nat => ⟨mkE [(0, ii n), (1, il W), (6, ii s), (7, .ow 0), (8, .ow 1), (9, ii ((m : Int) - j))], [rowI (bumps Q (O.take j)), rowB (took W.length (O.take j))]⟩) (fun j => j ≤ m) (fun j => m - j) 0 ?_ ?_ ?_
        · rw [hoz]
          refine sub_of _ [.old 0 ⟨3, 1, Q.map ii⟩, .old 1 ⟨4, 1, (took W.length (O.take 0)).map bb⟩] (by simp [go_sem]) ?_
          simp [go_sem]
        · omega
        · intro j hj
          have wj := w64 (x := (m : Int) - j - 1) (by omega) (by omega)
          (repeat (first | refine awp_seq ?_ | refine awp_block ?_ | ((first | refine awp_runG [0, 1, 4, 5, 6, 7, 8, 9, 10, 11, 12, 21, 26, 49, 53, 82] hX ?_ | refine awp_drawnG [0, 1, 4, 5, 6, 7, 8, 9, 10, 11, 12, 21, 26, 49, 53, 82] hX mixed ?_ | refine awp_ret ?_ | refine awp_skip ?_ | refine awp_exit ?_); (simp [go_sem]; try (refine ⟨by kernel_rfl, ?_⟩)))))
          refine awp_cond (b := decide (j < m)) (by simp [go_sem]; try omega) (fun hd => ?_) (fun hd => ?_)
          · simp at hd
            have hjO : j < O.length := by omega
            have n1 := fun b hb hnb h1 h2 => hnf j hjO b hb hnb h1 h2
            have n3 := hbs j hjO
            have n4 := hbd (O.take j)
            have n5 := hbl2 (O.take j)
            have n6 := hOR j (by omega)
            have n7 := fun b h => hts j b hjO h
            have n8 : (O.take j).length ≤ 60 := by rw [List.length_take]; omega
            have tl := took_len W.length (O.take j)
            have ta := fun i h => took_at (n := W.length) (O := O.take j) (i := i) h
            generalize O.take j = T at *
            generalize bumps Q T = B at *
            generalize hTM : took W.length T = M at *
            (repeat (first | refine awp_seq ?_ | refine awp_block ?_ | ((first | refine awp_runG [0, 1, 4, 5, 6, 7, 8, 9, 10, 11, 12, 21, 26, 49, 53, 82] hX ?_ | refine awp_drawnG [0, 1, 4, 5, 6, 7, 8, 9, 10, 11, 12, 21, 26, 49, 53, 82] hX mixed ?_ | refine awp_ret ?_ | refine awp_skip ?_ | refine awp_exit ?_); (simp [go_sem]; try (refine ⟨by kernel_rfl, ?_⟩)))))
            refine awp_loop (fun x : Nat × Int => ⟨mkE [(0, ii n), (1, il W), (6, ii s), (7, .ow 0), (8, .ow 1), (9, ii ((m : Int) - j)), (11, ii x.2), (12, ii x.1)], [rowI B, rowB M]⟩) (fun x => x.1 ≤ W.length ∧ isFree R T x.1 x.2) (fun x => W.length - x.1) (0, -1) ?_ ?_ ?_
            · refine sub_of _ [.old 0 ⟨3, 1, B.map ii⟩, .old 1 ⟨4, 1, M.map bb⟩] (by simp [go_sem]) ?_
              simp [go_sem]
            · exact ⟨Nat.zero_le _, .inl ⟨rfl, fun j hj => absurd hj (Nat.not_lt_zero _)⟩⟩
            · rintro ⟨k, b⟩ ⟨g1, g2⟩
              simp only [] at g1 g2
              have wk := w64 (x := (k : Int) + 1) (by omega) (by omega)
              (repeat (first | refine awp_seq ?_ | refine awp_block ?_ | ((first | refine awp_runG [0, 1, 4, 5, 6, 7, 8, 9, 10, 11, 12, 21, 26, 49, 53, 82] hX ?_ | refine awp_drawnG [0, 1, 4, 5, 6, 7, 8, 9, 10, 11, 12, 21, 26, 49, 53, 82] hX mixed ?_ | refine awp_ret ?_ | refine awp_skip ?_ | refine awp_exit ?_); (simp [go_sem]; try (refine ⟨by kernel_rfl, ?_⟩)))))
              refine awp_cond (b := decide (k < W.length)) (by simp [go_sem]) (fun he => ?_) (fun he => ?_)
              · simp at he
                have hkM : k < M.length := by omega
                have hkR : k < R.length := by omega
                have tk := ta k hkM
                have crk := rs k he
                have rk := hra k he hkR
                have h0W : 0 < W.length := by omega
                have hmx : max (-1 : Int) 0 = 0 := by decide
                by_cases ht : (k : Int) ∈ T
                · have hMk : M[k] = true := by rw [tk]; exact decide_eq_true ht
                  have nx := isFree_taken g2 ht
                  have hb : b = -1 ∨ ∃ p : Nat, b = p ∧ p < W.length := by
                    rcases g2 with ⟨e, _⟩ | ⟨p, e, hp, _⟩
                    · exact .inl e
                    · exact .inr ⟨p, e, by omega⟩
                  rcases hb with hb | ⟨p, hb, hpW⟩
                  · subst hb
                    (repeat (first | refine awp_seq ?_ | refine awp_block ?_ | ((first | refine awp_runG [0, 1, 4, 5, 6, 7, 8, 9, 10, 11, 12, 21, 26, 49, 53, 82] hX ?_ | refine awp_drawnG [0, 1, 4, 5, 6, 7, 8, 9, 10, 11, 12, 21, 26, 49, 53, 82] hX mixed ?_ | refine awp_ret ?_ | refine awp_skip ?_ | refine awp_exit ?_); (simp [go_sem, hkM, hMk, he]; try (refine ⟨by kernel_rfl, ?_⟩)))))
                    first | refine callG_skip rfl ?_ | refine callGT_skip rfl ?_
                    try (simp [go_sem, he, h0W, hmx]; try (refine ⟨by kernel_rfl, ?_⟩))
                    first | refine callG_skip rfl ?_ | refine callGT_skip rfl ?_
                    try (simp [go_sem]; try (refine ⟨by kernel_rfl, ?_⟩))
                    try (repeat refine And.intro (by first | omega | (unfold maxLen; omega) | kernel_rfl | (refine ⟨by first | omega | (unfold maxLen; omega), by first | omega | (unfold maxLen; omega)⟩) | grind) ?_)
                    refine awp_cond (b := false) (by simp [go_sem]) (fun h => by cases h) (fun _ => ?_)
                    (repeat (first | refine awp_seq ?_ | refine awp_block ?_ | ((first | refine awp_runG [0, 1, 4, 5, 6, 7, 8, 9, 10, 11, 12, 21, 26, 49, 53, 82] hX ?_ | refine awp_drawnG [0, 1, 4, 5, 6, 7, 8, 9, 10, 11, 12, 21, 26, 49, 53, 82] hX mixed ?_ | refine awp_ret ?_ | refine awp_skip ?_ | refine awp_exit ?_); (simp [go_sem, wk]; try (refine ⟨by kernel_rfl, ?_⟩)))))
                    refine ⟨k + 1, -1, ⟨by omega, nx⟩, by omega, ?_⟩
                    refine sub_of _ [.old 0 ⟨3, 1, B.map ii⟩, .old 1 ⟨4, 1, M.map bb⟩] (by simp [go_sem]) ?_
                    simp [go_sem]
                  · subst hb
                    have hpm : max (p : Int) 0 = p := by omega
                    have hpm2 : max 0 (p : Int) = p := by omega
                    (repeat (first | refine awp_seq ?_ | refine awp_block ?_ | ((first | refine awp_runG [0, 1, 4, 5, 6, 7, 8, 9, 10, 11, 12, 21, 26, 49, 53, 82] hX ?_ | refine awp_drawnG [0, 1, 4, 5, 6, 7, 8, 9, 10, 11, 12, 21, 26, 49, 53, 82] hX mixed ?_ | refine awp_ret ?_ | refine awp_skip ?_ | refine awp_exit ?_); (simp [go_sem, hkM, hMk, he]; try (refine ⟨by kernel_rfl, ?_⟩)))))
                    first | refine callG_skip rfl ?_ | refine callGT_skip rfl ?_
                    try (simp [go_sem, he, hpW, hpm, hpm2]; try (refine ⟨by kernel_rfl, ?_⟩))
                    first | refine callG_skip rfl ?_ | refine callGT_skip rfl ?_
                    try (simp [go_sem]; try (refine ⟨by kernel_rfl, ?_⟩))
                    try (repeat refine And.intro (by first | omega | (unfold maxLen; omega) | kernel_rfl | (refine ⟨by first | omega | (unfold maxLen; omega), by first | omega | (unfold maxLen; omega)⟩) | grind) ?_)
                    refine awp_cond (b := false) (by simp [go_sem]) (fun h => by cases h) (fun _ => ?_)
                    (repeat (first | refine awp_seq ?_ | refine awp_block ?_ | ((first | refine awp_runG [0, 1, 4, 5, 6, 7, 8, 9, 10, 11, 12, 21, 26, 49, 53, 82] hX ?_ | refine awp_drawnG [0, 1, 4, 5, 6, 7, 8, 9, 10, 11, 12, 21, 26, 49, 53, 82] hX mixed ?_ | refine awp_ret ?_ | refine awp_skip ?_ | refine awp_exit ?_); (simp [go_sem, wk]; try (refine ⟨by kernel_rfl, ?_⟩)))))
                    refine ⟨k + 1, p, ⟨by omega, nx⟩, by omega, ?_⟩
                    refine sub_of _ [.old 0 ⟨3, 1, B.map ii⟩, .old 1 ⟨4, 1, M.map bb⟩] (by simp [go_sem]) ?_
                    simp [go_sem]
                · have hMk : M[k] = false := by rw [tk]; exact decide_eq_false ht
                  by_cases hb : b < 0
                  · have nx := isFree_take g2 hkR ht (.inl hb)
                    have hb1 : b = -1 := by
                      rcases g2 with ⟨e, _⟩ | ⟨p, e, _⟩ <;> omega
                    subst hb1
                    (repeat (first | refine awp_seq ?_ | refine awp_block ?_ | ((first | refine awp_runG [0, 1, 4, 5, 6, 7, 8, 9, 10, 11, 12, 21, 26, 49, 53, 82] hX ?_ | refine awp_drawnG [0, 1, 4, 5, 6, 7, 8, 9, 10, 11, 12, 21, 26, 49, 53, 82] hX mixed ?_ | refine awp_ret ?_ | refine awp_skip ?_ | refine awp_exit ?_); (simp [go_sem, hkM, hMk, he]; try (refine ⟨by kernel_rfl, ?_⟩)))))
                    first | refine callG_skip rfl ?_ | refine callGT_skip rfl ?_
                    try (simp [go_sem, he, h0W, hmx]; try (refine ⟨by kernel_rfl, ?_⟩))
                    first | refine callG_skip rfl ?_ | refine callGT_skip rfl ?_
                    try (simp [go_sem]; try (refine ⟨by kernel_rfl, ?_⟩))
                    try (repeat refine And.intro (by first | omega | (unfold maxLen; omega) | kernel_rfl | (refine ⟨by first | omega | (unfold maxLen; omega), by first | omega | (unfold maxLen; omega)⟩) | grind) ?_)
                    refine awp_cond (b := true) (by simp [go_sem]) (fun _ => ?_) (fun h => by cases h)
                    (repeat (first | refine awp_seq ?_ | refine awp_block ?_ | ((first | refine awp_runG [0, 1, 4, 5, 6, 7, 8, 9, 10, 11, 12, 21, 26, 49, 53, 82] hX ?_ | refine awp_drawnG [0, 1, 4, 5, 6, 7, 8, 9, 10, 11, 12, 21, 26, 49, 53, 82] hX mixed ?_ | refine awp_ret ?_ | refine awp_skip ?_ | refine awp_exit ?_); (simp [go_sem, wk]; try (refine ⟨by kernel_rfl, ?_⟩)))))
                    refine ⟨k + 1, k, ⟨by omega, nx⟩, by omega, ?_⟩
                    refine sub_of _ [.old 0 ⟨3, 1, B.map ii⟩, .old 1 ⟨4, 1, M.map bb⟩] (by simp [go_sem]) ?_
                    simp [go_sem]
                  · obtain ⟨p, hp, hpk, hpR, hpT, _, _⟩ : ∃ p : Nat, b = p ∧ p < k ∧ ∃ hp : p < R.length, ¬ (p : Int) ∈ T ∧ (∀ j (hj : j < R.length), j < k → ¬ (j : Int) ∈ T → R[j] ≤ R[p]) ∧ ∀ j (hj : j < R.length), j < p → ¬ (j : Int) ∈ T → R[j] < R[p] := by
                      rcases g2 with ⟨e, _⟩ | h
                      · omega
                      · exact h
                    subst hp
                    have hpW : p < W.length := by omega
                    have crp := rs p hpW
                    have rp := hra p hpW hpR
                    have hpn : ¬ (p : Int) < 0 := by omega
                    have hpm : max (p : Int) 0 = p := by omega
                    have hpm2 : max 0 (p : Int) = p := by omega
                    have nx1 := fun h => isFree_take g2 hkR ht (.inr ⟨p, rfl, hpR, h⟩)
                    have nx2 := fun h => isFree_keep g2 hkR hpR h
                    rw [rk, rp] at nx1 nx2
                    obtain ⟨x, hx⟩ : ∃ x, n * W[k] % s = x := ⟨_, rfl⟩
                    obtain ⟨y, hy⟩ : ∃ y, n * W[p] % s = y := ⟨_, rfl⟩
                    rw [hx] at crk nx1 nx2
                    rw [hy] at crp nx1 nx2
                    (repeat (first | refine awp_seq ?_ | refine awp_block ?_ | ((first | refine awp_runG [0, 1, 4, 5, 6, 7, 8, 9, 10, 11, 12, 21, 26, 49, 53, 82] hX ?_ | refine awp_drawnG [0, 1, 4, 5, 6, 7, 8, 9, 10, 11, 12, 21, 26, 49, 53, 82] hX mixed ?_ | refine awp_ret ?_ | refine awp_skip ?_ | refine awp_exit ?_); (simp [go_sem, hkM, hMk, he, hpn]; try (refine ⟨by kernel_rfl, ?_⟩)))))
                    first | refine callG_intro (fun hg => crk) rfl (by simp [go_sem]) rfl ?_ | refine callGT_intro (fun hg => crk) rfl (by simp [go_sem]) rfl ?_
                    try (simp [go_sem, he, hpW, hpm, hpm2]; try (refine ⟨by kernel_rfl, ?_⟩))
                    first | refine callG_intro (fun hg => crp) rfl (by simp [go_sem]) rfl ?_ | refine callGT_intro (fun hg => crp) rfl (by simp [go_sem]) rfl ?_
                    try (simp [go_sem]; try (refine ⟨by kernel_rfl, ?_⟩))
                    try (repeat refine And.intro (by first | omega | (unfold maxLen; omega) | kernel_rfl | (refine ⟨by first | omega | (unfold maxLen; omega), by first | omega | (unfold maxLen; omega)⟩) | grind) ?_)
                    refine awp_cond (b := decide (y < x)) (by simp [go_sem]) (fun hf => ?_) (fun hf => ?_)
                    · simp only [decide_eq_true_eq] at hf
                      (repeat (first | refine awp_seq ?_ | refine awp_block ?_ | ((first | refine awp_runG [0, 1, 4, 5, 6, 7, 8, 9, 10, 11, 12, 21, 26, 49, 53, 82] hX ?_ | refine awp_drawnG [0, 1, 4, 5, 6, 7, 8, 9, 10, 11, 12, 21, 26, 49, 53, 82] hX mixed ?_ | refine awp_ret ?_ | refine awp_skip ?_ | refine awp_exit ?_); (simp [go_sem, wk]; try (refine ⟨by kernel_rfl, ?_⟩)))))
                      refine ⟨k + 1, k, ⟨by omega, nx1 hf⟩, by omega, ?_⟩
                      refine sub_of _ [.old 0 ⟨3, 1, B.map ii⟩, .old 1 ⟨4, 1, M.map bb⟩] (by simp [go_sem]) ?_
                      simp [go_sem]
                    · simp only [decide_eq_false_iff_not] at hf
                      (repeat (first | refine awp_seq ?_ | refine awp_block ?_ | ((first | refine awp_runG [0, 1, 4, 5, 6, 7, 8, 9, 10, 11, 12, 21, 26, 49, 53, 82] hX ?_ | refine awp_drawnG [0, 1, 4, 5, 6, 7, 8, 9, 10, 11, 12, 21, 26, 49, 53, 82] hX mixed ?_ | refine awp_ret ?_ | refine awp_skip ?_ | refine awp_exit ?_); (simp [go_sem, wk]; try (refine ⟨by kernel_rfl, ?_⟩)))))
                      refine ⟨k + 1, p, ⟨by omega, nx2 (by omega)⟩, by omega, ?_⟩
                      refine sub_of _ [.old 0 ⟨3, 1, B.map ii⟩, .old 1 ⟨4, 1, M.map bb⟩] (by simp [go_sem]) ?_
                      simp [go_sem]
              · have hkl : k = W.length := by simp at he; omega
                obtain ⟨p0, hp0, hp0T⟩ := n6
                obtain ⟨p, hp, hpk, hpR, hpT, h1, h2⟩ : ∃ p : Nat, b = p ∧ p < k ∧ ∃ hp : p < R.length, ¬ (p : Int) ∈ T ∧ (∀ j (hj : j < R.length), j < k → ¬ (j : Int) ∈ T → R[j] ≤ R[p]) ∧ ∀ j (hj : j < R.length), j < p → ¬ (j : Int) ∈ T → R[j] < R[p] := by
                  rcases g2 with ⟨_, h⟩ | h
                  · exact absurd (h p0 (by omega)) hp0T
                  · exact h
                subst hp
                have e := n1 p hpR hpT (fun i hi hn => h1 i hi (by omega) hn) (fun i hi hip hn => h2 i hi hip hn)
                rw [e] at n3
                have n7 := n7 p e
                have hpB : p < B.length := by omega
                have hpM : p < M.length := by omega
                have hv := n4 B[p] (List.getElem_mem hpB)
                have wv := w64 (x := B[p] + 1) (by omega) (by omega)
                have hbe : bump B (p : Int) = B.set p (B[p] + 1) := by
                  unfold bump
                  rw [Int.toNat_natCast, List.getD_eq_getElem?_getD, List.getElem?_eq_getElem hpB]; rfl
                rw [hbe] at n3
                (repeat (first | refine awp_seq ?_ | refine awp_block ?_ | ((first | refine awp_runG [0, 1, 4, 5, 6, 7, 8, 9, 10, 11, 12, 21, 26, 49, 53, 82] hX ?_ | refine awp_drawnG [0, 1, 4, 5, 6, 7, 8, 9, 10, 11, 12, 21, 26, 49, 53, 82] hX mixed ?_ | refine awp_ret ?_ | refine awp_skip ?_ | refine awp_exit ?_); (simp [go_sem, hpB, hpM, wv, wj]; try (refine ⟨by kernel_rfl, ?_⟩)))))
                try (repeat refine And.intro (by first | omega | (unfold maxLen; omega) | kernel_rfl | (refine ⟨by first | omega | (unfold maxLen; omega), by first | omega | (unfold maxLen; omega)⟩) | grind) ?_)
                try (repeat (first | refine awp_seq ?_ | refine awp_block ?_ | ((first | refine awp_runG [0, 1, 4, 5, 6, 7, 8, 9, 10, 11, 12, 21, 26, 49, 53, 82] hX ?_ | refine awp_drawnG [0, 1, 4, 5, 6, 7, 8, 9, 10, 11, 12, 21, 26, 49, 53, 82] hX mixed ?_ | refine awp_ret ?_ | refine awp_skip ?_ | refine awp_exit ?_); (simp [go_sem, hpB, hpM, wv, wj]; try (refine ⟨by kernel_rfl, ?_⟩)))))
                try (repeat refine And.intro (by first | omega | (unfold maxLen; omega) | kernel_rfl | (refine ⟨by first | omega | (unfold maxLen; omega), by first | omega | (unfold maxLen; omega)⟩) | grind) ?_)
                try (repeat (first | refine awp_seq ?_ | refine awp_block ?_ | ((first | refine awp_runG [0, 1, 4, 5, 6, 7, 8, 9, 10, 11, 12, 21, 26, 49, 53, 82] hX ?_ | refine awp_drawnG [0, 1, 4, 5, 6, 7, 8, 9, 10, 11, 12, 21, 26, 49, 53, 82] hX mixed ?_ | refine awp_ret ?_ | refine awp_skip ?_ | refine awp_exit ?_); (simp [go_sem, hpB, hpM, wv, wj]; try (refine ⟨by kernel_rfl, ?_⟩)))))
                refine ⟨j + 1, by omega, by omega, ?_⟩
                rw [n3, n7]
                refine sub_of _ [.old 0 ⟨3, 1, (B.set p (B[p] + 1)).map ii⟩, .old 1 ⟨4, 1, (M.set p true).map bb⟩] (by simp [go_sem]) ?_
                simp [go_sem]
                try omega
          · have : j = m := by simp at hd; omega
            subst this
            (repeat (first | refine awp_seq ?_ | refine awp_block ?_ | ((first | refine awp_runG [0, 1, 4, 5, 6, 7, 8, 9, 10, 11, 12, 21, 26, 49, 53, 82] hX ?_ | refine awp_drawnG [0, 1, 4, 5, 6, 7, 8, 9, 10, 11, 12, 21, 26, 49, 53, 82] hX mixed ?_ | refine awp_ret ?_ | refine awp_skip ?_ | refine awp_exit ?_); (simp [go_sem]; try (refine ⟨by kernel_rfl, ?_⟩)))))
  · rw [if_neg hc, if_neg hc]
    have hsm := rsum_m W hl
    refine means_fn true 96 [.tmp 4, .tmp 5] Try.func12 rfl rfl rfl (by simp) (by decide) rfl fun X hX => ?_
    (repeat (first | refine awp_seq ?_ | refine awp_block ?_ | ((first | refine awp_runG [0, 1, 4, 5, 6, 7, 8, 9, 10, 11, 12, 21, 26, 49, 53, 82] hX ?_ | refine awp_drawnG [0, 1, 4, 5, 6, 7, 8, 9, 10, 11, 12, 21, 26, 49, 53, 82] hX mixed ?_ | refine awp_ret ?_ | refine awp_skip ?_ | refine awp_exit ?_); (simp [go_sem]; try (refine ⟨by kernel_rfl, ?_⟩)))))
    first | refine callK_intro (hsm) rfl (by simp [go_sem]) rfl ?_ | refine callT_intro (hsm) rfl (by simp [go_sem]) rfl ?_
    try (simp [go_sem]; try (refine ⟨by kernel_rfl, ?_⟩))
    (repeat (first | refine awp_seq ?_ | refine awp_block ?_ | ((first | refine awp_runG [0, 1, 4, 5, 6, 7, 8, 9, 10, 11, 12, 21, 26, 49, 53, 82] hX ?_ | refine awp_drawnG [0, 1, 4, 5, 6, 7, 8, 9, 10, 11, 12, 21, 26, 49, 53, 82] hX mixed ?_ | refine awp_ret ?_ | refine awp_skip ?_ | refine awp_exit ?_); (simp [go_sem]; try (refine ⟨by kernel_rfl, ?_⟩)))))
    first | refine callK_intro (ramount_m n) rfl (by simp [go_sem]) rfl ?_ | refine callT_intro (ramount_m n) rfl (by simp [go_sem]) rfl ?_
    try (simp [go_sem]; try (refine ⟨by kernel_rfl, ?_⟩))
    refine awp_cond (b := true) (by
      cases h1 : isAm n with
      | false => simp [go_sem, h1]
      | true =>
        have h2 : wsum W = 0 := by
          rw [h1] at hc; simpa using hc
        simp [go_sem, h1, h2]) (fun _ => ?_) (fun h => by cases h)
    (repeat (first | refine awp_seq ?_ | refine awp_block ?_ | ((first | refine awp_runG [0, 1, 4, 5, 6, 7, 8, 9, 10, 11, 12, 21, 26, 49, 53, 82] hX ?_ | refine awp_drawnG [0, 1, 4, 5, 6, 7, 8, 9, 10, 11, 12, 21, 26, 49, 53, 82] hX mixed ?_ | refine awp_ret ?_ | refine awp_skip ?_ | refine awp_exit ?_); (simp [go_sem]; try (refine ⟨by kernel_rfl, ?_⟩)))))

end Go.Proofs.Ytoiccjhjfhijpaa
