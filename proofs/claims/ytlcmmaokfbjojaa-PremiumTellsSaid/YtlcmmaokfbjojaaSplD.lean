/-
  Layer 18: the quota method.
-/
import Derived.Test.YtlcmmaokfbjojaaSplA
import Derived.Test.YtlcmmaokfbjojaaSplH
set_option linter.all false
namespace Go.Proofs.Ytlcmmaokfbjojaa
open Go.RowKit Go.Ab
attribute [local irreducible] AWP Go.Ab.Sub Means MeansH CallK CallG CallT CallGT CallU

theorem mb {a b A B : Int} (h1 : 0 ≤ a ∧ a ≤ A) (h2 : 0 ≤ b ∧ b ≤ B) : 0 ≤ a * b ∧ a * b ≤ A * B :=
  ⟨Int.mul_nonneg h1.1 h2.1, Int.mul_le_mul h1.2 h2.2 h2.1 (by omega)⟩

set_option maxHeartbeats 8000000 in
set_option maxRecDepth 20000 in
theorem next_m (W H : List Int) (t s : Int) (hl : W.length ≤ 60) (hH : H.length = W.length) (hw : ∀ i, i < W.length → 0 ≤ gt W i ∧ gt W i ≤ 65536) (hh : ∀ i, i < W.length → 0 ≤ gt H i ∧ gt H i ≤ 65536)
    (ht : 0 ≤ t ∧ t ≤ 65537) (hs : 0 ≤ s ∧ s ≤ 65536) : Means true Try.prog 66 [il W, il H, ii t, ii s] (ii (bst W H t s W.length)) := by
  refine means_fn true 54 [.tmp 8] Try.func66 rfl rfl rfl (by simp) (by decide) rfl fun X hX => ?_
  (repeat (first | refine awp_seq ?_ | refine awp_block ?_ | ((first | refine awp_runG [0, 1, 2, 3, 8, 9, 10, 11, 12, 13, 14, 15, 28, 50] hX ?_ | refine awp_drawnG [0, 1, 2, 3, 8, 9, 10, 11, 12, 13, 14, 15, 28, 50] hX mixed ?_ | refine awp_ret ?_ | refine awp_skip ?_ | refine awp_exit ?_); (simp [go_sem]; try (refine ⟨by kernel_rfl, ?_⟩)))))
  refine awp_loop (fun k : Nat => ⟨mkE [(0, il W), (1, il H), (2, ii t), (3, ii s), (9, ii (bst W H t s k)), (12, il W), (13, ii W.length), (14, ii k)], []⟩) (fun k => k ≤ W.length) (fun k => W.length - k) 0 ?_ ?_ ?_
  · refine sub_of _ [] (by simp [go_sem]) ?_
    simp [go_sem, bst]
  · omega
  · intro k hk
    have hbl := bst_lt W H t s k
    have hbs : bst W H t s (k + 1) = if t * gt W k ≤ gt H k * s then bst W H t s k else if bst W H t s k < 0 ∨ gt W (bst W H t s k).toNat * (gt H k + 1) < gt W k * (gt H (bst W H t s k).toNat + 1) then k else bst W H t s k := rfl
    (repeat (first | refine awp_seq ?_ | refine awp_block ?_ | ((first | refine awp_runG [0, 1, 2, 3, 8, 9, 10, 11, 12, 13, 14, 15, 28, 50] hX ?_ | refine awp_drawnG [0, 1, 2, 3, 8, 9, 10, 11, 12, 13, 14, 15, 28, 50] hX mixed ?_ | refine awp_ret ?_ | refine awp_skip ?_ | refine awp_exit ?_); (simp [go_sem]; try (refine ⟨by kernel_rfl, ?_⟩)))))
    refine awp_cond (b := decide (k < W.length)) (by simp [go_sem]) (fun hc => ?_) (fun hc => ?_)
    · simp at hc
      have hkH : k < H.length := by omega
      have hwk := hw k hc
      have hhk := hh k hc
      have c1 := mb hhk hs
      have c2 := mb ht hwk
      have wk := w64 (x := (k : Int) + 1) (by omega) (by omega)
      have gH := gt_at hkH
      have gW := gt_at hc
      rw [gH] at hbs hhk c1
      rw [gW] at hbs hwk c2
      obtain ⟨x, hx⟩ : ∃ x, W[k] = x := ⟨_, rfl⟩
      obtain ⟨y, hy⟩ : ∃ y, H[k] = y := ⟨_, rfl⟩
      rw [hx] at hbs hwk c2
      rw [hy] at hbs hhk c1
      have w1 := w64 (x := y * s) (by omega) (by omega)
      have w2 := w64 (x := t * x) (by omega) (by omega)
      (repeat (first | refine awp_seq ?_ | refine awp_block ?_ | ((first | refine awp_runG [0, 1, 2, 3, 8, 9, 10, 11, 12, 13, 14, 15, 28, 50] hX ?_ | refine awp_drawnG [0, 1, 2, 3, 8, 9, 10, 11, 12, 13, 14, 15, 28, 50] hX mixed ?_ | refine awp_ret ?_ | refine awp_skip ?_ | refine awp_exit ?_); (simp [go_sem, hc, hkH, hx, hy, w1, w2]; try (refine ⟨by kernel_rfl, ?_⟩)))))
      refine awp_cond (b := decide (t * x ≤ y * s)) (by simp [go_sem, hc, hkH, hx, hy, w1, w2]) (fun hd => ?_) (fun hd => ?_)
      · simp only [decide_eq_true_eq] at hd
        rw [if_pos hd] at hbs
        (repeat (first | refine awp_seq ?_ | refine awp_block ?_ | ((first | refine awp_runG [0, 1, 2, 3, 8, 9, 10, 11, 12, 13, 14, 15, 28, 50] hX ?_ | refine awp_drawnG [0, 1, 2, 3, 8, 9, 10, 11, 12, 13, 14, 15, 28, 50] hX mixed ?_ | refine awp_ret ?_ | refine awp_skip ?_ | refine awp_exit ?_); (simp [go_sem, wk]; try (refine ⟨by kernel_rfl, ?_⟩)))))
        refine ⟨k + 1, by omega, by omega, ?_⟩
        rw [hbs]
        refine sub_of _ [] (by simp [go_sem]) ?_
        simp [go_sem]
      · simp only [decide_eq_false_iff_not] at hd
        rw [if_neg hd] at hbs
        by_cases hneg : bst W H t s k < 0
        · rw [if_pos (.inl hneg)] at hbs
          have e : bst W H t s k = -1 := by omega
          rw [e]
          have h0W : 0 < W.length := by omega
          have h0H : 0 < H.length := by omega
          (repeat (first | refine awp_seq ?_ | refine awp_block ?_ | ((first | refine awp_runG [0, 1, 2, 3, 8, 9, 10, 11, 12, 13, 14, 15, 28, 50] hX ?_ | refine awp_drawnG [0, 1, 2, 3, 8, 9, 10, 11, 12, 13, 14, 15, 28, 50] hX mixed ?_ | refine awp_ret ?_ | refine awp_skip ?_ | refine awp_exit ?_); (simp [go_sem, hc, hkH, hx, hy, h0W, h0H]; try (refine ⟨by kernel_rfl, ?_⟩)))))
          refine awp_cond (b := true) (by simp [go_sem]) (fun _ => ?_) (fun h => by cases h)
          (repeat (first | refine awp_seq ?_ | refine awp_block ?_ | ((first | refine awp_runG [0, 1, 2, 3, 8, 9, 10, 11, 12, 13, 14, 15, 28, 50] hX ?_ | refine awp_drawnG [0, 1, 2, 3, 8, 9, 10, 11, 12, 13, 14, 15, 28, 50] hX mixed ?_ | refine awp_ret ?_ | refine awp_skip ?_ | refine awp_exit ?_); (simp [go_sem, wk]; try (refine ⟨by kernel_rfl, ?_⟩)))))
          refine ⟨k + 1, by omega, by omega, ?_⟩
          rw [hbs]
          refine sub_of _ [] (by simp [go_sem]) ?_
          simp [go_sem]
        · obtain ⟨p, hp⟩ : ∃ p : Nat, bst W H t s k = (p : Int) := ⟨(bst W H t s k).toNat, by omega⟩
          rw [hp] at hbs hbl ⊢
          rw [Int.toNat_natCast] at hbs
          have hpW : p < W.length := by omega
          have hpH : p < H.length := by omega
          have hwp := hw p hpW
          have hhp := hh p hpW
          rw [gt_at hpW] at hbs hwp
          rw [gt_at hpH] at hbs hhp
          obtain ⟨u, hu⟩ : ∃ u, W[p] = u := ⟨_, rfl⟩
          obtain ⟨v, hv⟩ : ∃ v, H[p] = v := ⟨_, rfl⟩
          rw [hu] at hbs hwp
          rw [hv] at hbs hhp
          have c3 := mb (a := x) (b := v + 1) (A := 65536) (B := 65537) hwk (by omega)
          have c4 := mb (a := u) (b := y + 1) (A := 65536) (B := 65537) hwp (by omega)
          have w3 := w64 (x := v + 1) (by omega) (by omega)
          have w4 := w64 (x := y + 1) (by omega) (by omega)
          have w5 := w64 (x := x * (v + 1)) (by omega) (by omega)
          have w6 := w64 (x := u * (y + 1)) (by omega) (by omega)
          have hpn : ¬ (p : Int) < 0 := by omega
          (repeat (first | refine awp_seq ?_ | refine awp_block ?_ | ((first | refine awp_runG [0, 1, 2, 3, 8, 9, 10, 11, 12, 13, 14, 15, 28, 50] hX ?_ | refine awp_drawnG [0, 1, 2, 3, 8, 9, 10, 11, 12, 13, 14, 15, 28, 50] hX mixed ?_ | refine awp_ret ?_ | refine awp_skip ?_ | refine awp_exit ?_); (simp [go_sem, hc, hkH, hpW, hpH, hx, hy, hu, hv, w3, w4, w5, w6, hpn]; try (refine ⟨by kernel_rfl, ?_⟩)))))
          refine awp_cond (b := decide (u * (y + 1) < x * (v + 1))) (by simp [go_sem, hc, hkH, hpW, hpH, hx, hy, hu, hv, w3, w4, w5, w6, hpn]) (fun hf => ?_) (fun hf => ?_)
          · simp only [decide_eq_true_eq] at hf
            rw [if_pos (.inr hf)] at hbs
            (repeat (first | refine awp_seq ?_ | refine awp_block ?_ | ((first | refine awp_runG [0, 1, 2, 3, 8, 9, 10, 11, 12, 13, 14, 15, 28, 50] hX ?_ | refine awp_drawnG [0, 1, 2, 3, 8, 9, 10, 11, 12, 13, 14, 15, 28, 50] hX mixed ?_ | refine awp_ret ?_ | refine awp_skip ?_ | refine awp_exit ?_); (simp [go_sem, wk]; try (refine ⟨by kernel_rfl, ?_⟩)))))
            refine ⟨k + 1, by omega, by omega, ?_⟩
            rw [hbs]
            refine sub_of _ [] (by simp [go_sem]) ?_
            simp [go_sem]
          · simp only [decide_eq_false_iff_not] at hf
            rw [if_neg (by omega)] at hbs
            (repeat (first | refine awp_seq ?_ | refine awp_block ?_ | ((first | refine awp_runG [0, 1, 2, 3, 8, 9, 10, 11, 12, 13, 14, 15, 28, 50] hX ?_ | refine awp_drawnG [0, 1, 2, 3, 8, 9, 10, 11, 12, 13, 14, 15, 28, 50] hX mixed ?_ | refine awp_ret ?_ | refine awp_skip ?_ | refine awp_exit ?_); (simp [go_sem, wk]; try (refine ⟨by kernel_rfl, ?_⟩)))))
            refine ⟨k + 1, by omega, by omega, ?_⟩
            rw [hbs]
            refine sub_of _ [] (by simp [go_sem]) ?_
            simp [go_sem]
    · have : k = W.length := by simp at hc; omega
      subst this
      (repeat (first | refine awp_seq ?_ | refine awp_block ?_ | ((first | refine awp_runG [0, 1, 2, 3, 8, 9, 10, 11, 12, 13, 14, 15, 28, 50] hX ?_ | refine awp_drawnG [0, 1, 2, 3, 8, 9, 10, 11, 12, 13, 14, 15, 28, 50] hX mixed ?_ | refine awp_ret ?_ | refine awp_skip ?_ | refine awp_exit ?_); (simp [go_sem]; try (refine ⟨by kernel_rfl, ?_⟩)))))

set_option maxHeartbeats 16000000 in
set_option maxRecDepth 20000 in
theorem given_ok (W : List Int) (n : Int) (hl : W.length ≤ 9223372036854775807) (he : givenE W n = 0) : Means true Try.prog 44 [il W, ii n] (.tup [il (given W n), ii 0]) := by
  obtain ⟨hok, hse, hs0, hs1, hn0, hn1, hn⟩ := givenE_zero he
  have hl60 := okW_len hok
  have hsm := wsum_m W hl
  rw [hse] at hsm
  have hgv := fun t => giv_ok (gt_W hok) hs0 t
  have hgl := fun t => giv_len W t
  have hgb := fun t i (h : i < W.length) => giv_le hok hs0 t h
  have hWb := fun i (h : i < W.length) => W_le hok h
  have hW0 := gt_W hok
  have hgn := fun i (h : i < W.length) => given_bd (n := n) hok hs0 hn0 h
  have hA := given_len W n
  have hat := fun i h h' h2 => given_at (W := W) (n := n) (i := i) h h' h2
  have htm : n.tmod (sumL W) = n % sumL W := Int.tmod_eq_emod_of_nonneg hn0
  have htd : n.tdiv (sumL W) = n / sumL W := Int.tdiv_eq_ediv_of_nonneg hn0
  have hm0 := Int.emod_nonneg n (show sumL W ≠ 0 by omega)
  have hm1 := Int.emod_lt_of_pos n hs0
  have hd0 := Int.ediv_nonneg hn0 (show 0 ≤ sumL W by omega)
  have hd1 := Int.ediv_le_self (sumL W) hn0
  obtain ⟨T, hT⟩ : ∃ T : Nat, (T : Int) = n % sumL W := ⟨(n % sumL W).toNat, by omega⟩
  have hTt : (n % sumL W).toNat = T := by omega
  rw [hTt] at hat
  have hnx := fun t (ht : t ≤ 65536) => next_m W (giv W t) ((t : Int) + 1) (sumL W) hl60 (hgl t) (fun i hi => ⟨hW0 i, Int.le_trans (hWb i hi) hs1⟩) (fun i hi => by have := hgb t i hi; omega) (by omega) (by omega)
  have hgs : ∀ t b, bst W (giv W t) ((t : Int) + 1) (sumL W) W.length = (b : Nat) → giv W (t + 1) = (giv W t).set b (gt (giv W t) b + 1) := fun t b hb => by simp only [giv]; rw [hb, Int.toNat_natCast]
  have hz : giv W 0 = List.replicate W.length 0 := rfl
  generalize hAe : given W n = A at *
  generalize sumL W = s at *
  have hww := w64 (x := (W.length : Int)) (by omega) (by omega)
  refine means_fn true 62 [.tmp 4, .tmp 5] Try.func44 rfl rfl rfl (by simp) (by decide) rfl fun X hX => ?_
  (repeat (first | refine awp_seq ?_ | refine awp_block ?_ | ((first | refine awp_runG [0, 1, 4, 5, 6, 7, 8, 9, 10, 19, 21, 29, 42, 43, 44, 45] hX ?_ | refine awp_drawnG [0, 1, 4, 5, 6, 7, 8, 9, 10, 19, 21, 29, 42, 43, 44, 45] hX mixed ?_ | refine awp_ret ?_ | refine awp_skip ?_ | refine awp_exit ?_); (simp [go_sem]; try (refine ⟨by kernel_rfl, ?_⟩)))))
  first | refine callK_intro (hsm) rfl (by simp [go_sem]) rfl ?_ | refine callT_intro (hsm) rfl (by simp [go_sem]) rfl ?_
  try (simp [go_sem]; try (refine ⟨by kernel_rfl, ?_⟩))
  (repeat (first | refine awp_seq ?_ | refine awp_block ?_ | ((first | refine awp_runG [0, 1, 4, 5, 6, 7, 8, 9, 10, 19, 21, 29, 42, 43, 44, 45] hX ?_ | refine awp_drawnG [0, 1, 4, 5, 6, 7, 8, 9, 10, 19, 21, 29, 42, 43, 44, 45] hX mixed ?_ | refine awp_ret ?_ | refine awp_skip ?_ | refine awp_exit ?_); (simp [go_sem]; try (refine ⟨by kernel_rfl, ?_⟩)))))
  first | refine callG_intro (fun hg => amount_m n) rfl (by simp [go_sem]) rfl ?_ | refine callGT_intro (fun hg => amount_m n) rfl (by simp [go_sem]) rfl ?_
  try (simp [go_sem]; try (refine ⟨by kernel_rfl, ?_⟩))
  have hsn : s ≠ 0 := by omega
  refine awp_cond (b := false) (by simp [go_sem, hsn, hn]) (fun h => by cases h) (fun _ => ?_)
  (repeat (first | refine awp_seq ?_ | refine awp_block ?_ | ((first | refine awp_runG [0, 1, 4, 5, 6, 7, 8, 9, 10, 19, 21, 29, 42, 43, 44, 45] hX ?_ | refine awp_drawnG [0, 1, 4, 5, 6, 7, 8, 9, 10, 19, 21, 29, 42, 43, 44, 45] hX mixed ?_ | refine awp_ret ?_ | refine awp_skip ?_ | refine awp_exit ?_); (simp [go_sem]; try (refine ⟨by kernel_rfl, ?_⟩)))))
  refine awp_cond (b := false) (by simp [go_sem]; try omega) (fun h => by cases h) (fun _ => ?_)
  (repeat (first | refine awp_seq ?_ | refine awp_block ?_ | ((first | refine awp_runG [0, 1, 4, 5, 6, 7, 8, 9, 10, 19, 21, 29, 42, 43, 44, 45] hX ?_ | refine awp_drawnG [0, 1, 4, 5, 6, 7, 8, 9, 10, 19, 21, 29, 42, 43, 44, 45] hX mixed ?_ | refine awp_ret ?_ | refine awp_skip ?_ | refine awp_exit ?_); (simp [go_sem]; try (refine ⟨by kernel_rfl, ?_⟩)))))
  (repeat refine And.intro (by first | omega | (unfold maxLen; omega) | kernel_rfl | (refine ⟨by first | omega | (unfold maxLen; omega), by first | omega | (unfold maxLen; omega)⟩) | grind) ?_)
  (repeat (first | refine awp_seq ?_ | refine awp_block ?_ | ((first | refine awp_runG [0, 1, 4, 5, 6, 7, 8, 9, 10, 19, 21, 29, 42, 43, 44, 45] hX ?_ | refine awp_drawnG [0, 1, 4, 5, 6, 7, 8, 9, 10, 19, 21, 29, 42, 43, 44, 45] hX mixed ?_ | refine awp_ret ?_ | refine awp_skip ?_ | refine awp_exit ?_); (simp [go_sem]; try (refine ⟨by kernel_rfl, ?_⟩)))))
  refine awp_loop (fun t : Nat => ⟨mkE [(0, il W), (1, ii n), (6, ii s), (7, .ow 0), (8, ii ((t : Int) + 1))], [rowI (giv W t)]⟩) (fun t => t ≤ T) (fun t => T - t) 0 ?_ ?_ ?_
  · rw [hz]
    refine sub_of _ [.old 0 ⟨3, 1, (List.replicate W.length (0 : Int)).map ii⟩] ?_ ?_
    · simp [go_sem, List.map_replicate]
    · simp [go_sem]
  · omega
  · intro t ht
    have hgt := hgl t
    have wr := w64 (x := n % s) (by omega) (by omega)
    (repeat (first | refine awp_seq ?_ | refine awp_block ?_ | ((first | refine awp_runG [0, 1, 4, 5, 6, 7, 8, 9, 10, 19, 21, 29, 42, 43, 44, 45] hX ?_ | refine awp_drawnG [0, 1, 4, 5, 6, 7, 8, 9, 10, 19, 21, 29, 42, 43, 44, 45] hX mixed ?_ | refine awp_ret ?_ | refine awp_skip ?_ | refine awp_exit ?_); (simp [go_sem, hsn, htm, wr]; try (refine ⟨by kernel_rfl, ?_⟩)))))
    refine awp_cond (b := decide (t < T)) (by simp [go_sem, hsn, htm, wr]; try omega) (fun hc => ?_) (fun hc => ?_)
    · simp at hc
      obtain ⟨ok, b, hb, hbe⟩ := hgv t
      have hx := hnx t (by omega)
      rw [hbe] at hx
      have hst := hgs t b hbe
      have hbg : b < (giv W t).length := by omega
      have hbb := hgb t b hb
      rw [gt_at hbg] at hst hbb
      clear hgs hnx hgv hgb hat ok
      obtain ⟨v, hv⟩ : ∃ v, (giv W t)[b] = v := ⟨_, rfl⟩
      rw [hv] at hst hbb
      generalize giv W t = G at *
      have wv := w64 (x := v + 1) (by omega) (by omega)
      have wt := w64 (x := (t : Int) + 1 + 1) (by omega) (by omega)
      (repeat (first | refine awp_seq ?_ | refine awp_block ?_ | ((first | refine awp_runG [0, 1, 4, 5, 6, 7, 8, 9, 10, 19, 21, 29, 42, 43, 44, 45] hX ?_ | refine awp_drawnG [0, 1, 4, 5, 6, 7, 8, 9, 10, 19, 21, 29, 42, 43, 44, 45] hX mixed ?_ | refine awp_ret ?_ | refine awp_skip ?_ | refine awp_exit ?_); (simp [go_sem]; try (refine ⟨by kernel_rfl, ?_⟩)))))
      first | refine callK_intro (hx) rfl (by simp [go_sem]) rfl ?_ | refine callT_intro (hx) rfl (by simp [go_sem]) rfl ?_
      try (simp [go_sem, hbg, hv, wv]; try (refine ⟨by kernel_rfl, ?_⟩))
      try (repeat refine And.intro (by first | omega | (unfold maxLen; omega) | kernel_rfl | (refine ⟨by first | omega | (unfold maxLen; omega), by first | omega | (unfold maxLen; omega)⟩) | grind) ?_)
      try (repeat (first | refine awp_seq ?_ | refine awp_block ?_ | ((first | refine awp_runG [0, 1, 4, 5, 6, 7, 8, 9, 10, 19, 21, 29, 42, 43, 44, 45] hX ?_ | refine awp_drawnG [0, 1, 4, 5, 6, 7, 8, 9, 10, 19, 21, 29, 42, 43, 44, 45] hX mixed ?_ | refine awp_ret ?_ | refine awp_skip ?_ | refine awp_exit ?_); (simp [go_sem, hbg, hv, wv, wt]; try (refine ⟨by kernel_rfl, ?_⟩)))))
      refine ⟨t + 1, by omega, by omega, ?_⟩
      rw [hst]
      refine sub_of _ [.old 0 ⟨3, 1, (G.set b (v + 1)).map ii⟩] (by simp [go_sem]) ?_
      simp [go_sem]
    · have htT : t = T := by simp at hc; omega
      subst htT
      have hgT := hgb t
      clear hgs hnx hgv hgb
      generalize giv W t = G at *
      have hAG : A.length = G.length := by omega
      have mz := mix_zero A G
      have mf := mix_full hAG
      (repeat (first | refine awp_seq ?_ | refine awp_block ?_ | ((first | refine awp_runG [0, 1, 4, 5, 6, 7, 8, 9, 10, 19, 21, 29, 42, 43, 44, 45] hX ?_ | refine awp_drawnG [0, 1, 4, 5, 6, 7, 8, 9, 10, 19, 21, 29, 42, 43, 44, 45] hX mixed ?_ | refine awp_ret ?_ | refine awp_skip ?_ | refine awp_exit ?_); (simp [go_sem]; try (refine ⟨by kernel_rfl, ?_⟩)))))
      refine awp_loop (fun k : Nat => ⟨mkE [(0, il W), (1, ii n), (6, ii s), (7, .ow 0), (42, il W), (43, ii W.length), (44, ii k)], [rowI (mixL A G k)]⟩) (fun k => k ≤ W.length) (fun k => W.length - k) 0 ?_ ?_ ?_
      · rw [mz]
        refine sub_of _ [.old 0 ⟨3, 1, G.map ii⟩] (by simp [go_sem]) ?_
        simp [go_sem]
      · omega
      · intro k hk
        have ml := mix_len hAG (k := k) (by omega)
        (repeat (first | refine awp_seq ?_ | refine awp_block ?_ | ((first | refine awp_runG [0, 1, 4, 5, 6, 7, 8, 9, 10, 19, 21, 29, 42, 43, 44, 45] hX ?_ | refine awp_drawnG [0, 1, 4, 5, 6, 7, 8, 9, 10, 19, 21, 29, 42, 43, 44, 45] hX mixed ?_ | refine awp_ret ?_ | refine awp_skip ?_ | refine awp_exit ?_); (simp [go_sem]; try (refine ⟨by kernel_rfl, ?_⟩)))))
        refine awp_cond (b := decide (k < W.length)) (by simp [go_sem]) (fun hd => ?_) (fun hd => ?_)
        · simp at hd
          have ms := mix_set hAG (k := k) (by omega)
          have hkm : k < (mixL A G k).length := by omega
          have ma := mix_at hAG (k := k) (by omega) hkm
          have ha := hat k hd (by omega) (by omega)
          have hkb := hgn k hd
          have hGk := hgT k hd
          have hWk := hW0 k
          rw [gt_at (by omega), gt_at hd] at hkb
          rw [gt_at (by omega)] at hGk
          rw [ha] at ms hkb
          obtain ⟨g, hg⟩ : ∃ g, G[k]'(by omega) = g := ⟨_, rfl⟩
          obtain ⟨w, hw⟩ : ∃ w, W[k] = w := ⟨_, rfl⟩
          rw [hg] at ma ms hkb hGk
          rw [hw] at ms hkb
          clear ha hat hg ml
          generalize mixL A G k = R at *
          have w1 := w64 (x := n / s) (by omega) (by omega)
          have w2 := w64 (x := n / s * w) (by omega) (by omega)
          have w3 := w64 (x := g + n / s * w) (by omega) (by omega)
          have w4 := w64 (x := (k : Int) + 1) (by omega) (by omega)
          (repeat (first | refine awp_seq ?_ | refine awp_block ?_ | ((first | refine awp_runG [0, 1, 4, 5, 6, 7, 8, 9, 10, 19, 21, 29, 42, 43, 44, 45] hX ?_ | refine awp_drawnG [0, 1, 4, 5, 6, 7, 8, 9, 10, 19, 21, 29, 42, 43, 44, 45] hX mixed ?_ | refine awp_ret ?_ | refine awp_skip ?_ | refine awp_exit ?_); (simp [go_sem, hd, hkm, ma, hw, hsn, htd, w1, w2, w3, w4]; try (refine ⟨by kernel_rfl, ?_⟩)))))
          try (repeat refine And.intro (by first | omega | (unfold maxLen; omega) | kernel_rfl | (refine ⟨by first | omega | (unfold maxLen; omega), by first | omega | (unfold maxLen; omega)⟩) | grind) ?_)
          try (repeat (first | refine awp_seq ?_ | refine awp_block ?_ | ((first | refine awp_runG [0, 1, 4, 5, 6, 7, 8, 9, 10, 19, 21, 29, 42, 43, 44, 45] hX ?_ | refine awp_drawnG [0, 1, 4, 5, 6, 7, 8, 9, 10, 19, 21, 29, 42, 43, 44, 45] hX mixed ?_ | refine awp_ret ?_ | refine awp_skip ?_ | refine awp_exit ?_); (simp [go_sem, hd, hkm, ma, hw, hsn, htd, w1, w2, w3, w4]; try (refine ⟨by kernel_rfl, ?_⟩)))))
          refine ⟨k + 1, by omega, by omega, ?_⟩
          rw [← ms]
          refine sub_of _ [.old 0 ⟨3, 1, (R.set k (g + n / s * w)).map ii⟩] (by simp [go_sem]) ?_
          simp [go_sem]
        · have e : mixL A G k = A := by
            have : k = A.length := by simp at hd; omega
            rw [this]; exact mf
          rw [e]
          (repeat (first | refine awp_seq ?_ | refine awp_block ?_ | ((first | refine awp_runG [0, 1, 4, 5, 6, 7, 8, 9, 10, 19, 21, 29, 42, 43, 44, 45] hX ?_ | refine awp_drawnG [0, 1, 4, 5, 6, 7, 8, 9, 10, 19, 21, 29, 42, 43, 44, 45] hX mixed ?_ | refine awp_ret ?_ | refine awp_skip ?_ | refine awp_exit ?_); (simp [go_sem]; try (refine ⟨by kernel_rfl, ?_⟩)))))

set_option maxHeartbeats 16000000 in
set_option maxRecDepth 20000 in
theorem given_h (W : List Int) (n : Int) (hl : W.length ≤ 9223372036854775807) (he : givenE W n = 0) : MeansH Try.prog 44 [] [il W, ii n] (.tup [.ow 0, ii 0]) [rowI (given W n)] := by
  obtain ⟨hok, hse, hs0, hs1, hn0, hn1, hn⟩ := givenE_zero he
  have hl60 := okW_len hok
  have hsm := wsum_m W hl
  rw [hse] at hsm
  have hgv := fun t => giv_ok (gt_W hok) hs0 t
  have hgl := fun t => giv_len W t
  have hgb := fun t i (h : i < W.length) => giv_le hok hs0 t h
  have hWb := fun i (h : i < W.length) => W_le hok h
  have hW0 := gt_W hok
  have hgn := fun i (h : i < W.length) => given_bd (n := n) hok hs0 hn0 h
  have hA := given_len W n
  have hat := fun i h h' h2 => given_at (W := W) (n := n) (i := i) h h' h2
  have htm : n.tmod (sumL W) = n % sumL W := Int.tmod_eq_emod_of_nonneg hn0
  have htd : n.tdiv (sumL W) = n / sumL W := Int.tdiv_eq_ediv_of_nonneg hn0
  have hm0 := Int.emod_nonneg n (show sumL W ≠ 0 by omega)
  have hm1 := Int.emod_lt_of_pos n hs0
  have hd0 := Int.ediv_nonneg hn0 (show 0 ≤ sumL W by omega)
  have hd1 := Int.ediv_le_self (sumL W) hn0
  obtain ⟨T, hT⟩ : ∃ T : Nat, (T : Int) = n % sumL W := ⟨(n % sumL W).toNat, by omega⟩
  have hTt : (n % sumL W).toNat = T := by omega
  rw [hTt] at hat
  have hnx := fun t (ht : t ≤ 65536) => next_m W (giv W t) ((t : Int) + 1) (sumL W) hl60 (hgl t) (fun i hi => ⟨hW0 i, Int.le_trans (hWb i hi) hs1⟩) (fun i hi => by have := hgb t i hi; omega) (by omega) (by omega)
  have hgs : ∀ t b, bst W (giv W t) ((t : Int) + 1) (sumL W) W.length = (b : Nat) → giv W (t + 1) = (giv W t).set b (gt (giv W t) b + 1) := fun t b hb => by simp only [giv]; rw [hb, Int.toNat_natCast]
  have hz : giv W 0 = List.replicate W.length 0 := rfl
  generalize hAe : given W n = A at *
  generalize sumL W = s at *
  have hww := w64 (x := (W.length : Int)) (by omega) (by omega)
  refine meansH_fn 0 62 [.tmp 4, .tmp 5] Try.func44 rfl rfl rfl (by simp) (by decide) rfl fun X hX => ?_
  (repeat (first | refine awp_seq ?_ | refine awp_block ?_ | ((first | refine awp_runG [0, 1, 4, 5, 6, 7, 8, 9, 10, 19, 21, 29, 42, 43, 44, 45] hX ?_ | refine awp_drawnG [0, 1, 4, 5, 6, 7, 8, 9, 10, 19, 21, 29, 42, 43, 44, 45] hX mixed ?_ | refine awp_skip ?_ | refine awp_exit ?_); (simp [go_sem]; try (refine ⟨by kernel_rfl, ?_⟩)))))
  first | refine callK_intro (hsm) rfl (by simp [go_sem]) rfl ?_ | refine callT_intro (hsm) rfl (by simp [go_sem]) rfl ?_
  try (simp [go_sem]; try (refine ⟨by kernel_rfl, ?_⟩))
  (repeat (first | refine awp_seq ?_ | refine awp_block ?_ | ((first | refine awp_runG [0, 1, 4, 5, 6, 7, 8, 9, 10, 19, 21, 29, 42, 43, 44, 45] hX ?_ | refine awp_drawnG [0, 1, 4, 5, 6, 7, 8, 9, 10, 19, 21, 29, 42, 43, 44, 45] hX mixed ?_ | refine awp_skip ?_ | refine awp_exit ?_); (simp [go_sem]; try (refine ⟨by kernel_rfl, ?_⟩)))))
  first | refine callG_intro (fun hg => amount_m n) rfl (by simp [go_sem]) rfl ?_ | refine callGT_intro (fun hg => amount_m n) rfl (by simp [go_sem]) rfl ?_
  try (simp [go_sem]; try (refine ⟨by kernel_rfl, ?_⟩))
  have hsn : s ≠ 0 := by omega
  refine awp_cond (b := false) (by simp [go_sem, hsn, hn]) (fun h => by cases h) (fun _ => ?_)
  (repeat (first | refine awp_seq ?_ | refine awp_block ?_ | ((first | refine awp_runG [0, 1, 4, 5, 6, 7, 8, 9, 10, 19, 21, 29, 42, 43, 44, 45] hX ?_ | refine awp_drawnG [0, 1, 4, 5, 6, 7, 8, 9, 10, 19, 21, 29, 42, 43, 44, 45] hX mixed ?_ | refine awp_skip ?_ | refine awp_exit ?_); (simp [go_sem]; try (refine ⟨by kernel_rfl, ?_⟩)))))
  refine awp_cond (b := false) (by simp [go_sem]; try omega) (fun h => by cases h) (fun _ => ?_)
  (repeat (first | refine awp_seq ?_ | refine awp_block ?_ | ((first | refine awp_runG [0, 1, 4, 5, 6, 7, 8, 9, 10, 19, 21, 29, 42, 43, 44, 45] hX ?_ | refine awp_drawnG [0, 1, 4, 5, 6, 7, 8, 9, 10, 19, 21, 29, 42, 43, 44, 45] hX mixed ?_ | refine awp_skip ?_ | refine awp_exit ?_); (simp [go_sem]; try (refine ⟨by kernel_rfl, ?_⟩)))))
  (repeat refine And.intro (by first | omega | (unfold maxLen; omega) | kernel_rfl | (refine ⟨by first | omega | (unfold maxLen; omega), by first | omega | (unfold maxLen; omega)⟩) | grind) ?_)
  (repeat (first | refine awp_seq ?_ | refine awp_block ?_ | ((first | refine awp_runG [0, 1, 4, 5, 6, 7, 8, 9, 10, 19, 21, 29, 42, 43, 44, 45] hX ?_ | refine awp_drawnG [0, 1, 4, 5, 6, 7, 8, 9, 10, 19, 21, 29, 42, 43, 44, 45] hX mixed ?_ | refine awp_skip ?_ | refine awp_exit ?_); (simp [go_sem]; try (refine ⟨by kernel_rfl, ?_⟩)))))
  refine awp_loop (fun t : Nat => ⟨mkE [(0, il W), (1, ii n), (6, ii s), (7, .ow 0), (8, ii ((t : Int) + 1))], [rowI (giv W t)]⟩) (fun t => t ≤ T) (fun t => T - t) 0 ?_ ?_ ?_
  · rw [hz]
    refine sub_of _ [.old 0 ⟨3, 1, (List.replicate W.length (0 : Int)).map ii⟩] ?_ ?_
    · simp [go_sem, List.map_replicate]
    · simp [go_sem]
  · omega
  · intro t ht
    have hgt := hgl t
    have wr := w64 (x := n % s) (by omega) (by omega)
    (repeat (first | refine awp_seq ?_ | refine awp_block ?_ | ((first | refine awp_runG [0, 1, 4, 5, 6, 7, 8, 9, 10, 19, 21, 29, 42, 43, 44, 45] hX ?_ | refine awp_drawnG [0, 1, 4, 5, 6, 7, 8, 9, 10, 19, 21, 29, 42, 43, 44, 45] hX mixed ?_ | refine awp_skip ?_ | refine awp_exit ?_); (simp [go_sem, hsn, htm, wr]; try (refine ⟨by kernel_rfl, ?_⟩)))))
    refine awp_cond (b := decide (t < T)) (by simp [go_sem, hsn, htm, wr]; try omega) (fun hc => ?_) (fun hc => ?_)
    · simp at hc
      obtain ⟨ok, b, hb, hbe⟩ := hgv t
      have hx := hnx t (by omega)
      rw [hbe] at hx
      have hst := hgs t b hbe
      have hbg : b < (giv W t).length := by omega
      have hbb := hgb t b hb
      rw [gt_at hbg] at hst hbb
      clear hgs hnx hgv hgb hat ok
      obtain ⟨v, hv⟩ : ∃ v, (giv W t)[b] = v := ⟨_, rfl⟩
      rw [hv] at hst hbb
      generalize giv W t = G at *
      have wv := w64 (x := v + 1) (by omega) (by omega)
      have wt := w64 (x := (t : Int) + 1 + 1) (by omega) (by omega)
      (repeat (first | refine awp_seq ?_ | refine awp_block ?_ | ((first | refine awp_runG [0, 1, 4, 5, 6, 7, 8, 9, 10, 19, 21, 29, 42, 43, 44, 45] hX ?_ | refine awp_drawnG [0, 1, 4, 5, 6, 7, 8, 9, 10, 19, 21, 29, 42, 43, 44, 45] hX mixed ?_ | refine awp_skip ?_ | refine awp_exit ?_); (simp [go_sem]; try (refine ⟨by kernel_rfl, ?_⟩)))))
      first | refine callK_intro (hx) rfl (by simp [go_sem]) rfl ?_ | refine callT_intro (hx) rfl (by simp [go_sem]) rfl ?_
      try (simp [go_sem, hbg, hv, wv]; try (refine ⟨by kernel_rfl, ?_⟩))
      try (repeat refine And.intro (by first | omega | (unfold maxLen; omega) | kernel_rfl | (refine ⟨by first | omega | (unfold maxLen; omega), by first | omega | (unfold maxLen; omega)⟩) | grind) ?_)
      try (repeat (first | refine awp_seq ?_ | refine awp_block ?_ | ((first | refine awp_runG [0, 1, 4, 5, 6, 7, 8, 9, 10, 19, 21, 29, 42, 43, 44, 45] hX ?_ | refine awp_drawnG [0, 1, 4, 5, 6, 7, 8, 9, 10, 19, 21, 29, 42, 43, 44, 45] hX mixed ?_ | refine awp_skip ?_ | refine awp_exit ?_); (simp [go_sem, hbg, hv, wv, wt]; try (refine ⟨by kernel_rfl, ?_⟩)))))
      refine ⟨t + 1, by omega, by omega, ?_⟩
      rw [hst]
      refine sub_of _ [.old 0 ⟨3, 1, (G.set b (v + 1)).map ii⟩] (by simp [go_sem]) ?_
      simp [go_sem]
    · have htT : t = T := by simp at hc; omega
      subst htT
      have hgT := hgb t
      clear hgs hnx hgv hgb
      generalize giv W t = G at *
      have hAG : A.length = G.length := by omega
      have mz := mix_zero A G
      have mf := mix_full hAG
      (repeat (first | refine awp_seq ?_ | refine awp_block ?_ | ((first | refine awp_runG [0, 1, 4, 5, 6, 7, 8, 9, 10, 19, 21, 29, 42, 43, 44, 45] hX ?_ | refine awp_drawnG [0, 1, 4, 5, 6, 7, 8, 9, 10, 19, 21, 29, 42, 43, 44, 45] hX mixed ?_ | refine awp_skip ?_ | refine awp_exit ?_); (simp [go_sem]; try (refine ⟨by kernel_rfl, ?_⟩)))))
      refine awp_loop (fun k : Nat => ⟨mkE [(0, il W), (1, ii n), (6, ii s), (7, .ow 0), (42, il W), (43, ii W.length), (44, ii k)], [rowI (mixL A G k)]⟩) (fun k => k ≤ W.length) (fun k => W.length - k) 0 ?_ ?_ ?_
      · rw [mz]
        refine sub_of _ [.old 0 ⟨3, 1, G.map ii⟩] (by simp [go_sem]) ?_
        simp [go_sem]
      · omega
      · intro k hk
        have ml := mix_len hAG (k := k) (by omega)
        (repeat (first | refine awp_seq ?_ | refine awp_block ?_ | ((first | refine awp_runG [0, 1, 4, 5, 6, 7, 8, 9, 10, 19, 21, 29, 42, 43, 44, 45] hX ?_ | refine awp_drawnG [0, 1, 4, 5, 6, 7, 8, 9, 10, 19, 21, 29, 42, 43, 44, 45] hX mixed ?_ | refine awp_skip ?_ | refine awp_exit ?_); (simp [go_sem]; try (refine ⟨by kernel_rfl, ?_⟩)))))
        refine awp_cond (b := decide (k < W.length)) (by simp [go_sem]) (fun hd => ?_) (fun hd => ?_)
        · simp at hd
          have ms := mix_set hAG (k := k) (by omega)
          have hkm : k < (mixL A G k).length := by omega
          have ma := mix_at hAG (k := k) (by omega) hkm
          have ha := hat k hd (by omega) (by omega)
          have hkb := hgn k hd
          have hGk := hgT k hd
          have hWk := hW0 k
          rw [gt_at (by omega), gt_at hd] at hkb
          rw [gt_at (by omega)] at hGk
          rw [ha] at ms hkb
          obtain ⟨g, hg⟩ : ∃ g, G[k]'(by omega) = g := ⟨_, rfl⟩
          obtain ⟨w, hw⟩ : ∃ w, W[k] = w := ⟨_, rfl⟩
          rw [hg] at ma ms hkb hGk
          rw [hw] at ms hkb
          clear ha hat hg ml
          generalize mixL A G k = R at *
          have w1 := w64 (x := n / s) (by omega) (by omega)
          have w2 := w64 (x := n / s * w) (by omega) (by omega)
          have w3 := w64 (x := g + n / s * w) (by omega) (by omega)
          have w4 := w64 (x := (k : Int) + 1) (by omega) (by omega)
          (repeat (first | refine awp_seq ?_ | refine awp_block ?_ | ((first | refine awp_runG [0, 1, 4, 5, 6, 7, 8, 9, 10, 19, 21, 29, 42, 43, 44, 45] hX ?_ | refine awp_drawnG [0, 1, 4, 5, 6, 7, 8, 9, 10, 19, 21, 29, 42, 43, 44, 45] hX mixed ?_ | refine awp_skip ?_ | refine awp_exit ?_); (simp [go_sem, hd, hkm, ma, hw, hsn, htd, w1, w2, w3, w4]; try (refine ⟨by kernel_rfl, ?_⟩)))))
          try (repeat refine And.intro (by first | omega | (unfold maxLen; omega) | kernel_rfl | (refine ⟨by first | omega | (unfold maxLen; omega), by first | omega | (unfold maxLen; omega)⟩) | grind) ?_)
          try (repeat (first | refine awp_seq ?_ | refine awp_block ?_ | ((first | refine awp_runG [0, 1, 4, 5, 6, 7, 8, 9, 10, 19, 21, 29, 42, 43, 44, 45] hX ?_ | refine awp_drawnG [0, 1, 4, 5, 6, 7, 8, 9, 10, 19, 21, 29, 42, 43, 44, 45] hX mixed ?_ | refine awp_skip ?_ | refine awp_exit ?_); (simp [go_sem, hd, hkm, ma, hw, hsn, htd, w1, w2, w3, w4]; try (refine ⟨by kernel_rfl, ?_⟩)))))
          refine ⟨k + 1, by omega, by omega, ?_⟩
          rw [← ms]
          refine sub_of _ [.old 0 ⟨3, 1, (R.set k (g + n / s * w)).map ii⟩] (by simp [go_sem]) ?_
          simp [go_sem]
        · have e : mixL A G k = A := by
            have : k = A.length := by simp at hd; omega
            rw [this]; exact mf
          rw [e]
          (repeat (first | refine awp_seq ?_ | refine awp_block ?_ | ((first | refine awp_runG [0, 1, 4, 5, 6, 7, 8, 9, 10, 19, 21, 29, 42, 43, 44, 45] hX ?_ | refine awp_drawnG [0, 1, 4, 5, 6, 7, 8, 9, 10, 19, 21, 29, 42, 43, 44, 45] hX mixed ?_ | refine awp_skip ?_ | refine awp_exit ?_); (simp [go_sem]; try (refine ⟨by kernel_rfl, ?_⟩)))))
          refine awp_ret ?_; (try simp only [thenQ, blkQ, loopQ]); refine retH_ret [(4, .ow 0), (5, ii 0)] [.old 0 ⟨3, 1, A.map ii⟩] ?_
          simp [go_sem]

theorem given_no (W : List Int) (n : Int) (hl : W.length ≤ 9223372036854775807) (he : givenE W n ≠ 0) : Means true Try.prog 44 [il W, ii n] (.tup [il [], ii (givenE W n)]) := by
  have hsm := wsum_m W hl
  unfold givenE at he ⊢
  generalize wsum W = s at *
  by_cases h1 : s = 0 ∨ isAm n = false
  · rw [if_pos h1]
    refine means_fn true 62 [.tmp 4, .tmp 5] Try.func44 rfl rfl rfl (by simp) (by decide) rfl fun X hX => ?_
    (repeat (first | refine awp_seq ?_ | refine awp_block ?_ | ((first | refine awp_runG [0, 1, 4, 5, 6, 7, 8, 9, 10, 19, 21, 29, 42, 43, 44, 45] hX ?_ | refine awp_drawnG [0, 1, 4, 5, 6, 7, 8, 9, 10, 19, 21, 29, 42, 43, 44, 45] hX mixed ?_ | refine awp_ret ?_ | refine awp_skip ?_ | refine awp_exit ?_); (simp [go_sem]; try (refine ⟨by kernel_rfl, ?_⟩)))))
    first | refine callK_intro (hsm) rfl (by simp [go_sem]) rfl ?_ | refine callT_intro (hsm) rfl (by simp [go_sem]) rfl ?_
    try (simp [go_sem]; try (refine ⟨by kernel_rfl, ?_⟩))
    (repeat (first | refine awp_seq ?_ | refine awp_block ?_ | ((first | refine awp_runG [0, 1, 4, 5, 6, 7, 8, 9, 10, 19, 21, 29, 42, 43, 44, 45] hX ?_ | refine awp_drawnG [0, 1, 4, 5, 6, 7, 8, 9, 10, 19, 21, 29, 42, 43, 44, 45] hX mixed ?_ | refine awp_ret ?_ | refine awp_skip ?_ | refine awp_exit ?_); (simp [go_sem]; try (refine ⟨by kernel_rfl, ?_⟩)))))
    first | refine callG_intro (fun hg => amount_m n) rfl (by simp [go_sem]) rfl ?_ | refine callGT_intro (fun hg => amount_m n) rfl (by simp [go_sem]) rfl ?_
    try (simp [go_sem]; try (refine ⟨by kernel_rfl, ?_⟩))
    refine awp_cond (b := true) (by rcases h1 with h1 | h1 <;> simp [go_sem, h1]) (fun _ => ?_) (fun h => by cases h)
    (repeat (first | refine awp_seq ?_ | refine awp_block ?_ | ((first | refine awp_runG [0, 1, 4, 5, 6, 7, 8, 9, 10, 19, 21, 29, 42, 43, 44, 45] hX ?_ | refine awp_drawnG [0, 1, 4, 5, 6, 7, 8, 9, 10, 19, 21, 29, 42, 43, 44, 45] hX mixed ?_ | refine awp_ret ?_ | refine awp_skip ?_ | refine awp_exit ?_); (simp [go_sem]; try (refine ⟨by kernel_rfl, ?_⟩)))))
  · rw [if_neg h1] at he ⊢
    have h2 : 65536 < s := Classical.byContradiction fun q => he (if_neg q)
    rw [if_pos h2]
    have hn : isAm n = true := by cases q : isAm n with
      | true => rfl
      | false => exact absurd (.inr q) h1
    refine means_fn true 62 [.tmp 4, .tmp 5] Try.func44 rfl rfl rfl (by simp) (by decide) rfl fun X hX => ?_
    (repeat (first | refine awp_seq ?_ | refine awp_block ?_ | ((first | refine awp_runG [0, 1, 4, 5, 6, 7, 8, 9, 10, 19, 21, 29, 42, 43, 44, 45] hX ?_ | refine awp_drawnG [0, 1, 4, 5, 6, 7, 8, 9, 10, 19, 21, 29, 42, 43, 44, 45] hX mixed ?_ | refine awp_ret ?_ | refine awp_skip ?_ | refine awp_exit ?_); (simp [go_sem]; try (refine ⟨by kernel_rfl, ?_⟩)))))
    first | refine callK_intro (hsm) rfl (by simp [go_sem]) rfl ?_ | refine callT_intro (hsm) rfl (by simp [go_sem]) rfl ?_
    try (simp [go_sem]; try (refine ⟨by kernel_rfl, ?_⟩))
    (repeat (first | refine awp_seq ?_ | refine awp_block ?_ | ((first | refine awp_runG [0, 1, 4, 5, 6, 7, 8, 9, 10, 19, 21, 29, 42, 43, 44, 45] hX ?_ | refine awp_drawnG [0, 1, 4, 5, 6, 7, 8, 9, 10, 19, 21, 29, 42, 43, 44, 45] hX mixed ?_ | refine awp_ret ?_ | refine awp_skip ?_ | refine awp_exit ?_); (simp [go_sem]; try (refine ⟨by kernel_rfl, ?_⟩)))))
    first | refine callG_intro (fun hg => amount_m n) rfl (by simp [go_sem]) rfl ?_ | refine callGT_intro (fun hg => amount_m n) rfl (by simp [go_sem]) rfl ?_
    try (simp [go_sem]; try (refine ⟨by kernel_rfl, ?_⟩))
    have hs : s ≠ 0 := by omega
    refine awp_cond (b := false) (by simp [go_sem, hs, hn]) (fun h => by cases h) (fun _ => ?_)
    (repeat (first | refine awp_seq ?_ | refine awp_block ?_ | ((first | refine awp_runG [0, 1, 4, 5, 6, 7, 8, 9, 10, 19, 21, 29, 42, 43, 44, 45] hX ?_ | refine awp_drawnG [0, 1, 4, 5, 6, 7, 8, 9, 10, 19, 21, 29, 42, 43, 44, 45] hX mixed ?_ | refine awp_ret ?_ | refine awp_skip ?_ | refine awp_exit ?_); (simp [go_sem]; try (refine ⟨by kernel_rfl, ?_⟩)))))
    refine awp_cond (b := true) (by simp [go_sem, h2]) (fun _ => ?_) (fun h => by cases h)
    (repeat (first | refine awp_seq ?_ | refine awp_block ?_ | ((first | refine awp_runG [0, 1, 4, 5, 6, 7, 8, 9, 10, 19, 21, 29, 42, 43, 44, 45] hX ?_ | refine awp_drawnG [0, 1, 4, 5, 6, 7, 8, 9, 10, 19, 21, 29, 42, 43, 44, 45] hX mixed ?_ | refine awp_ret ?_ | refine awp_skip ?_ | refine awp_exit ?_); (simp [go_sem]; try (refine ⟨by kernel_rfl, ?_⟩)))))
theorem given_m (W : List Int) (n : Int) (hl : W.length ≤ 9223372036854775807) : Means true Try.prog 44 [il W, ii n] (.tup [il (if givenE W n = 0 then given W n else []), ii (givenE W n)]) := by
  by_cases h : givenE W n = 0
  · rw [if_pos h, h]; exact given_ok W n hl h
  · rw [if_neg h]; exact given_no W n hl h

end Go.Proofs.Ytlcmmaokfbjojaa
