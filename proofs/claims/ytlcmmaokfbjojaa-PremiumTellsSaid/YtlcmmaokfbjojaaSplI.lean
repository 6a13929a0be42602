/-
  Layer 18: dividing fairly.
-/
import Derived.Test.YtlcmmaokfbjojaaSplD
set_option linter.all false
namespace Go.Proofs.Ytlcmmaokfbjojaa
open Go.RowKit Go.Ab
attribute [local irreducible] AWP Go.Ab.Sub Means MeansH CallK CallG CallT CallGT CallU

set_option maxHeartbeats 16000000 in
set_option maxRecDepth 20000 in
theorem fair_m (n : Int) (W : List Int) (b : Int) (hl : W.length ≤ 9223372036854775807) : Means true Try.prog 25 [ii n, il W, ii b] (.tup [il (if fairE n W b = 0 then fair n W b else []), ii (fairE n W b)]) := by
  by_cases hA : isAm n = false ∨ isAm b = false
  · have e : fairE n W b = 1 := if_pos hA
    rw [e, if_neg (by decide)]
    refine means_fn true 57 [.tmp 6, .tmp 7] Try.func25 rfl rfl rfl (by simp) (by decide) rfl fun X hX => ?_
    (repeat (first | refine awp_seq ?_ | refine awp_block ?_ | ((first | refine awp_runG [0, 1, 2, 6, 7, 8, 9, 10, 11, 19, 27, 38, 41, 42, 43] hX ?_ | refine awp_drawnG [0, 1, 2, 6, 7, 8, 9, 10, 11, 19, 27, 38, 41, 42, 43] hX mixed ?_ | refine awp_ret ?_ | refine awp_skip ?_ | refine awp_exit ?_); (simp [go_sem]; try (refine ⟨by kernel_rfl, ?_⟩)))))
    first | refine callK_intro (amount_m n) rfl (by simp [go_sem]) rfl ?_ | refine callT_intro (amount_m n) rfl (by simp [go_sem]) rfl ?_
    try (simp [go_sem]; try (refine ⟨by kernel_rfl, ?_⟩))
    first | refine callG_intro (fun hg => amount_m b) rfl (by simp [go_sem]) rfl ?_ | refine callGT_intro (fun hg => amount_m b) rfl (by simp [go_sem]) rfl ?_
    try (simp [go_sem]; try (refine ⟨by kernel_rfl, ?_⟩))
    refine awp_cond (b := true) (by rcases hA with h | h <;> simp [go_sem, h]) (fun _ => ?_) (fun h => by cases h)
    (repeat (first | refine awp_seq ?_ | refine awp_block ?_ | ((first | refine awp_runG [0, 1, 2, 6, 7, 8, 9, 10, 11, 19, 27, 38, 41, 42, 43] hX ?_ | refine awp_drawnG [0, 1, 2, 6, 7, 8, 9, 10, 11, 19, 27, 38, 41, 42, 43] hX mixed ?_ | refine awp_ret ?_ | refine awp_skip ?_ | refine awp_exit ?_); (simp [go_sem]; try (refine ⟨by kernel_rfl, ?_⟩)))))
  · have hn : isAm n = true := by cases q : isAm n with
      | true => rfl
      | false => exact absurd (.inl q) hA
    have hb : isAm b = true := by cases q : isAm b with
      | true => rfl
      | false => exact absurd (.inr q) hA
    have hn2 : 0 ≤ n ∧ n ≤ 1099511627776 := by simpa [isAm] using hn
    have hb2 : 0 ≤ b ∧ b ≤ 1099511627776 := by simpa [isAm] using hb
    by_cases h1 : givenE W b = 0
    · have c1 := given_m W b hl
      rw [if_pos h1, h1] at c1
      have e : fairE n W b = givenE W (b + n) := by unfold fairE; rw [if_neg hA, if_neg (by rw [h1]; simp)]
      have ws := w64 (x := b + n) (by omega) (by omega)
      by_cases h2 : givenE W (b + n) = 0
      · rw [e, h2, if_pos rfl]
        have c2 := given_h W (b + n) hl h2
        obtain ⟨hok, _, hs0, _, hm0, _, _⟩ := givenE_zero h2
        have hF := fair_len n W b
        have hA2 := given_len W (b + n)
        have hB2 := given_len W b
        have hat := fun i h h1 h2 => fair_at (n := n) (W := W) (b := b) (i := i) h h1 h2
        have hb1 := fun i (h : i < W.length) => given_bd (n := b + n) hok hs0 (by omega) h
        have hb3 := fun i (h : i < W.length) => given_bd (n := b) hok hs0 hb2.1 h
        have hl60 := okW_len hok
        clear e h1 h2 hA
        generalize fair n W b = F at *
        generalize given W (b + n) = A at *
        generalize given W b = B at *
        have hFA : F.length = A.length := by omega
        have mz := mix_zero F A
        have mf := mix_full hFA
        refine means_fn true 57 [.tmp 6, .tmp 7] Try.func25 rfl rfl rfl (by simp) (by decide) rfl fun X hX => ?_
        (repeat (first | refine awp_seq ?_ | refine awp_block ?_ | ((first | refine awp_runG [0, 1, 2, 6, 7, 8, 9, 10, 11, 19, 27, 38, 41, 42, 43] hX ?_ | refine awp_drawnG [0, 1, 2, 6, 7, 8, 9, 10, 11, 19, 27, 38, 41, 42, 43] hX mixed ?_ | refine awp_ret ?_ | refine awp_skip ?_ | refine awp_exit ?_); (simp [go_sem]; try (refine ⟨by kernel_rfl, ?_⟩)))))
        first | refine callK_intro (amount_m n) rfl (by simp [go_sem]) rfl ?_ | refine callT_intro (amount_m n) rfl (by simp [go_sem]) rfl ?_
        try (simp [go_sem]; try (refine ⟨by kernel_rfl, ?_⟩))
        first | refine callG_intro (fun hg => amount_m b) rfl (by simp [go_sem]) rfl ?_ | refine callGT_intro (fun hg => amount_m b) rfl (by simp [go_sem]) rfl ?_
        try (simp [go_sem]; try (refine ⟨by kernel_rfl, ?_⟩))
        refine awp_cond (b := false) (by simp [go_sem, hn, hb]) (fun h => by cases h) (fun _ => ?_)
        (repeat (first | refine awp_seq ?_ | refine awp_block ?_ | ((first | refine awp_runG [0, 1, 2, 6, 7, 8, 9, 10, 11, 19, 27, 38, 41, 42, 43] hX ?_ | refine awp_drawnG [0, 1, 2, 6, 7, 8, 9, 10, 11, 19, 27, 38, 41, 42, 43] hX mixed ?_ | refine awp_ret ?_ | refine awp_skip ?_ | refine awp_exit ?_); (simp [go_sem]; try (refine ⟨by kernel_rfl, ?_⟩)))))
        first | refine callK_intro (c1) rfl (by simp [go_sem]) rfl ?_ | refine callT_intro (c1) rfl (by simp [go_sem]) rfl ?_
        try (simp [go_sem]; try (refine ⟨by kernel_rfl, ?_⟩))
        (repeat (first | refine awp_seq ?_ | refine awp_block ?_ | ((first | refine awp_runG [0, 1, 2, 6, 7, 8, 9, 10, 11, 19, 27, 38, 41, 42, 43] hX ?_ | refine awp_drawnG [0, 1, 2, 6, 7, 8, 9, 10, 11, 19, 27, 38, 41, 42, 43] hX mixed ?_ | refine awp_ret ?_ | refine awp_skip ?_ | refine awp_exit ?_); (simp [go_sem]; try (refine ⟨by kernel_rfl, ?_⟩)))))
        refine awp_cond (b := false) (by simp [go_sem]) (fun h => by cases h) (fun _ => ?_)
        (repeat (first | refine awp_seq ?_ | refine awp_block ?_ | ((first | refine awp_runG [0, 1, 2, 6, 7, 8, 9, 10, 11, 19, 27, 38, 41, 42, 43] hX ?_ | refine awp_drawnG [0, 1, 2, 6, 7, 8, 9, 10, 11, 19, 27, 38, 41, 42, 43] hX mixed ?_ | refine awp_ret ?_ | refine awp_skip ?_ | refine awp_exit ?_); (simp [go_sem, ws]; try (refine ⟨by kernel_rfl, ?_⟩)))))
        first | refine callH_intro [] (c2) (by simp [go_sem]) ?_ | refine callTQ_intro [] (c2) (by simp [go_sem]) ?_ | refine callTE_intro [] (c2) (by simp [go_sem]) ?_
        try (simp [go_sem]; try (refine ⟨by kernel_rfl, ?_⟩))
        (repeat (first | refine awp_seq ?_ | refine awp_block ?_ | ((first | refine awp_runG [0, 1, 2, 6, 7, 8, 9, 10, 11, 19, 27, 38, 41, 42, 43] hX ?_ | refine awp_drawnG [0, 1, 2, 6, 7, 8, 9, 10, 11, 19, 27, 38, 41, 42, 43] hX mixed ?_ | refine awp_ret ?_ | refine awp_skip ?_ | refine awp_exit ?_); (simp [go_sem]; try (refine ⟨by kernel_rfl, ?_⟩)))))
        refine awp_cond (b := false) (by simp [go_sem]) (fun h => by cases h) (fun _ => ?_)
        (repeat (first | refine awp_seq ?_ | refine awp_block ?_ | ((first | refine awp_runG [0, 1, 2, 6, 7, 8, 9, 10, 11, 19, 27, 38, 41, 42, 43] hX ?_ | refine awp_drawnG [0, 1, 2, 6, 7, 8, 9, 10, 11, 19, 27, 38, 41, 42, 43] hX mixed ?_ | refine awp_ret ?_ | refine awp_skip ?_ | refine awp_exit ?_); (simp [go_sem, hA2]; try (refine ⟨by kernel_rfl, ?_⟩)))))
        refine awp_loop (fun k : Nat => ⟨mkE [(8, il B), (10, .ow 0), (41, ii W.length), (42, ii k)], [rowI (mixL F A k)]⟩) (fun k => k ≤ W.length) (fun k => W.length - k) 0 ?_ ?_ ?_
        · rw [mz]
          refine sub_of _ [.old 0 ⟨3, 1, A.map ii⟩] (by simp [go_sem]) ?_
          simp [go_sem, hA2]
        · omega
        · intro k hk
          have ml := mix_len hFA (k := k) (by omega)
          have ml2 : (mixL F A k).length = W.length := by omega
          (repeat (first | refine awp_seq ?_ | refine awp_block ?_ | ((first | refine awp_runG [0, 1, 2, 6, 7, 8, 9, 10, 11, 19, 27, 38, 41, 42, 43] hX ?_ | refine awp_drawnG [0, 1, 2, 6, 7, 8, 9, 10, 11, 19, 27, 38, 41, 42, 43] hX mixed ?_ | refine awp_ret ?_ | refine awp_skip ?_ | refine awp_exit ?_); (simp [go_sem, ml2]; try (refine ⟨by kernel_rfl, ?_⟩)))))
          refine awp_cond (b := decide (k < W.length)) (by simp [go_sem, ml2]) (fun hd => ?_) (fun hd => ?_)
          · simp at hd
            have ms := mix_set hFA (k := k) (by omega)
            have hkm : k < (mixL F A k).length := by omega
            have ma := mix_at hFA (k := k) (by omega) hkm
            have ha := hat k (by omega) (by omega) (by omega)
            have q1 := hb1 k hd
            have q2 := hb3 k hd
            rw [gt_at (by omega)] at q1 q2
            rw [ha] at ms
            have hkB : k < B.length := by omega
            obtain ⟨x, hx⟩ : ∃ x, A[k]'(by omega) = x := ⟨_, rfl⟩
            obtain ⟨y, hy⟩ : ∃ y, B[k] = y := ⟨_, rfl⟩
            rw [hx] at ma ms q1
            rw [hy] at ms q2
            clear ha hat hx
            generalize hM : mixL F A k = R at *
            have w1 := w64 (x := x - y) (by omega) (by omega)
            have w2 := w64 (x := (k : Int) + 1) (by omega) (by omega)
            (repeat (first | refine awp_seq ?_ | refine awp_block ?_ | ((first | refine awp_runG [0, 1, 2, 6, 7, 8, 9, 10, 11, 19, 27, 38, 41, 42, 43] hX ?_ | refine awp_drawnG [0, 1, 2, 6, 7, 8, 9, 10, 11, 19, 27, 38, 41, 42, 43] hX mixed ?_ | refine awp_ret ?_ | refine awp_skip ?_ | refine awp_exit ?_); (simp [go_sem, hkm, ma, hkB, hy, w1, w2]; try (refine ⟨by kernel_rfl, ?_⟩)))))
            try (repeat refine And.intro (by first | omega | (unfold maxLen; omega) | kernel_rfl | (refine ⟨by first | omega | (unfold maxLen; omega), by first | omega | (unfold maxLen; omega)⟩) | grind) ?_)
            try (repeat (first | refine awp_seq ?_ | refine awp_block ?_ | ((first | refine awp_runG [0, 1, 2, 6, 7, 8, 9, 10, 11, 19, 27, 38, 41, 42, 43] hX ?_ | refine awp_drawnG [0, 1, 2, 6, 7, 8, 9, 10, 11, 19, 27, 38, 41, 42, 43] hX mixed ?_ | refine awp_ret ?_ | refine awp_skip ?_ | refine awp_exit ?_); (simp [go_sem, hkm, ma, hkB, hy, w1, w2]; try (refine ⟨by kernel_rfl, ?_⟩)))))
            refine ⟨k + 1, by omega, by omega, ?_⟩
            rw [← ms]
            refine sub_of _ [.old 0 ⟨3, 1, (R.set k (x - y)).map ii⟩] (by simp [go_sem]) ?_
            simp [go_sem]
          · have e : mixL F A k = F := by
              have : k = F.length := by simp at hd; omega
              rw [this]; exact mf
            rw [e]
            (repeat (first | refine awp_seq ?_ | refine awp_block ?_ | ((first | refine awp_runG [0, 1, 2, 6, 7, 8, 9, 10, 11, 19, 27, 38, 41, 42, 43] hX ?_ | refine awp_drawnG [0, 1, 2, 6, 7, 8, 9, 10, 11, 19, 27, 38, 41, 42, 43] hX mixed ?_ | refine awp_ret ?_ | refine awp_skip ?_ | refine awp_exit ?_); (simp [go_sem]; try (refine ⟨by kernel_rfl, ?_⟩)))))
      · rw [e, if_neg h2]
        have c2 := given_no W (b + n) hl h2
        have hB2 := given_len W b
        generalize givenE W (b + n) = E at *
        generalize given W b = B at *
        refine means_fn true 57 [.tmp 6, .tmp 7] Try.func25 rfl rfl rfl (by simp) (by decide) rfl fun X hX => ?_
        (repeat (first | refine awp_seq ?_ | refine awp_block ?_ | ((first | refine awp_runG [0, 1, 2, 6, 7, 8, 9, 10, 11, 19, 27, 38, 41, 42, 43] hX ?_ | refine awp_drawnG [0, 1, 2, 6, 7, 8, 9, 10, 11, 19, 27, 38, 41, 42, 43] hX mixed ?_ | refine awp_ret ?_ | refine awp_skip ?_ | refine awp_exit ?_); (simp [go_sem]; try (refine ⟨by kernel_rfl, ?_⟩)))))
        first | refine callK_intro (amount_m n) rfl (by simp [go_sem]) rfl ?_ | refine callT_intro (amount_m n) rfl (by simp [go_sem]) rfl ?_
        try (simp [go_sem]; try (refine ⟨by kernel_rfl, ?_⟩))
        first | refine callG_intro (fun hg => amount_m b) rfl (by simp [go_sem]) rfl ?_ | refine callGT_intro (fun hg => amount_m b) rfl (by simp [go_sem]) rfl ?_
        try (simp [go_sem]; try (refine ⟨by kernel_rfl, ?_⟩))
        refine awp_cond (b := false) (by simp [go_sem, hn, hb]) (fun h => by cases h) (fun _ => ?_)
        (repeat (first | refine awp_seq ?_ | refine awp_block ?_ | ((first | refine awp_runG [0, 1, 2, 6, 7, 8, 9, 10, 11, 19, 27, 38, 41, 42, 43] hX ?_ | refine awp_drawnG [0, 1, 2, 6, 7, 8, 9, 10, 11, 19, 27, 38, 41, 42, 43] hX mixed ?_ | refine awp_ret ?_ | refine awp_skip ?_ | refine awp_exit ?_); (simp [go_sem]; try (refine ⟨by kernel_rfl, ?_⟩)))))
        first | refine callK_intro (c1) rfl (by simp [go_sem]) rfl ?_ | refine callT_intro (c1) rfl (by simp [go_sem]) rfl ?_
        try (simp [go_sem]; try (refine ⟨by kernel_rfl, ?_⟩))
        (repeat (first | refine awp_seq ?_ | refine awp_block ?_ | ((first | refine awp_runG [0, 1, 2, 6, 7, 8, 9, 10, 11, 19, 27, 38, 41, 42, 43] hX ?_ | refine awp_drawnG [0, 1, 2, 6, 7, 8, 9, 10, 11, 19, 27, 38, 41, 42, 43] hX mixed ?_ | refine awp_ret ?_ | refine awp_skip ?_ | refine awp_exit ?_); (simp [go_sem]; try (refine ⟨by kernel_rfl, ?_⟩)))))
        refine awp_cond (b := false) (by simp [go_sem]) (fun h => by cases h) (fun _ => ?_)
        (repeat (first | refine awp_seq ?_ | refine awp_block ?_ | ((first | refine awp_runG [0, 1, 2, 6, 7, 8, 9, 10, 11, 19, 27, 38, 41, 42, 43] hX ?_ | refine awp_drawnG [0, 1, 2, 6, 7, 8, 9, 10, 11, 19, 27, 38, 41, 42, 43] hX mixed ?_ | refine awp_ret ?_ | refine awp_skip ?_ | refine awp_exit ?_); (simp [go_sem, ws]; try (refine ⟨by kernel_rfl, ?_⟩)))))
        first | refine callK_intro (c2) rfl (by simp [go_sem]) rfl ?_ | refine callT_intro (c2) rfl (by simp [go_sem]) rfl ?_
        try (simp [go_sem]; try (refine ⟨by kernel_rfl, ?_⟩))
        (repeat (first | refine awp_seq ?_ | refine awp_block ?_ | ((first | refine awp_runG [0, 1, 2, 6, 7, 8, 9, 10, 11, 19, 27, 38, 41, 42, 43] hX ?_ | refine awp_drawnG [0, 1, 2, 6, 7, 8, 9, 10, 11, 19, 27, 38, 41, 42, 43] hX mixed ?_ | refine awp_ret ?_ | refine awp_skip ?_ | refine awp_exit ?_); (simp [go_sem]; try (refine ⟨by kernel_rfl, ?_⟩)))))
        refine awp_cond (b := true) (by simp [go_sem, h2]) (fun _ => ?_) (fun h => by cases h)
        (repeat (first | refine awp_seq ?_ | refine awp_block ?_ | ((first | refine awp_runG [0, 1, 2, 6, 7, 8, 9, 10, 11, 19, 27, 38, 41, 42, 43] hX ?_ | refine awp_drawnG [0, 1, 2, 6, 7, 8, 9, 10, 11, 19, 27, 38, 41, 42, 43] hX mixed ?_ | refine awp_ret ?_ | refine awp_skip ?_ | refine awp_exit ?_); (simp [go_sem]; try (refine ⟨by kernel_rfl, ?_⟩)))))
    · have e : fairE n W b = givenE W b := by unfold fairE; rw [if_neg hA, if_pos h1]
      rw [e, if_neg h1]
      have c1 := given_no W b hl h1
      generalize givenE W b = E at *
      refine means_fn true 57 [.tmp 6, .tmp 7] Try.func25 rfl rfl rfl (by simp) (by decide) rfl fun X hX => ?_
      (repeat (first | refine awp_seq ?_ | refine awp_block ?_ | ((first | refine awp_runG [0, 1, 2, 6, 7, 8, 9, 10, 11, 19, 27, 38, 41, 42, 43] hX ?_ | refine awp_drawnG [0, 1, 2, 6, 7, 8, 9, 10, 11, 19, 27, 38, 41, 42, 43] hX mixed ?_ | refine awp_ret ?_ | refine awp_skip ?_ | refine awp_exit ?_); (simp [go_sem]; try (refine ⟨by kernel_rfl, ?_⟩)))))
      first | refine callK_intro (amount_m n) rfl (by simp [go_sem]) rfl ?_ | refine callT_intro (amount_m n) rfl (by simp [go_sem]) rfl ?_
      try (simp [go_sem]; try (refine ⟨by kernel_rfl, ?_⟩))
      first | refine callG_intro (fun hg => amount_m b) rfl (by simp [go_sem]) rfl ?_ | refine callGT_intro (fun hg => amount_m b) rfl (by simp [go_sem]) rfl ?_
      try (simp [go_sem]; try (refine ⟨by kernel_rfl, ?_⟩))
      refine awp_cond (b := false) (by simp [go_sem, hn, hb]) (fun h => by cases h) (fun _ => ?_)
      (repeat (first | refine awp_seq ?_ | refine awp_block ?_ | ((first | refine awp_runG [0, 1, 2, 6, 7, 8, 9, 10, 11, 19, 27, 38, 41, 42, 43] hX ?_ | refine awp_drawnG [0, 1, 2, 6, 7, 8, 9, 10, 11, 19, 27, 38, 41, 42, 43] hX mixed ?_ | refine awp_ret ?_ | refine awp_skip ?_ | refine awp_exit ?_); (simp [go_sem]; try (refine ⟨by kernel_rfl, ?_⟩)))))
      first | refine callK_intro (c1) rfl (by simp [go_sem]) rfl ?_ | refine callT_intro (c1) rfl (by simp [go_sem]) rfl ?_
      try (simp [go_sem]; try (refine ⟨by kernel_rfl, ?_⟩))
      (repeat (first | refine awp_seq ?_ | refine awp_block ?_ | ((first | refine awp_runG [0, 1, 2, 6, 7, 8, 9, 10, 11, 19, 27, 38, 41, 42, 43] hX ?_ | refine awp_drawnG [0, 1, 2, 6, 7, 8, 9, 10, 11, 19, 27, 38, 41, 42, 43] hX mixed ?_ | refine awp_ret ?_ | refine awp_skip ?_ | refine awp_exit ?_); (simp [go_sem]; try (refine ⟨by kernel_rfl, ?_⟩)))))
      refine awp_cond (b := true) (by simp [go_sem, h1]) (fun _ => ?_) (fun h => by cases h)
      (repeat (first | refine awp_seq ?_ | refine awp_block ?_ | ((first | refine awp_runG [0, 1, 2, 6, 7, 8, 9, 10, 11, 19, 27, 38, 41, 42, 43] hX ?_ | refine awp_drawnG [0, 1, 2, 6, 7, 8, 9, 10, 11, 19, 27, 38, 41, 42, 43] hX mixed ?_ | refine awp_ret ?_ | refine awp_skip ?_ | refine awp_exit ?_); (simp [go_sem]; try (refine ⟨by kernel_rfl, ?_⟩)))))

end Go.Proofs.Ytlcmmaokfbjojaa
