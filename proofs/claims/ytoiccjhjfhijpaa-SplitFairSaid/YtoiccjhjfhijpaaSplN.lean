/-
  Layer 18: the law SplitFair.
-/
import Derived.Test.YtoiccjhjfhijpaaSplF
import Derived.Test.YtoiccjhjfhijpaaSplL
set_option linter.all false
namespace Go.Proofs.Ytoiccjhjfhijpaa
open Go.RowKit Go.Ab
attribute [local irreducible] AWP Go.Ab.Sub Means MeansH CallK CallG CallT CallGT CallU

theorem sumL_sub : ∀ {A B F : List Int}, A.length = B.length → F.length = A.length → (∀ i (h : i < F.length) (h1 : i < A.length) (h2 : i < B.length), F[i] = A[i] - B[i]) → sumL F = sumL A - sumL B
  | [], [], F, _, h, _ => by have : F = [] := List.length_eq_zero_iff.1 (by simpa using h); subst this; rfl
  | [], b :: B, _, h, _, _ => by simp at h
  | a :: A, [], _, h, _, _ => by simp at h
  | a :: A, b :: B, [], _, h, _ => by simp at h
  | a :: A, b :: B, f :: F, h1, h2, h3 => by
    have h0 := h3 0 (by simp) (by simp) (by simp)
    have ih := sumL_sub (A := A) (B := B) (F := F) (by simpa using h1) (by simpa using h2) fun i h h' h'' => by
      have := h3 (i + 1) (by simp; omega) (by simp; omega) (by simp; omega)
      simpa using this
    simp only [List.getElem_cons_zero] at h0
    simp only [sumL_cons]; omega

set_option maxHeartbeats 16000000 in
set_option maxRecDepth 20000 in
theorem splitFair_m (W : List Int) (hl : W.length ≤ 9223372036854775807) (L : List Int) (hL : L.length ≤ 9223372036854775807) : Means true Try.prog 6 [il W, il L] (bb true) := by
  refine means_fn true 124 [.tmp 4] Try.func6 rfl rfl rfl (by simp) (by decide) rfl fun X hX => ?_
  (repeat (first | refine awp_seq ?_ | refine awp_block ?_ | ((first | refine awp_runG [0, 1, 4, 5, 6, 7, 8, 9, 10, 11, 12, 13, 27, 35, 49, 78, 82, 89] hX ?_ | refine awp_drawnG [0, 1, 4, 5, 6, 7, 8, 9, 10, 11, 12, 13, 27, 35, 49, 78, 82, 89] hX mixed ?_ | refine awp_ret ?_ | refine awp_skip ?_ | refine awp_exit ?_); (simp [go_sem]; try (refine ⟨by kernel_rfl, ?_⟩)))))
  first | refine callK_intro (small_m) rfl (by simp [go_sem]) rfl ?_ | refine callT_intro (small_m) rfl (by simp [go_sem]) rfl ?_
  try (simp [go_sem]; try (refine ⟨by kernel_rfl, ?_⟩))
  (repeat (first | refine awp_seq ?_ | refine awp_block ?_ | ((first | refine awp_runG [0, 1, 4, 5, 6, 7, 8, 9, 10, 11, 12, 13, 27, 35, 49, 78, 82, 89] hX ?_ | refine awp_drawnG [0, 1, 4, 5, 6, 7, 8, 9, 10, 11, 12, 13, 27, 35, 49, 78, 82, 89] hX mixed ?_ | refine awp_ret ?_ | refine awp_skip ?_ | refine awp_exit ?_); (simp [go_sem]; try (refine ⟨by kernel_rfl, ?_⟩)))))
  first | refine callK_intro (slight_m W hl) rfl (by simp [go_sem]) rfl ?_ | refine callT_intro (slight_m W hl) rfl (by simp [go_sem]) rfl ?_
  try (simp [go_sem]; try (refine ⟨by kernel_rfl, ?_⟩))
  first | refine callG_intro (fun hg => rsum_m W hl) rfl (by simp [go_sem]) rfl ?_ | refine callGT_intro (fun hg => rsum_m W hl) rfl (by simp [go_sem]) rfl ?_
  try (simp [go_sem]; try (refine ⟨by kernel_rfl, ?_⟩))
  refine awp_cond (b := !(decide ((W.length : Int) ≤ 12) && decide (wsum W ≤ 3000)) || decide (wsum W = 0) || decide (30 < (L.length : Int))) (by simp [go_sem, Bool.or_assoc]) (fun hb => ?_) (fun hb => ?_)
  · (repeat (first | refine awp_seq ?_ | refine awp_block ?_ | ((first | refine awp_runG [0, 1, 4, 5, 6, 7, 8, 9, 10, 11, 12, 13, 27, 35, 49, 78, 82, 89] hX ?_ | refine awp_drawnG [0, 1, 4, 5, 6, 7, 8, 9, 10, 11, 12, 13, 27, 35, 49, 78, 82, 89] hX mixed ?_ | refine awp_ret ?_ | refine awp_skip ?_ | refine awp_exit ?_); (simp [go_sem]; try (refine ⟨by kernel_rfl, ?_⟩)))))
  simp at hb
  obtain ⟨⟨⟨hl12, h3k⟩, hs0⟩, hL30⟩ := hb
  obtain ⟨hok, hse, hs⟩ := wsum_pos hs0
  have e1 : ∀ n, 0 ≤ n → n ≤ 1099511627776 → givenE W n = 0 := fun n h1 h2 => by unfold givenE; rw [if_neg (by simp [hs0, isAm, h1, h2]), if_neg (by omega)]
  have cg := fun n h1 h2 => given_ok W n hl (e1 n h1 h2)
  have gl := fun n => given_len W n
  have gs := fun n h => given_sum (n := n) hok hs h
  have gb := fun n h i (hi : i < W.length) => given_bd (n := n) hok hs h hi
  have gm := fun n m h q i (hi : i < W.length) => given_mono (n := n) (m := m) hok hs h q hi
  have gz := given_zero hs
  have fe : ∀ n b, 0 ≤ n → 0 ≤ b → b + n ≤ 1099511627776 → fairE n W b = 0 := fun n b h1 h2 h3 => by
    unfold fairE
    rw [if_neg (by simp [isAm]; omega), if_neg (by rw [e1 b h2 (by omega)]; simp), e1 (b + n) (by omega) h3]
  have cf : ∀ n b, 0 ≤ n → 0 ≤ b → b + n ≤ 1099511627776 → Means true Try.prog 17 [ii n, il W, ii b] (.tup [il (fair n W b), ii 0]) := fun n b h1 h2 h3 => fair_t n W b _ hl (fe n b h1 h2 h3) rfl
  have fl := fun n b => fair_len n W b
  have fa := fun n b i h h1 h2 => fair_at (n := n) (W := W) (b := b) (i := i) h h1 h2
  clear e1 fe
  (repeat (first | refine awp_seq ?_ | refine awp_block ?_ | ((first | refine awp_runG [0, 1, 4, 5, 6, 7, 8, 9, 10, 11, 12, 13, 27, 35, 49, 78, 82, 89] hX ?_ | refine awp_drawnG [0, 1, 4, 5, 6, 7, 8, 9, 10, 11, 12, 13, 27, 35, 49, 78, 82, 89] hX mixed ?_ | refine awp_ret ?_ | refine awp_skip ?_ | refine awp_exit ?_); (simp [go_sem]; try (refine ⟨by kernel_rfl, ?_⟩)))))
  (repeat refine And.intro (by first | omega | (unfold maxLen; omega) | kernel_rfl | (refine ⟨by first | omega | (unfold maxLen; omega), by first | omega | (unfold maxLen; omega)⟩) | grind) ?_)
  (repeat (first | refine awp_seq ?_ | refine awp_block ?_ | ((first | refine awp_runG [0, 1, 4, 5, 6, 7, 8, 9, 10, 11, 12, 13, 27, 35, 49, 78, 82, 89] hX ?_ | refine awp_drawnG [0, 1, 4, 5, 6, 7, 8, 9, 10, 11, 12, 13, 27, 35, 49, 78, 82, 89] hX mixed ?_ | refine awp_ret ?_ | refine awp_skip ?_ | refine awp_exit ?_); (simp [go_sem]; try (refine ⟨by kernel_rfl, ?_⟩)))))
  refine awp_loop (fun x : Nat × Int => ⟨mkE [(0, il W), (1, il L), (5, bb true), (6, .ow 0), (7, ii x.2), (8, ii x.1)], [rowI (given W x.2)]⟩) (fun x => x.1 ≤ L.length ∧ 0 ≤ x.2 ∧ x.2 ≤ x.1 * 17179869184) (fun x => L.length - x.1) (0, 0) ?_ ?_ ?_
  · simp only [gz]
    refine sub_of _ [.old 0 ⟨3, 1, (List.replicate W.length (0 : Int)).map ii⟩] ?_ ?_
    · simp [go_sem, List.map_replicate]
    · simp [go_sem]
  · refine ⟨Nat.zero_le _, Int.le_refl _, ?_⟩
    show (0 : Int) ≤ _
    simp
  · rintro ⟨k, b⟩ ⟨g1, g2, g3⟩
    simp only [] at g1 g2 g3
    (repeat (first | refine awp_seq ?_ | refine awp_block ?_ | ((first | refine awp_runG [0, 1, 4, 5, 6, 7, 8, 9, 10, 11, 12, 13, 27, 35, 49, 78, 82, 89] hX ?_ | refine awp_drawnG [0, 1, 4, 5, 6, 7, 8, 9, 10, 11, 12, 13, 27, 35, 49, 78, 82, 89] hX mixed ?_ | refine awp_ret ?_ | refine awp_skip ?_ | refine awp_exit ?_); (simp [go_sem]; try (refine ⟨by kernel_rfl, ?_⟩)))))
    refine awp_cond (b := decide (k < L.length)) (by simp [go_sem]) (fun hc => ?_) (fun hc => ?_)
    · simp at hc
      obtain ⟨x, hx⟩ : ∃ x, L[k] = x := ⟨_, rfl⟩
      (repeat (first | refine awp_seq ?_ | refine awp_block ?_ | ((first | refine awp_runG [0, 1, 4, 5, 6, 7, 8, 9, 10, 11, 12, 13, 27, 35, 49, 78, 82, 89] hX ?_ | refine awp_drawnG [0, 1, 4, 5, 6, 7, 8, 9, 10, 11, 12, 13, 27, 35, 49, 78, 82, 89] hX mixed ?_ | refine awp_ret ?_ | refine awp_skip ?_ | refine awp_exit ?_); (simp [go_sem, hc, hx]; try (refine ⟨by kernel_rfl, ?_⟩)))))
      refine awp_cond (b := decide (x < 0) || decide (17179869184 < x)) (by simp [go_sem, hc, hx]) (fun hd => ?_) (fun hd => ?_)
      · (repeat (first | refine awp_seq ?_ | refine awp_block ?_ | ((first | refine awp_runG [0, 1, 4, 5, 6, 7, 8, 9, 10, 11, 12, 13, 27, 35, 49, 78, 82, 89] hX ?_ | refine awp_drawnG [0, 1, 4, 5, 6, 7, 8, 9, 10, 11, 12, 13, 27, 35, 49, 78, 82, 89] hX mixed ?_ | refine awp_ret ?_ | refine awp_skip ?_ | refine awp_exit ?_); (simp [go_sem]; try (refine ⟨by kernel_rfl, ?_⟩)))))
      · simp at hd
        have c := cf x b hd.1 g2 (by omega)
        have hF := fl x b
        have hA := gl (b + x)
        have hB := gl b
        have hat := fa x b
        have sA := gs (b + x) (by omega)
        have sB := gs b g2
        have bA := gb (b + x) (by omega)
        have bB := gb b g2
        have mo := gm b (b + x) g2 (by omega)
        have hsum : sumL (fair x W b) = x := by
          have := sumL_sub (A := given W (b + x)) (B := given W b) (F := fair x W b) (by omega) (by omega) hat
          omega
        generalize fair x W b = F at *
        generalize hBe : given W b = B at *
        have fb : ∀ i (h : i < W.length) (h1 : i < F.length), 0 ≤ F[i] ∧ F[i] ≤ 1125899906842624 := fun i h h1 => by
          have a1 := bA i h
          have a2 := bB i h
          have a3 := mo i h
          have a4 := hat i h1 (by omega) (by omega)
          rw [gt_at (L := given W (b + x)) (by omega)] at a1 a3
          rw [gt_at (L := B) (by omega)] at a2 a3
          omega
        have ct := total_m F (by omega) (fun y hy => by
          obtain ⟨i, hi, rfl⟩ := List.getElem_of_mem hy
          have := fb i (by omega) hi; omega)
        rw [hsum] at ct
        (repeat (first | refine awp_seq ?_ | refine awp_block ?_ | ((first | refine awp_runG [0, 1, 4, 5, 6, 7, 8, 9, 10, 11, 12, 13, 27, 35, 49, 78, 82, 89] hX ?_ | refine awp_drawnG [0, 1, 4, 5, 6, 7, 8, 9, 10, 11, 12, 13, 27, 35, 49, 78, 82, 89] hX mixed ?_ | refine awp_ret ?_ | refine awp_skip ?_ | refine awp_exit ?_); (simp [go_sem, hc, hx]; try (refine ⟨by kernel_rfl, ?_⟩)))))
        first | refine callK_intro (c) rfl (by simp [go_sem]) rfl ?_ | refine callT_intro (c) rfl (by simp [go_sem]) rfl ?_
        try (simp [go_sem, hF]; try (refine ⟨by kernel_rfl, ?_⟩))
        (repeat (first | refine awp_seq ?_ | refine awp_block ?_ | ((first | refine awp_runG [0, 1, 4, 5, 6, 7, 8, 9, 10, 11, 12, 13, 27, 35, 49, 78, 82, 89] hX ?_ | refine awp_drawnG [0, 1, 4, 5, 6, 7, 8, 9, 10, 11, 12, 13, 27, 35, 49, 78, 82, 89] hX mixed ?_ | refine awp_ret ?_ | refine awp_skip ?_ | refine awp_exit ?_); (simp [go_sem, hF, hc, hx]; try (refine ⟨by kernel_rfl, ?_⟩)))))
        first | refine callG_intro (fun hg => ct) rfl (by simp [go_sem]) rfl ?_ | refine callGT_intro (fun hg => ct) rfl (by simp [go_sem]) rfl ?_
        try (simp [go_sem, hF, hc, hx]; try (refine ⟨by kernel_rfl, ?_⟩))
        refine awp_cond (b := false) (by simp [go_sem, hF, hc, hx]) (fun h => by cases h) (fun _ => ?_)
        (repeat (first | refine awp_seq ?_ | refine awp_block ?_ | ((first | refine awp_runG [0, 1, 4, 5, 6, 7, 8, 9, 10, 11, 12, 13, 27, 35, 49, 78, 82, 89] hX ?_ | refine awp_drawnG [0, 1, 4, 5, 6, 7, 8, 9, 10, 11, 12, 13, 27, 35, 49, 78, 82, 89] hX mixed ?_ | refine awp_ret ?_ | refine awp_skip ?_ | refine awp_exit ?_); (simp [go_sem]; try (refine ⟨by kernel_rfl, ?_⟩)))))
        have mz := mix_zero (given W (b + x)) B
        have hAB : (given W (b + x)).length = B.length := by omega
        have mf := mix_full hAB
        refine awp_loop (fun i : Nat => ⟨mkE [(0, il W), (1, il L), (5, bb true), (6, .ow 0), (7, ii b), (8, ii k), (9, il F), (11, ii i)], [rowI (mixL (given W (b + x)) B i)]⟩) (fun i => i ≤ W.length) (fun i => W.length - i) 0 ?_ ?_ ?_
        · rw [mz]
          refine sub_of _ [.old 0 ⟨3, 1, B.map ii⟩] (by simp [go_sem]) ?_
          simp [go_sem]
        · omega
        · intro i hi
          (repeat (first | refine awp_seq ?_ | refine awp_block ?_ | ((first | refine awp_runG [0, 1, 4, 5, 6, 7, 8, 9, 10, 11, 12, 13, 27, 35, 49, 78, 82, 89] hX ?_ | refine awp_drawnG [0, 1, 4, 5, 6, 7, 8, 9, 10, 11, 12, 13, 27, 35, 49, 78, 82, 89] hX mixed ?_ | refine awp_ret ?_ | refine awp_skip ?_ | refine awp_exit ?_); (simp [go_sem, hF]; try (refine ⟨by kernel_rfl, ?_⟩)))))
          refine awp_cond (b := decide (i < W.length)) (by simp [go_sem, hF]) (fun he => ?_) (fun he => ?_)
          · simp at he
            have hiF : i < F.length := by omega
            have ms := mix_set hAB (k := i) (by omega)
            have him : i < (mixL (given W (b + x)) B i).length := by rw [mix_len hAB (by omega)]; omega
            have ma := mix_at hAB (k := i) (by omega) him
            have q1 := fb i he hiF
            have q2 := bB i he
            have q3 := hat i hiF (by omega) (by omega)
            have q4 := bA i he
            rw [gt_at (by omega)] at q2 q4
            obtain ⟨y, hy⟩ : ∃ y, B[i]'(by omega) = y := ⟨_, rfl⟩
            obtain ⟨z, hz⟩ : ∃ z, F[i] = z := ⟨_, rfl⟩
            have q5 : (given W (b + x))[i]'(by omega) = y + z := by omega
            rw [q5] at ms q4
            rw [hy] at ma q2
            rw [hz] at q1
            clear q3 q5 hy hat
            generalize hR : mixL (given W (b + x)) B i = R at *
            have w1 := w64 (x := y + z) (by omega) (by omega)
            have w2 := w64 (x := (i : Int) + 1) (by omega) (by omega)
            have hzn : ¬ z < 0 := by omega
            (repeat (first | refine awp_seq ?_ | refine awp_block ?_ | ((first | refine awp_runG [0, 1, 4, 5, 6, 7, 8, 9, 10, 11, 12, 13, 27, 35, 49, 78, 82, 89] hX ?_ | refine awp_drawnG [0, 1, 4, 5, 6, 7, 8, 9, 10, 11, 12, 13, 27, 35, 49, 78, 82, 89] hX mixed ?_ | refine awp_ret ?_ | refine awp_skip ?_ | refine awp_exit ?_); (simp [go_sem, hiF, hz]; try (refine ⟨by kernel_rfl, ?_⟩)))))
            refine awp_cond (b := false) (by simp [go_sem, hiF, hz, hzn]; try omega) (fun h => by cases h) (fun _ => ?_)
            (repeat (first | refine awp_seq ?_ | refine awp_block ?_ | ((first | refine awp_runG [0, 1, 4, 5, 6, 7, 8, 9, 10, 11, 12, 13, 27, 35, 49, 78, 82, 89] hX ?_ | refine awp_drawnG [0, 1, 4, 5, 6, 7, 8, 9, 10, 11, 12, 13, 27, 35, 49, 78, 82, 89] hX mixed ?_ | refine awp_ret ?_ | refine awp_skip ?_ | refine awp_exit ?_); (simp [go_sem, him, ma, hiF, hz, w1, w2]; try (refine ⟨by kernel_rfl, ?_⟩)))))
            try (repeat refine And.intro (by first | omega | (unfold maxLen; omega) | kernel_rfl | (refine ⟨by first | omega | (unfold maxLen; omega), by first | omega | (unfold maxLen; omega)⟩) | grind) ?_)
            try (repeat (first | refine awp_seq ?_ | refine awp_block ?_ | ((first | refine awp_runG [0, 1, 4, 5, 6, 7, 8, 9, 10, 11, 12, 13, 27, 35, 49, 78, 82, 89] hX ?_ | refine awp_drawnG [0, 1, 4, 5, 6, 7, 8, 9, 10, 11, 12, 13, 27, 35, 49, 78, 82, 89] hX mixed ?_ | refine awp_ret ?_ | refine awp_skip ?_ | refine awp_exit ?_); (simp [go_sem, him, ma, hiF, hz, w1, w2]; try (refine ⟨by kernel_rfl, ?_⟩)))))
            refine ⟨i + 1, by omega, by omega, ?_⟩
            rw [← ms]
            refine sub_of _ [.old 0 ⟨3, 1, (R.set i (y + z)).map ii⟩] (by simp [go_sem]) ?_
            simp [go_sem]
          · have e : mixL (given W (b + x)) B i = given W (b + x) := by
              have : i = (given W (b + x)).length := by simp at he; omega
              rw [this]; exact mf
            rw [e]
            have w3 := w64 (x := b + x) (by omega) (by omega)
            have w4 := w64 (x := (k : Int) + 1) (by omega) (by omega)
            (repeat (first | refine awp_seq ?_ | refine awp_block ?_ | ((first | refine awp_runG [0, 1, 4, 5, 6, 7, 8, 9, 10, 11, 12, 13, 27, 35, 49, 78, 82, 89] hX ?_ | refine awp_drawnG [0, 1, 4, 5, 6, 7, 8, 9, 10, 11, 12, 13, 27, 35, 49, 78, 82, 89] hX mixed ?_ | refine awp_ret ?_ | refine awp_skip ?_ | refine awp_exit ?_); (simp [go_sem, hc, hx, w3, w4]; try (refine ⟨by kernel_rfl, ?_⟩)))))
            refine ⟨k + 1, b + x, ⟨by omega, by omega, by push_cast; omega⟩, by omega, ?_⟩
            refine sub_of _ [.old 0 ⟨3, 1, (given W (b + x)).map ii⟩] (by simp [go_sem]) ?_
            simp [go_sem]
    · have c := cg b g2 (by omega)
      have ci := ints_t (given W b) (by rw [gl]; exact hl)
      generalize given W b = A at *
      (repeat (first | refine awp_seq ?_ | refine awp_block ?_ | ((first | refine awp_runG [0, 1, 4, 5, 6, 7, 8, 9, 10, 11, 12, 13, 27, 35, 49, 78, 82, 89] hX ?_ | refine awp_drawnG [0, 1, 4, 5, 6, 7, 8, 9, 10, 11, 12, 13, 27, 35, 49, 78, 82, 89] hX mixed ?_ | refine awp_ret ?_ | refine awp_skip ?_ | refine awp_exit ?_); (simp [go_sem]; try (refine ⟨by kernel_rfl, ?_⟩)))))
      first | refine callK_intro (c) rfl (by simp [go_sem]) rfl ?_ | refine callT_intro (c) rfl (by simp [go_sem]) rfl ?_
      try (simp [go_sem]; try (refine ⟨by kernel_rfl, ?_⟩))
      (repeat (first | refine awp_seq ?_ | refine awp_block ?_ | ((first | refine awp_runG [0, 1, 4, 5, 6, 7, 8, 9, 10, 11, 12, 13, 27, 35, 49, 78, 82, 89] hX ?_ | refine awp_drawnG [0, 1, 4, 5, 6, 7, 8, 9, 10, 11, 12, 13, 27, 35, 49, 78, 82, 89] hX mixed ?_ | refine awp_ret ?_ | refine awp_skip ?_ | refine awp_exit ?_); (simp [go_sem]; try (refine ⟨by kernel_rfl, ?_⟩)))))
      first | refine callG_intro (fun hg => ci) rfl (by simp [go_sem]) rfl ?_ | refine callGT_intro (fun hg => ci) rfl (by simp [go_sem]) rfl ?_
      try (simp [go_sem]; try (refine ⟨by kernel_rfl, ?_⟩))
      (repeat (first | refine awp_seq ?_ | refine awp_block ?_ | ((first | refine awp_runG [0, 1, 4, 5, 6, 7, 8, 9, 10, 11, 12, 13, 27, 35, 49, 78, 82, 89] hX ?_ | refine awp_drawnG [0, 1, 4, 5, 6, 7, 8, 9, 10, 11, 12, 13, 27, 35, 49, 78, 82, 89] hX mixed ?_ | refine awp_ret ?_ | refine awp_skip ?_ | refine awp_exit ?_); (simp [go_sem]; try (refine ⟨by kernel_rfl, ?_⟩)))))

end Go.Proofs.Ytoiccjhjfhijpaa
