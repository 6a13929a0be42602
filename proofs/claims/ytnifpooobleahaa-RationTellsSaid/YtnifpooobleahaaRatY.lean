/-
  Layer 39: the reference's Share.
-/
import Derived.Test.YtnifpooobleahaaRatX
set_option linter.all false
namespace Go.Proofs.Ytnifpooobleahaa
open Go.RowKit Go.Ab
attribute [local irreducible] AWP Go.Ab.Sub Means MeansH CallK CallG CallT CallGT CallU

theorem fill_map (C : List Int) (l : Int) : sumL (C.map fun c => min c l) = fill C l := rfl
set_option maxHeartbeats 8000000 in
set_option maxRecDepth 20000 in
theorem rshare_m (C : List Int) (hC : C.length ≤ 9223372036854775807) (h : Int) : Means true Try.prog 9 [il C, ii h] (.tup [il (if rightC C h then share C h else []), ii (if rightC C h then 0 else 1)]) := by
  cases hr : rightC C h with
  | false =>
    rw [if_neg (by simp), if_neg (by simp)]
    refine means_fn true 71 [.tmp 4, .tmp 5] Try.func9 rfl rfl rfl (by simp) (by decide) rfl fun X hX => ?_
    (repeat (first | refine awp_seq ?_ | refine awp_block ?_ | ((first | refine awp_runG [0, 1, 4, 5, 6, 7, 8, 9, 10, 14, 18, 28, 51, 59] hX ?_ | refine awp_drawnG [0, 1, 4, 5, 6, 7, 8, 9, 10, 14, 18, 28, 51, 59] hX mixed ?_ | refine awp_ret ?_ | refine awp_skip ?_ | refine awp_exit ?_); (simp [go_sem]; try (refine ⟨by kernel_rfl, ?_⟩)))))
    first | refine callK_intro (right_m' C hC h) rfl (by simp [go_sem]) rfl ?_ | refine callT_intro (right_m' C hC h) rfl (by simp [go_sem]) rfl ?_
    try (simp [go_sem]; try (refine ⟨by kernel_rfl, ?_⟩))
    refine awp_cond (b := true) (by simp [go_sem, hr]) (fun _ => ?_) (fun h => by cases h)
    (repeat (first | refine awp_seq ?_ | refine awp_block ?_ | ((first | refine awp_runG [0, 1, 4, 5, 6, 7, 8, 9, 10, 14, 18, 28, 51, 59] hX ?_ | refine awp_drawnG [0, 1, 4, 5, 6, 7, 8, 9, 10, 14, 18, 28, 51, 59] hX mixed ?_ | refine awp_ret ?_ | refine awp_skip ?_ | refine awp_exit ?_); (simp [go_sem]; try (refine ⟨by kernel_rfl, ?_⟩)))))
  | true =>
    have hr2 := hr
    simp only [rightC, okH, Bool.and_eq_true, decide_eq_true_eq] at hr2
    obtain ⟨hok, ⟨hlen, hh0⟩, hh1⟩ := hr2
    have hsb := sum_bd hok
    have hCb : ∀ x ∈ C, 0 ≤ x ∧ x ≤ 1099511627776 := fun x hx => okC_mem hok hx
    have cS := sum_m C (by omega) (fun x hx => by have := hCb x hx; omega)
    rw [if_pos rfl, if_pos rfl]
    refine means_fn true 71 [.tmp 4, .tmp 5] Try.func9 rfl rfl rfl (by simp) (by decide) rfl fun X hX => ?_
    (repeat (first | refine awp_seq ?_ | refine awp_block ?_ | ((first | refine awp_runG [0, 1, 4, 5, 6, 7, 8, 9, 10, 14, 18, 28, 51, 59] hX ?_ | refine awp_drawnG [0, 1, 4, 5, 6, 7, 8, 9, 10, 14, 18, 28, 51, 59] hX mixed ?_ | refine awp_ret ?_ | refine awp_skip ?_ | refine awp_exit ?_); (simp [go_sem]; try (refine ⟨by kernel_rfl, ?_⟩)))))
    first | refine callK_intro (right_m' C hC h) rfl (by simp [go_sem]) rfl ?_ | refine callT_intro (right_m' C hC h) rfl (by simp [go_sem]) rfl ?_
    try (simp [go_sem]; try (refine ⟨by kernel_rfl, ?_⟩))
    refine awp_cond (b := false) (by simp [go_sem, hr]) (fun h => by cases h) (fun _ => ?_)
    (repeat (first | refine awp_seq ?_ | refine awp_block ?_ | ((first | refine awp_runG [0, 1, 4, 5, 6, 7, 8, 9, 10, 14, 18, 28, 51, 59] hX ?_ | refine awp_drawnG [0, 1, 4, 5, 6, 7, 8, 9, 10, 14, 18, 28, 51, 59] hX mixed ?_ | refine awp_ret ?_ | refine awp_skip ?_ | refine awp_exit ?_); (simp [go_sem]; try (refine ⟨by kernel_rfl, ?_⟩)))))
    first | refine callK_intro (cS) rfl (by simp [go_sem]) rfl ?_ | refine callT_intro (cS) rfl (by simp [go_sem]) rfl ?_
    try (simp [go_sem]; try (refine ⟨by kernel_rfl, ?_⟩))
    by_cases hs : sumL C ≤ h
    · have e : share C h = C := if_pos hs
      rw [e]
      refine awp_cond (b := true) (by simp [go_sem, hs]) (fun _ => ?_) (fun h => by cases h)
      (repeat (first | refine awp_seq ?_ | refine awp_block ?_ | ((first | refine awp_runG [0, 1, 4, 5, 6, 7, 8, 9, 10, 14, 18, 28, 51, 59] hX ?_ | refine awp_drawnG [0, 1, 4, 5, 6, 7, 8, 9, 10, 14, 18, 28, 51, 59] hX mixed ?_ | refine awp_ret ?_ | refine awp_skip ?_ | refine awp_exit ?_); (simp [go_sem]; try (refine ⟨by kernel_rfl, ?_⟩)))))
      (repeat refine And.intro (by first | omega | (unfold maxLen; omega) | kernel_rfl | (refine ⟨by first | omega | (unfold maxLen; omega), by first | omega | (unfold maxLen; omega)⟩) | grind) ?_)
      (repeat (first | refine awp_seq ?_ | refine awp_block ?_ | ((first | refine awp_runG [0, 1, 4, 5, 6, 7, 8, 9, 10, 14, 18, 28, 51, 59] hX ?_ | refine awp_drawnG [0, 1, 4, 5, 6, 7, 8, 9, 10, 14, 18, 28, 51, 59] hX mixed ?_ | refine awp_ret ?_ | refine awp_skip ?_ | refine awp_exit ?_); (simp [go_sem]; try (refine ⟨by kernel_rfl, ?_⟩)))))
    · obtain ⟨l, hl⟩ := lv_ex hok hh0 hs
      have e : share C h = shr l (h - fill C l) C := by rw [share, if_neg hs, lvl_eq hl]
      have hq := isLv_left hl
      have hl0 := hl.low
      have hf0 := fill_nn hok hl0
      have hfl := hl.le
      have hlt : l < 1099511627776 := by
        rcases Int.lt_or_le l 1099511627776 with q | q
        · exact q
        · have : fill C l = sumL C := fill_top fun c hc => by have := okC_mem hok hc; omega
          omega
      rw [e]
      obtain ⟨q, hqe⟩ : ∃ q, h - fill C l = q := ⟨_, rfl⟩
      rw [hqe] at hq ⊢
      refine awp_cond (b := false) (by simp [go_sem]; omega) (fun h => by cases h) (fun _ => ?_)
      (repeat (first | refine awp_seq ?_ | refine awp_block ?_ | ((first | refine awp_runG [0, 1, 4, 5, 6, 7, 8, 9, 10, 14, 18, 28, 51, 59] hX ?_ | refine awp_drawnG [0, 1, 4, 5, 6, 7, 8, 9, 10, 14, 18, 28, 51, 59] hX mixed ?_ | refine awp_ret ?_ | refine awp_skip ?_ | refine awp_exit ?_); (simp [go_sem]; try (refine ⟨by kernel_rfl, ?_⟩)))))
      first | refine callK_intro (level_m C (by omega) hok h hh0 hs l hl) rfl (by simp [go_sem]) rfl ?_ | refine callT_intro (level_m C (by omega) hok h hh0 hs l hl) rfl (by simp [go_sem]) rfl ?_
      try (simp [go_sem]; try (refine ⟨by kernel_rfl, ?_⟩))
      (repeat (first | refine awp_seq ?_ | refine awp_block ?_ | ((first | refine awp_runG [0, 1, 4, 5, 6, 7, 8, 9, 10, 14, 18, 28, 51, 59] hX ?_ | refine awp_drawnG [0, 1, 4, 5, 6, 7, 8, 9, 10, 14, 18, 28, 51, 59] hX mixed ?_ | refine awp_ret ?_ | refine awp_skip ?_ | refine awp_exit ?_); (simp [go_sem]; try (refine ⟨by kernel_rfl, ?_⟩)))))
      have cM := sum_m (C.map fun c => min c l) (by simp; omega) (fun x hx => by
        simp only [List.mem_map] at hx
        obtain ⟨c, hc, rfl⟩ := hx
        have := hCb c hc; omega)
      rw [fill_map] at cM
      have h20 : (C.map fun c => min c l) = half2 l q C 0 := by simp [half2, shr]
      have hMl : (C.map fun c => min c l).length = C.length := by simp
      have hMs : ∀ k (hk : k < C.length), (C.map fun c => min c l).take (k + 1) = (C.map fun c => min c l).take k ++ [min C[k] l] := fun k hk => by
        rw [← List.map_take, ← List.map_take]; exact min_succ hk l
      generalize (C.map fun c => min c l) = M at *
      refine awp_loop (fun k : Nat => ⟨mkE [(0, il C), (1, ii h), (6, ii l), (7, .ow 0), (8, ii k)], [rowI (M.take k)]⟩) (fun k => k ≤ C.length) (fun k => C.length - k) 0 ?_ ?_ ?_
      · refine sub_of _ [.birth 3 1] (by simp [go_sem]) ?_
        simp [go_sem]
      · omega
      · intro k hk
        have hll : (M.take k).length = k := by rw [List.length_take]; omega
        (repeat (first | refine awp_seq ?_ | refine awp_block ?_ | ((first | refine awp_runG [0, 1, 4, 5, 6, 7, 8, 9, 10, 14, 18, 28, 51, 59] hX ?_ | refine awp_drawnG [0, 1, 4, 5, 6, 7, 8, 9, 10, 14, 18, 28, 51, 59] hX mixed ?_ | refine awp_ret ?_ | refine awp_skip ?_ | refine awp_exit ?_); (simp [go_sem]; try (refine ⟨by kernel_rfl, ?_⟩)))))
        refine awp_cond (b := decide (k < C.length)) (by simp [go_sem]) (fun hc => ?_) (fun hc => ?_)
        · simp at hc
          have e1 := hMs k hc
          generalize hD : M.take k = D at *
          (repeat (first | refine awp_seq ?_ | refine awp_block ?_ | ((first | refine awp_runG [0, 1, 4, 5, 6, 7, 8, 9, 10, 14, 18, 28, 51, 59] hX ?_ | refine awp_drawnG [0, 1, 4, 5, 6, 7, 8, 9, 10, 14, 18, 28, 51, 59] hX mixed ?_ | refine awp_ret ?_ | refine awp_skip ?_ | refine awp_exit ?_); (simp [go_sem, hc, hll]; try (refine ⟨by kernel_rfl, ?_⟩)))))
          (repeat refine And.intro (by first | omega | (unfold maxLen; omega) | kernel_rfl | (refine ⟨by first | omega | (unfold maxLen; omega), by first | omega | (unfold maxLen; omega)⟩) | grind) ?_)
          (repeat (first | refine awp_seq ?_ | refine awp_block ?_ | ((first | refine awp_runG [0, 1, 4, 5, 6, 7, 8, 9, 10, 14, 18, 28, 51, 59] hX ?_ | refine awp_drawnG [0, 1, 4, 5, 6, 7, 8, 9, 10, 14, 18, 28, 51, 59] hX mixed ?_ | refine awp_ret ?_ | refine awp_skip ?_ | refine awp_exit ?_); (simp [go_sem, hc, hll]; (try simp (disch := omega) only [w64, td, tm]); try (refine ⟨by kernel_rfl, ?_⟩)))))
          refine ⟨k + 1, by omega, by omega, ?_⟩
          rw [e1]
          refine sub_of _ [.old 2 ⟨3, 1, (D ++ [min C[k] l]).map ii⟩] (by simp [go_sem]) ?_
          simp [go_sem]
          try omega
        · have hkl : k = C.length := by simp at hc; omega
          subst hkl
          rw [List.take_of_length_le (Nat.le_of_eq hMl)]
          rw [h20] at cM ⊢
          have hwq : IntKind.i64.wrap (h - fill C l) = q := by rw [w64 (by omega) (by omega)]; exact hqe
          (repeat (first | refine awp_seq ?_ | refine awp_block ?_ | ((first | refine awp_runG [0, 1, 4, 5, 6, 7, 8, 9, 10, 14, 18, 28, 51, 59] hX ?_ | refine awp_drawnG [0, 1, 4, 5, 6, 7, 8, 9, 10, 14, 18, 28, 51, 59] hX mixed ?_ | refine awp_ret ?_ | refine awp_skip ?_ | refine awp_exit ?_); (simp [go_sem]; try (refine ⟨by kernel_rfl, ?_⟩)))))
          first | refine callK_intro (cM) rfl (by simp [go_sem]) rfl ?_ | refine callT_intro (cM) rfl (by simp [go_sem]) rfl ?_
          try (simp [go_sem, hwq]; try (refine ⟨by kernel_rfl, ?_⟩))
          (repeat (first | refine awp_seq ?_ | refine awp_block ?_ | ((first | refine awp_runG [0, 1, 4, 5, 6, 7, 8, 9, 10, 14, 18, 28, 51, 59] hX ?_ | refine awp_drawnG [0, 1, 4, 5, 6, 7, 8, 9, 10, 14, 18, 28, 51, 59] hX mixed ?_ | refine awp_ret ?_ | refine awp_skip ?_ | refine awp_exit ?_); (simp [go_sem, hwq]; try (refine ⟨by kernel_rfl, ?_⟩)))))
          refine awp_loop (fun i : Nat => ⟨mkE [(0, il C), (6, ii l), (7, .ow 0), (9, ii (leftA l q (C.take i))), (10, ii i)], [rowI (half2 l q C i)]⟩) (fun i => i ≤ C.length) (fun i => C.length - i) 0 ?_ ?_ ?_
          · refine sub_of _ [.old 0 ⟨3, 1, (half2 l q C 0).map ii⟩] (by simp [go_sem, leftA]) ?_
            simp [go_sem, leftA]
          · omega
          · intro i hi
            have hb := leftA_bd l (C.take i) q hq.1
            have hln := half2_len l q C i
            (repeat (first | refine awp_seq ?_ | refine awp_block ?_ | ((first | refine awp_runG [0, 1, 4, 5, 6, 7, 8, 9, 10, 14, 18, 28, 51, 59] hX ?_ | refine awp_drawnG [0, 1, 4, 5, 6, 7, 8, 9, 10, 14, 18, 28, 51, 59] hX mixed ?_ | refine awp_ret ?_ | refine awp_skip ?_ | refine awp_exit ?_); (simp [go_sem, hln]; try (refine ⟨by kernel_rfl, ?_⟩)))))
            refine awp_cond (b := decide (i < C.length) && decide (0 < leftA l q (C.take i))) (by simp [go_sem, hln]) (fun hd => ?_) (fun hd => ?_)
            · simp at hd
              obtain ⟨hd1, hd2⟩ := hd
              have hiD : i < (half2 l q C i).length := by omega
              have hat := half2_at l q hd1 hiD
              have el := leftA_succ (l := l) (left := q) hd1
              have es := half2_succ l q hd1
              have ek := half2_skip l q hd1
              have hcr := hCb _ (List.getElem_mem hd1)
              (repeat (first | refine awp_seq ?_ | refine awp_block ?_ | ((first | refine awp_runG [0, 1, 4, 5, 6, 7, 8, 9, 10, 14, 18, 28, 51, 59] hX ?_ | refine awp_drawnG [0, 1, 4, 5, 6, 7, 8, 9, 10, 14, 18, 28, 51, 59] hX mixed ?_ | refine awp_ret ?_ | refine awp_skip ?_ | refine awp_exit ?_); (simp [go_sem, hd1]; try (refine ⟨by kernel_rfl, ?_⟩)))))
              refine awp_cond (b := decide (l < C[i])) (by simp [go_sem, hd1]) (fun hf => ?_) (fun hf => ?_)
              · simp at hf
                rw [if_pos ⟨hf, hd2⟩] at el
                rw [share1, if_pos ⟨hf, hd2⟩] at es
                have hml : min C[i] l = l := by omega
                rw [hml] at hat
                generalize half2 l q C i = D at *
                (repeat (first | refine awp_seq ?_ | refine awp_block ?_ | ((first | refine awp_runG [0, 1, 4, 5, 6, 7, 8, 9, 10, 14, 18, 28, 51, 59] hX ?_ | refine awp_drawnG [0, 1, 4, 5, 6, 7, 8, 9, 10, 14, 18, 28, 51, 59] hX mixed ?_ | refine awp_ret ?_ | refine awp_skip ?_ | refine awp_exit ?_); (simp [go_sem, hiD, hat]; (try simp (disch := omega) only [w64, td, tm]); try (refine ⟨by kernel_rfl, ?_⟩)))))
                try (simp [go_sem, hiD, hat]; try (refine ⟨by kernel_rfl, ?_⟩))
                (repeat refine And.intro (by first | omega | (unfold maxLen; omega) | kernel_rfl | (refine ⟨by first | omega | (unfold maxLen; omega), by first | omega | (unfold maxLen; omega)⟩) | grind) ?_)
                (repeat (first | refine awp_seq ?_ | refine awp_block ?_ | ((first | refine awp_runG [0, 1, 4, 5, 6, 7, 8, 9, 10, 14, 18, 28, 51, 59] hX ?_ | refine awp_drawnG [0, 1, 4, 5, 6, 7, 8, 9, 10, 14, 18, 28, 51, 59] hX mixed ?_ | refine awp_ret ?_ | refine awp_skip ?_ | refine awp_exit ?_); (simp [go_sem, hiD, hat]; (try simp (disch := omega) only [w64, td, tm]); try (refine ⟨by kernel_rfl, ?_⟩)))))
                refine ⟨i + 1, by omega, by omega, ?_⟩
                rw [es, el]
                refine sub_of _ [.old 0 ⟨3, 1, (D.set i (l + 1)).map ii⟩] (by simp [go_sem]) ?_
                simp [go_sem]
                try omega
              · simp at hf
                rw [if_neg (by omega), Int.sub_zero] at el
                (repeat (first | refine awp_seq ?_ | refine awp_block ?_ | ((first | refine awp_runG [0, 1, 4, 5, 6, 7, 8, 9, 10, 14, 18, 28, 51, 59] hX ?_ | refine awp_drawnG [0, 1, 4, 5, 6, 7, 8, 9, 10, 14, 18, 28, 51, 59] hX mixed ?_ | refine awp_ret ?_ | refine awp_skip ?_ | refine awp_exit ?_); (simp [go_sem]; (try simp (disch := omega) only [w64, td, tm]); try (refine ⟨by kernel_rfl, ?_⟩)))))
                refine ⟨i + 1, by omega, by omega, ?_⟩
                rw [el, ek (by omega)]
                refine sub_of _ [.old 0 ⟨3, 1, (half2 l q C i).map ii⟩] (by simp [go_sem]) ?_
                simp [go_sem]
            · have hdn : half2 l q C i = shr l q C := half2_done l q C i (by
                simp at hd
                rcases Nat.lt_or_ge i C.length with h' | h'
                · have := hd h'; right; omega
                · exact .inl h')
              rw [hdn]
              (repeat (first | refine awp_seq ?_ | refine awp_block ?_ | ((first | refine awp_runG [0, 1, 4, 5, 6, 7, 8, 9, 10, 14, 18, 28, 51, 59] hX ?_ | refine awp_drawnG [0, 1, 4, 5, 6, 7, 8, 9, 10, 14, 18, 28, 51, 59] hX mixed ?_ | refine awp_ret ?_ | refine awp_skip ?_ | refine awp_exit ?_); (simp [go_sem]; try (refine ⟨by kernel_rfl, ?_⟩)))))

end Go.Proofs.Ytnifpooobleahaa
