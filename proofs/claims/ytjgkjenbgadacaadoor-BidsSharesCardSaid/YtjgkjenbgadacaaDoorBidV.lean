/-
  Layer 24: BidsShares.
-/
import Derived.Test.YtjgkjenbgadacaaDoorBidL
import Derived.Test.YtjgkjenbgadacaaDoorBidO
import Derived.Test.YtjgkjenbgadacaaDoorBidU
set_option linter.all false
namespace Go.Proofs.YtjgkjenbgadacaaDoor
open Go.RowKit Go.Ab
attribute [local irreducible] AWP Go.Ab.Sub Means MeansH CallK CallG CallT CallGT CallU

/-- A member's bid that counts. -/
def qB (M : List Int) (P : Int) (b : Bd) : Bool := memB M b && cntB P b
theorem bestTo_lt (q : Bd → Bool) (L : List Bd) (k : Nat) (hk : k ≤ L.length) : -1 ≤ bestTo q L k ∧ bestTo q L k < k ∨ k = 0 ∧ bestTo q L k = -1 := by
  rcases bestTo_spec q L k hk with ⟨h, _⟩ | ⟨a, ha, h1, h2, _⟩
  · by_cases h0 : k = 0
    · exact .inr ⟨h0, h⟩
    · left; rw [h]; omega
  · left; rw [h1]; omega

set_option maxHeartbeats 32000000 in
set_option maxRecDepth 20000 in
theorem bshares_m (L : List Bd) (hl : L.length ≤ 9223372036854775807) (P : Int) (M : List Int) (hM : M.length ≤ 9223372036854775807) : Means true Tryd.prog 4 [bl L, ii P, il M] (bb true) := by
  by_cases hbig : L.length ≤ 40 ∧ M.length ≤ 60
  · have c1 := rightL_m L hl
    have c2 := rmembers_m M (by omega)
    have c3 := shares_m L P M (by omega) hM
    by_cases hok : okL L = true ∧ coinB P = true ∧ okMb M = true
    · have hPr : 0 ≤ P ∧ P ≤ 1099511627776 := by have := hok.2.1; simp [coinB] at this; omega
      have hP1 : ¬ P < 0 := by omega
      have hP2 : ¬ 1099511627776 < P := by omega
      have hw := bestTo_win L P M
      have hwe : (fun b => memB M b && cntB P b) = qB M P := rfl
      rw [hwe] at hw
      have hbs := fun k (hk : k < L.length) => (show bestTo (qB M P) L (k + 1) = if qB M P (L.getD k default) && (decide (bestTo (qB M P) L k < 0) || decide ((L.getD (bestTo (qB M P) L k).toNat default).n < (L.getD k default).n)) then (k : Int) else bestTo (qB M P) L k from rfl)
      have hbl := bestTo_lt (qB M P) L
      have hpn := @pot_shape L P M
      have hpz : winB L P M = none → potS L P M = ([], 4) := fun h => by unfold potS; rw [if_pos hok, h]
      have h0 : bestTo (qB M P) L 0 = -1 := rfl
      obtain ⟨B, hB⟩ : ∃ B : Nat → Int, bestTo (qB M P) L = B := ⟨_, rfl⟩
      rw [hB] at h0 hbl hw
      simp only [hB] at hbs
      clear hB
      refine means_fn true 209 [.tmp 6] Tryd.func4 rfl rfl rfl (by simp) (by decide) rfl fun X hX => ?_
      (repeat (first | refine awp_seq ?_ | refine awp_block ?_ | ((first | refine awp_runG [0, 1, 2, 6, 7, 8, 9, 10, 11, 12, 13, 14, 15, 16, 43, 55, 99, 102, 121, 127, 145, 162, 175] hX ?_ | refine awp_drawnG [0, 1, 2, 6, 7, 8, 9, 10, 11, 12, 13, 14, 15, 16, 43, 55, 99, 102, 121, 127, 145, 162, 175] hX mixed ?_ | refine awp_ret ?_ | refine awp_skip ?_ | refine awp_exit ?_); (simp [go_sem]; try (refine ⟨by kernel_rfl, ?_⟩)))))
      first | refine callK_intro (small_m) rfl (by simp [go_sem]) rfl ?_ | refine callT_intro (small_m) rfl (by simp [go_sem]) rfl ?_
      try (simp [go_sem]; try (refine ⟨by kernel_rfl, ?_⟩))
      (repeat (first | refine awp_seq ?_ | refine awp_block ?_ | ((first | refine awp_runG [0, 1, 2, 6, 7, 8, 9, 10, 11, 12, 13, 14, 15, 16, 43, 55, 99, 102, 121, 127, 145, 162, 175] hX ?_ | refine awp_drawnG [0, 1, 2, 6, 7, 8, 9, 10, 11, 12, 13, 14, 15, 16, 43, 55, 99, 102, 121, 127, 145, 162, 175] hX mixed ?_ | refine awp_ret ?_ | refine awp_skip ?_ | refine awp_exit ?_); (simp [go_sem]; try (refine ⟨by kernel_rfl, ?_⟩)))))
      first | refine callG_intro (fun hg => c1) rfl (by simp [go_sem]) rfl ?_ | refine callGT_intro (fun hg => c1) rfl (by simp [go_sem]) rfl ?_
      try (simp [go_sem]; try (refine ⟨by kernel_rfl, ?_⟩))
      first | refine callG_intro (fun hg => c2) rfl (by simp [go_sem]) rfl ?_ | refine callGT_intro (fun hg => c2) rfl (by simp [go_sem]) rfl ?_
      try (simp [go_sem]; try (refine ⟨by kernel_rfl, ?_⟩))
      refine awp_cond (b := false) (by simp [go_sem, hok.1, hok.2.2, hP1, hP2]; omega) (fun h => by cases h) (fun _ => ?_)
      (repeat (first | refine awp_seq ?_ | refine awp_block ?_ | ((first | refine awp_runG [0, 1, 2, 6, 7, 8, 9, 10, 11, 12, 13, 14, 15, 16, 43, 55, 99, 102, 121, 127, 145, 162, 175] hX ?_ | refine awp_drawnG [0, 1, 2, 6, 7, 8, 9, 10, 11, 12, 13, 14, 15, 16, 43, 55, 99, 102, 121, 127, 145, 162, 175] hX mixed ?_ | refine awp_ret ?_ | refine awp_skip ?_ | refine awp_exit ?_); (simp [go_sem]; try (refine ⟨by kernel_rfl, ?_⟩)))))
      first | refine callK_intro (c3) rfl (by simp [go_sem]) rfl ?_ | refine callT_intro (c3) rfl (by simp [go_sem]) rfl ?_
      try (simp [go_sem]; try (refine ⟨by kernel_rfl, ?_⟩))
      (repeat (first | refine awp_seq ?_ | refine awp_block ?_ | ((first | refine awp_runG [0, 1, 2, 6, 7, 8, 9, 10, 11, 12, 13, 14, 15, 16, 43, 55, 99, 102, 121, 127, 145, 162, 175] hX ?_ | refine awp_drawnG [0, 1, 2, 6, 7, 8, 9, 10, 11, 12, 13, 14, 15, 16, 43, 55, 99, 102, 121, 127, 145, 162, 175] hX mixed ?_ | refine awp_ret ?_ | refine awp_skip ?_ | refine awp_exit ?_); (simp [go_sem]; try (refine ⟨by kernel_rfl, ?_⟩)))))
      refine awp_loop (fun k : Nat => ⟨mkE [(0, bl L), (1, ii P), (2, il M), (6, bb false), (7, bb true), (8, il (potS L P M).1), (9, ii (potS L P M).2), (10, ii (B k)), (11, ii k)], []⟩) (fun k => k ≤ L.length) (fun k => L.length - k) 0 ?_ ?_ ?_
      · rw [h0]
        refine sub_of _ [] (by simp [go_sem]) ?_
        simp [go_sem]
      · omega
      · intro k hk
        have hbk := hbl k hk
        (repeat (first | refine awp_seq ?_ | refine awp_block ?_ | ((first | refine awp_runG [0, 1, 2, 6, 7, 8, 9, 10, 11, 12, 13, 14, 15, 16, 43, 55, 99, 102, 121, 127, 145, 162, 175] hX ?_ | refine awp_drawnG [0, 1, 2, 6, 7, 8, 9, 10, 11, 12, 13, 14, 15, 16, 43, 55, 99, 102, 121, 127, 145, 162, 175] hX mixed ?_ | refine awp_ret ?_ | refine awp_skip ?_ | refine awp_exit ?_); (simp [go_sem]; try (refine ⟨by kernel_rfl, ?_⟩)))))
        refine awp_cond (b := decide (k < L.length)) (by simp [go_sem]) (fun hc => ?_) (fun hc => ?_)
        · simp at hc
          have hq := nth_ob hc
          have hs := hbs k hc
          have hz : (B k).toNat < L.length := by omega
          have hqz := nth_ob hz
          rw [gB hc, gB hz] at hs
          have hmx : (max (B k) 0) = ((B k).toNat : Int) := by omega
          have c4 := rat_m M (by omega) L[k].w
          have hmm : decide (0 ≤ atZ M L[k].w) = memB M L[k] := by rw [atZ_mem]; rfl
          have wk := w64 (x := (k : Int) + 1) (by omega) (by omega)
          generalize L[k] = x at *
          obtain ⟨y, hy⟩ : ∃ y, L[(B k).toNat] = y := ⟨_, rfl⟩
          rw [hy] at hqz hs
          clear hy
          generalize (B k).toNat = z at *
          obtain ⟨Bk, hBk⟩ : ∃ Bk, B k = Bk := ⟨_, rfl⟩
          rw [hBk] at hs hmx hbk ⊢
          (repeat (first | refine awp_seq ?_ | refine awp_block ?_ | ((first | refine awp_runG [0, 1, 2, 6, 7, 8, 9, 10, 11, 12, 13, 14, 15, 16, 43, 55, 99, 102, 121, 127, 145, 162, 175] hX ?_ | refine awp_drawnG [0, 1, 2, 6, 7, 8, 9, 10, 11, 12, 13, 14, 15, 16, 43, 55, 99, 102, 121, 127, 145, 162, 175] hX mixed ?_ | refine awp_ret ?_ | refine awp_skip ?_ | refine awp_exit ?_); (simp [go_sem, hc, hq]; try (refine ⟨by kernel_rfl, ?_⟩)))))
          first | refine callK_intro (c4) rfl (by simp [go_sem]) rfl ?_ | refine callT_intro (c4) rfl (by simp [go_sem]) rfl ?_
          try (simp [go_sem, hc, hq]; try (refine ⟨by kernel_rfl, ?_⟩))
          try (repeat (first | refine awp_seq ?_ | refine awp_block ?_ | ((first | refine awp_runG [0, 1, 2, 6, 7, 8, 9, 10, 11, 12, 13, 14, 15, 16, 43, 55, 99, 102, 121, 127, 145, 162, 175] hX ?_ | refine awp_drawnG [0, 1, 2, 6, 7, 8, 9, 10, 11, 12, 13, 14, 15, 16, 43, 55, 99, 102, 121, 127, 145, 162, 175] hX mixed ?_ | refine awp_ret ?_ | refine awp_skip ?_ | refine awp_exit ?_); (simp [go_sem, hc, hq, hz, hqz, hmx]; try (refine ⟨by kernel_rfl, ?_⟩)))))
          try (simp [go_sem, hc, hq, hz, hqz, hmx, hmm]; try (refine ⟨by kernel_rfl, ?_⟩))
          refine ⟨fun a1 a2 a3 a4 => ⟨⟨⟨by rw [← hmm]; simpa using a1, a2⟩, a3⟩, a4⟩, ?_⟩
          refine ⟨by kernel_rfl, ?_⟩
          refine awp_cond (b := qB M P x && (decide (Bk < 0) || decide (y.n < x.n))) (by simp [go_sem, hmm, qB, cntB, Bool.and_assoc]) (fun hd => ?_) (fun hd => ?_)
          · rw [if_pos hd] at hs
            (repeat (first | refine awp_seq ?_ | refine awp_block ?_ | ((first | refine awp_runG [0, 1, 2, 6, 7, 8, 9, 10, 11, 12, 13, 14, 15, 16, 43, 55, 99, 102, 121, 127, 145, 162, 175] hX ?_ | refine awp_drawnG [0, 1, 2, 6, 7, 8, 9, 10, 11, 12, 13, 14, 15, 16, 43, 55, 99, 102, 121, 127, 145, 162, 175] hX mixed ?_ | refine awp_ret ?_ | refine awp_skip ?_ | refine awp_exit ?_); (simp [go_sem, wk]; try (refine ⟨by kernel_rfl, ?_⟩)))))
            refine ⟨k + 1, by omega, by omega, ?_⟩
            rw [hs]
            refine sub_of _ [] (by simp [go_sem]) ?_
            simp [go_sem]
          · rw [if_neg (by rw [hd]; simp)] at hs
            (repeat (first | refine awp_seq ?_ | refine awp_block ?_ | ((first | refine awp_runG [0, 1, 2, 6, 7, 8, 9, 10, 11, 12, 13, 14, 15, 16, 43, 55, 99, 102, 121, 127, 145, 162, 175] hX ?_ | refine awp_drawnG [0, 1, 2, 6, 7, 8, 9, 10, 11, 12, 13, 14, 15, 16, 43, 55, 99, 102, 121, 127, 145, 162, 175] hX mixed ?_ | refine awp_ret ?_ | refine awp_skip ?_ | refine awp_exit ?_); (simp [go_sem, wk]; try (refine ⟨by kernel_rfl, ?_⟩)))))
            refine ⟨k + 1, by omega, by omega, ?_⟩
            rw [hs]
            refine sub_of _ [] (by simp [go_sem]) ?_
            simp [go_sem]
        · have hkl : k = L.length := by simp at hc; omega
          subst hkl
          rcases hw with ⟨w1, w2⟩ | ⟨a, ha, w1, w2, w3, w4⟩
          · rw [w1, hpz w2]
            (repeat (first | refine awp_seq ?_ | refine awp_block ?_ | ((first | refine awp_runG [0, 1, 2, 6, 7, 8, 9, 10, 11, 12, 13, 14, 15, 16, 43, 55, 99, 102, 121, 127, 145, 162, 175] hX ?_ | refine awp_drawnG [0, 1, 2, 6, 7, 8, 9, 10, 11, 12, 13, 14, 15, 16, 43, 55, 99, 102, 121, 127, 145, 162, 175] hX mixed ?_ | refine awp_ret ?_ | refine awp_skip ?_ | refine awp_exit ?_); (simp [go_sem]; try (refine ⟨by kernel_rfl, ?_⟩)))))
            refine awp_cond (b := true) (by simp [go_sem]) (fun _ => ?_) (fun h => by cases h)
            (repeat (first | refine awp_seq ?_ | refine awp_block ?_ | ((first | refine awp_runG [0, 1, 2, 6, 7, 8, 9, 10, 11, 12, 13, 14, 15, 16, 43, 55, 99, 102, 121, 127, 145, 162, 175] hX ?_ | refine awp_drawnG [0, 1, 2, 6, 7, 8, 9, 10, 11, 12, 13, 14, 15, 16, 43, 55, 99, 102, 121, 127, 145, 162, 175] hX mixed ?_ | refine awp_ret ?_ | refine awp_skip ?_ | refine awp_exit ?_); (simp [go_sem]; try (refine ⟨by kernel_rfl, ?_⟩)))))
          · obtain ⟨t, ht, v, A, e1, e2, e3, e4, e5, e6, e7, e8, q, q1, q2, q3, q4⟩ := hpn hok w2
            have hqa := nth_ob ha
            obtain ⟨x, hx⟩ : ∃ x, L[a] = x := ⟨_, rfl⟩
            rw [hx] at hqa e3 e5
            have htA : t ≤ A.length := by omega
            have hg := insL_get (A := A) (t := t) (v := v) htA
            have hsum := insL_sum (A := A) (t := t) (v := v)
            have hlen := insL_len (y := v) htA
            have hnn : ∀ z ∈ insL t v A, 0 ≤ z := fun z hz => by
              unfold insL at hz
              rcases List.mem_append.1 hz with hz | hz
              · have := q3 z (List.mem_of_mem_take hz); omega
              · rcases List.mem_cons.1 hz with rfl | hz
                · exact e7
                · have := q3 z (List.mem_of_mem_drop hz); omega
            have hpart := fun i => sumL_part hnn i
            have hMn : ∀ i (hi : i < M.length), M[i] = x.w → i = t := fun i hi h => by
              rw [← e3] at h
              have hnd := ((okMb_iff M).1 hok.2.2).2.1
              rcases Nat.lt_trichotomy i t with h1 | h1 | h1
              · exact absurd h (List.pairwise_iff_getElem.1 hnd i t hi ht h1)
              · exact h1
              · exact absurd h.symm (List.pairwise_iff_getElem.1 hnd t i ht hi h1)
            rw [w1, e1, e2]
            have hos := fun i j (h1 : i ≠ t) (h2 : j = if i < t then i else i - 1) h3 => oth_succ (A := A) h1 h2 h3
            have hlt := fun j (hj : j < A.length) => lastL_take (P := P) hj
            obtain ⟨S, hS⟩ : ∃ S, insL t v A = S := ⟨_, rfl⟩
            simp only [hS] at hg hsum hlen hpart ⊢
            clear hS e1 e2 hnn hpn hpz
            have hSM : S.length = M.length := by omega
            (repeat (first | refine awp_seq ?_ | refine awp_block ?_ | ((first | refine awp_runG [0, 1, 2, 6, 7, 8, 9, 10, 11, 12, 13, 14, 15, 16, 43, 55, 99, 102, 121, 127, 145, 162, 175] hX ?_ | refine awp_drawnG [0, 1, 2, 6, 7, 8, 9, 10, 11, 12, 13, 14, 15, 16, 43, 55, 99, 102, 121, 127, 145, 162, 175] hX mixed ?_ | refine awp_ret ?_ | refine awp_skip ?_ | refine awp_exit ?_); (simp [go_sem]; try (refine ⟨by kernel_rfl, ?_⟩)))))
            refine awp_cond (b := false) (by simp [go_sem]) (fun h => by cases h) (fun _ => ?_)
            (repeat (first | refine awp_seq ?_ | refine awp_block ?_ | ((first | refine awp_runG [0, 1, 2, 6, 7, 8, 9, 10, 11, 12, 13, 14, 15, 16, 43, 55, 99, 102, 121, 127, 145, 162, 175] hX ?_ | refine awp_drawnG [0, 1, 2, 6, 7, 8, 9, 10, 11, 12, 13, 14, 15, 16, 43, 55, 99, 102, 121, 127, 145, 162, 175] hX mixed ?_ | refine awp_ret ?_ | refine awp_skip ?_ | refine awp_exit ?_); (simp [go_sem]; try (refine ⟨by kernel_rfl, ?_⟩)))))
            refine awp_cond (b := false) (by simp [go_sem, hSM]) (fun h => by cases h) (fun _ => ?_)
            (repeat (first | refine awp_seq ?_ | refine awp_block ?_ | ((first | refine awp_runG [0, 1, 2, 6, 7, 8, 9, 10, 11, 12, 13, 14, 15, 16, 43, 55, 99, 102, 121, 127, 145, 162, 175] hX ?_ | refine awp_drawnG [0, 1, 2, 6, 7, 8, 9, 10, 11, 12, 13, 14, 15, 16, 43, 55, 99, 102, 121, 127, 145, 162, 175] hX mixed ?_ | refine awp_ret ?_ | refine awp_skip ?_ | refine awp_exit ?_); (simp [go_sem]; try (refine ⟨by kernel_rfl, ?_⟩)))))
            refine awp_loop (fun i : Nat => ⟨mkE [(0, bl L), (1, ii P), (2, il M), (6, bb false), (7, bb true), (8, il S), (10, ii a), (12, ii (sumL (S.take i))), (13, ii (minL P (oth A t i))), (14, ii (maxL (oth A t i))), (15, ii (lastL P (oth A t i))), (16, ii i)], []⟩) (fun i => i ≤ S.length) (fun i => S.length - i) 0 ?_ ?_ ?_
            · rw [oth_zero]
              refine sub_of _ [] (by simp [go_sem]) ?_
              simp [go_sem, minL, maxL, lastL]
            · omega
            · intro i hi
              (repeat (first | refine awp_seq ?_ | refine awp_block ?_ | ((first | refine awp_runG [0, 1, 2, 6, 7, 8, 9, 10, 11, 12, 13, 14, 15, 16, 43, 55, 99, 102, 121, 127, 145, 162, 175] hX ?_ | refine awp_drawnG [0, 1, 2, 6, 7, 8, 9, 10, 11, 12, 13, 14, 15, 16, 43, 55, 99, 102, 121, 127, 145, 162, 175] hX mixed ?_ | refine awp_ret ?_ | refine awp_skip ?_ | refine awp_exit ?_); (simp [go_sem]; try (refine ⟨by kernel_rfl, ?_⟩)))))
              refine awp_cond (b := decide (i < S.length)) (by simp [go_sem]) (fun hd => ?_) (fun hd => ?_)
              · simp at hd
                have hiM : i < M.length := by omega
                have s1 := nth_ii hd
                have s2 := nth_ii hiM
                have hgi := hg i
                rw [List.getElem?_eq_getElem hd] at hgi
                have hp1 := hpart i
                have hp2 := hpart (i + 1)
                have hst : sumL (S.take (i + 1)) = sumL (S.take i) + S[i] := sumL_succ hd
                have wi := w64 (x := (i : Int) + 1) (by omega) (by omega)
                have hmi := hMn i hiM
                rw [hst] at hp2
                have wsm := w64 (x := sumL (S.take i) + S[i]) (by omega) (by omega)
                generalize hSi : S[i] = z at *
                generalize hMi : M[i] = y at *
                by_cases hit : i = t
                · have hz : z = v := by
                    rw [if_neg (by omega), if_pos hit] at hgi
                    simpa using hgi
                  have hyw : y = x.w := by
                    subst hit
                    rw [← hMi]; exact e3
                  have wpn := w64 (x := P - x.n) (by
                    have := ((okL_iff L).1 hok.1).1 L[a] (List.getElem_mem ha)
                    simp only [cntB, Bool.and_eq_true, decide_eq_true_eq] at w4
                    simp only [okB, Bool.and_eq_true, w4.1, if_true, coinB, decide_eq_true_eq] at this
                    rw [hx] at this
                    omega) (by
                    have := ((okL_iff L).1 hok.1).1 L[a] (List.getElem_mem ha)
                    simp only [cntB, Bool.and_eq_true, decide_eq_true_eq] at w4
                    simp only [okB, Bool.and_eq_true, w4.1, if_true, coinB, decide_eq_true_eq] at this
                    rw [hx] at this
                    omega)
                  have ho : oth A t (i + 1) = oth A t i := by rw [hit]; exact oth_self
                  (repeat (first | refine awp_seq ?_ | refine awp_block ?_ | ((first | refine awp_runG [0, 1, 2, 6, 7, 8, 9, 10, 11, 12, 13, 14, 15, 16, 43, 55, 99, 102, 121, 127, 145, 162, 175] hX ?_ | refine awp_drawnG [0, 1, 2, 6, 7, 8, 9, 10, 11, 12, 13, 14, 15, 16, 43, 55, 99, 102, 121, 127, 145, 162, 175] hX mixed ?_ | refine awp_ret ?_ | refine awp_skip ?_ | refine awp_exit ?_); (simp [go_sem, hd, hiM, s1, s2, wsm, ha, hqa]; try (refine ⟨by kernel_rfl, ?_⟩)))))
                  try (simp [go_sem, hd, hiM, s1, s2, wsm, ha, hqa]; try (refine ⟨by kernel_rfl, ?_⟩))
                  refine awp_cond (b := true) (by simp [go_sem, hyw]) (fun _ => ?_) (fun h => by cases h)
                  (repeat (first | refine awp_seq ?_ | refine awp_block ?_ | ((first | refine awp_runG [0, 1, 2, 6, 7, 8, 9, 10, 11, 12, 13, 14, 15, 16, 43, 55, 99, 102, 121, 127, 145, 162, 175] hX ?_ | refine awp_drawnG [0, 1, 2, 6, 7, 8, 9, 10, 11, 12, 13, 14, 15, 16, 43, 55, 99, 102, 121, 127, 145, 162, 175] hX mixed ?_ | refine awp_ret ?_ | refine awp_skip ?_ | refine awp_exit ?_); (simp [go_sem, hd, hiM, s1, s2, ha, hqa, wpn]; try (refine ⟨by kernel_rfl, ?_⟩)))))
                  try (simp [go_sem, hd, hiM, s1, s2, ha, hqa, wpn]; try (refine ⟨by kernel_rfl, ?_⟩))
                  refine awp_cond (b := false) (by
                    by_cases h1 : M.length = 1
                    · simp [go_sem, h1]
                    · simp [go_sem, hz, e5 h1]) (fun h => by cases h) (fun _ => ?_)
                  (repeat (first | refine awp_seq ?_ | refine awp_block ?_ | ((first | refine awp_runG [0, 1, 2, 6, 7, 8, 9, 10, 11, 12, 13, 14, 15, 16, 43, 55, 99, 102, 121, 127, 145, 162, 175] hX ?_ | refine awp_drawnG [0, 1, 2, 6, 7, 8, 9, 10, 11, 12, 13, 14, 15, 16, 43, 55, 99, 102, 121, 127, 145, 162, 175] hX mixed ?_ | refine awp_ret ?_ | refine awp_skip ?_ | refine awp_exit ?_); (simp [go_sem, wi]; try (refine ⟨by kernel_rfl, ?_⟩)))))
                  refine ⟨i + 1, by omega, by omega, ?_⟩
                  rw [hst, ho]
                  refine sub_of _ [] (by simp [go_sem]) ?_
                  simp [go_sem]
                · obtain ⟨j, hj⟩ : ∃ j, j = if i < t then i else i - 1 := ⟨_, rfl⟩
                  have hjA : j < A.length := by split at hj <;> omega
                  have hz : A[j] = z := by
                    have : A[j]? = some z := by
                      by_cases h1 : i < t
                      · rw [if_pos h1] at hgi hj
                        rw [hj]; exact hgi.symm
                      · rw [if_neg h1] at hgi hj
                        rw [if_neg hit] at hgi
                        rw [hj]; exact hgi.symm
                    rw [List.getElem?_eq_getElem hjA] at this
                    simpa using this
                  obtain ⟨o1, o2⟩ := hos i j hit hj hjA
                  have hl1 := hlt j hjA
                  rw [← o1] at hl1 o2
                  rw [hz] at o2
                  have hzq := q3 z (hz ▸ List.getElem_mem hjA)
                  have hlast : z ≤ lastL P (oth A t i) := by
                    rw [hl1]
                    by_cases h0 : j = 0
                    · rw [dif_pos h0]; omega
                    · rw [dif_neg h0]
                      have := q4 (j - 1) j (by omega) hjA (by omega)
                      omega
                  have hyw : ¬ y = x.w := fun h => hit (hmi h)
                  have m1 := minL_snoc P (oth A t i) z
                  have m2 := maxL_snoc (oth A t i) z
                  have m3 := lastL_snoc P (oth A t i) z
                  rw [← o2] at m1 m2 m3
                  generalize lastL P (oth A t i) = la at *
                  generalize minL P (oth A t i) = mn at *
                  generalize maxL (oth A t i) = mx at *
                  have hz0 : ¬ z < 0 := by omega
                  have hz1 : ¬ la < z := by omega
                  (repeat (first | refine awp_seq ?_ | refine awp_block ?_ | ((first | refine awp_runG [0, 1, 2, 6, 7, 8, 9, 10, 11, 12, 13, 14, 15, 16, 43, 55, 99, 102, 121, 127, 145, 162, 175] hX ?_ | refine awp_drawnG [0, 1, 2, 6, 7, 8, 9, 10, 11, 12, 13, 14, 15, 16, 43, 55, 99, 102, 121, 127, 145, 162, 175] hX mixed ?_ | refine awp_ret ?_ | refine awp_skip ?_ | refine awp_exit ?_); (simp [go_sem, hd, hiM, s1, s2, wsm, ha, hqa]; try (refine ⟨by kernel_rfl, ?_⟩)))))
                  try (simp [go_sem, hd, hiM, s1, s2, wsm, ha, hqa]; try (refine ⟨by kernel_rfl, ?_⟩))
                  refine awp_cond (b := false) (by simp [go_sem, hyw]) (fun h => by cases h) (fun _ => ?_)
                  (repeat (first | refine awp_seq ?_ | refine awp_block ?_ | ((first | refine awp_runG [0, 1, 2, 6, 7, 8, 9, 10, 11, 12, 13, 14, 15, 16, 43, 55, 99, 102, 121, 127, 145, 162, 175] hX ?_ | refine awp_drawnG [0, 1, 2, 6, 7, 8, 9, 10, 11, 12, 13, 14, 15, 16, 43, 55, 99, 102, 121, 127, 145, 162, 175] hX mixed ?_ | refine awp_ret ?_ | refine awp_skip ?_ | refine awp_exit ?_); (simp [go_sem, hd, s1]; try (refine ⟨by kernel_rfl, ?_⟩)))))
                  refine awp_cond (b := false) (by simp [go_sem, hz0, hz1]; try omega) (fun h => by cases h) (fun _ => ?_)
                  (repeat (first | refine awp_seq ?_ | refine awp_block ?_ | ((first | refine awp_runG [0, 1, 2, 6, 7, 8, 9, 10, 11, 12, 13, 14, 15, 16, 43, 55, 99, 102, 121, 127, 145, 162, 175] hX ?_ | refine awp_drawnG [0, 1, 2, 6, 7, 8, 9, 10, 11, 12, 13, 14, 15, 16, 43, 55, 99, 102, 121, 127, 145, 162, 175] hX mixed ?_ | refine awp_ret ?_ | refine awp_skip ?_ | refine awp_exit ?_); (simp [go_sem, hd, s1, wi]; try (refine ⟨by kernel_rfl, ?_⟩)))))
                  refine ⟨i + 1, by omega, by omega, ?_⟩
                  rw [hst, m1, m2, m3]
                  refine sub_of _ [] (by simp [go_sem]) ?_
                  simp [go_sem]
              · have hil : i = S.length := by simp at hd; omega
                subst hil
                have hall : oth A t S.length = A := by rw [hlen]; exact oth_all htA
                have hm1 : q ≤ minL P A := minL_ge A.length A rfl q2 fun z hz => (q3 z hz).1
                have hm2 : maxL A ≤ q + 1 := maxL_le A.length A rfl (by omega) fun z hz => (q3 z hz).2.1
                have hm3 := minL_le P A.length A rfl
                have hm4 := maxL_ge A.length A rfl
                have hsP : sumL (S.take S.length) = P := by rw [List.take_length, hsum]; exact e6
                rw [hall, hsP]
                have wm := w64 (x := maxL A - minL P A) (by omega) (by omega)
                have hle : maxL A - minL P A ≤ 1 := by omega
                generalize maxL A = mx at *
                generalize minL P A = mn at *
                (repeat (first | refine awp_seq ?_ | refine awp_block ?_ | ((first | refine awp_runG [0, 1, 2, 6, 7, 8, 9, 10, 11, 12, 13, 14, 15, 16, 43, 55, 99, 102, 121, 127, 145, 162, 175] hX ?_ | refine awp_drawnG [0, 1, 2, 6, 7, 8, 9, 10, 11, 12, 13, 14, 15, 16, 43, 55, 99, 102, 121, 127, 145, 162, 175] hX mixed ?_ | refine awp_ret ?_ | refine awp_skip ?_ | refine awp_exit ?_); (simp [go_sem, wm]; try (refine ⟨by kernel_rfl, ?_⟩)))))
                simp [hle]
    · refine means_fn true 209 [.tmp 6] Tryd.func4 rfl rfl rfl (by simp) (by decide) rfl fun X hX => ?_
      (repeat (first | refine awp_seq ?_ | refine awp_block ?_ | ((first | refine awp_runG [0, 1, 2, 6, 7, 8, 9, 10, 11, 12, 13, 14, 15, 16, 43, 55, 99, 102, 121, 127, 145, 162, 175] hX ?_ | refine awp_drawnG [0, 1, 2, 6, 7, 8, 9, 10, 11, 12, 13, 14, 15, 16, 43, 55, 99, 102, 121, 127, 145, 162, 175] hX mixed ?_ | refine awp_ret ?_ | refine awp_skip ?_ | refine awp_exit ?_); (simp [go_sem]; try (refine ⟨by kernel_rfl, ?_⟩)))))
      first | refine callK_intro (small_m) rfl (by simp [go_sem]) rfl ?_ | refine callT_intro (small_m) rfl (by simp [go_sem]) rfl ?_
      try (simp [go_sem]; try (refine ⟨by kernel_rfl, ?_⟩))
      (repeat (first | refine awp_seq ?_ | refine awp_block ?_ | ((first | refine awp_runG [0, 1, 2, 6, 7, 8, 9, 10, 11, 12, 13, 14, 15, 16, 43, 55, 99, 102, 121, 127, 145, 162, 175] hX ?_ | refine awp_drawnG [0, 1, 2, 6, 7, 8, 9, 10, 11, 12, 13, 14, 15, 16, 43, 55, 99, 102, 121, 127, 145, 162, 175] hX mixed ?_ | refine awp_ret ?_ | refine awp_skip ?_ | refine awp_exit ?_); (simp [go_sem]; try (refine ⟨by kernel_rfl, ?_⟩)))))
      first | refine callG_intro (fun hg => c1) rfl (by simp [go_sem]) rfl ?_ | refine callGT_intro (fun hg => c1) rfl (by simp [go_sem]) rfl ?_
      try (simp [go_sem]; try (refine ⟨by kernel_rfl, ?_⟩))
      first | refine callG_intro (fun hg => c2) rfl (by simp [go_sem]) rfl ?_ | refine callGT_intro (fun hg => c2) rfl (by simp [go_sem]) rfl ?_
      try (simp [go_sem]; try (refine ⟨by kernel_rfl, ?_⟩))
      refine awp_cond (b := true) (by
        simp [go_sem]
        simp [coinB] at hok
        cases h1 : okL L <;> cases h2 : okMb M <;> simp_all <;> omega) (fun _ => ?_) (fun h => by cases h)
      (repeat (first | refine awp_seq ?_ | refine awp_block ?_ | ((first | refine awp_runG [0, 1, 2, 6, 7, 8, 9, 10, 11, 12, 13, 14, 15, 16, 43, 55, 99, 102, 121, 127, 145, 162, 175] hX ?_ | refine awp_drawnG [0, 1, 2, 6, 7, 8, 9, 10, 11, 12, 13, 14, 15, 16, 43, 55, 99, 102, 121, 127, 145, 162, 175] hX mixed ?_ | refine awp_ret ?_ | refine awp_skip ?_ | refine awp_exit ?_); (simp [go_sem]; try (refine ⟨by kernel_rfl, ?_⟩)))))
  · have c1 := rightL_m L hl
    refine means_fn true 209 [.tmp 6] Tryd.func4 rfl rfl rfl (by simp) (by decide) rfl fun X hX => ?_
    (repeat (first | refine awp_seq ?_ | refine awp_block ?_ | ((first | refine awp_runG [0, 1, 2, 6, 7, 8, 9, 10, 11, 12, 13, 14, 15, 16, 43, 55, 99, 102, 121, 127, 145, 162, 175] hX ?_ | refine awp_drawnG [0, 1, 2, 6, 7, 8, 9, 10, 11, 12, 13, 14, 15, 16, 43, 55, 99, 102, 121, 127, 145, 162, 175] hX mixed ?_ | refine awp_ret ?_ | refine awp_skip ?_ | refine awp_exit ?_); (simp [go_sem]; try (refine ⟨by kernel_rfl, ?_⟩)))))
    first | refine callK_intro (small_m) rfl (by simp [go_sem]) rfl ?_ | refine callT_intro (small_m) rfl (by simp [go_sem]) rfl ?_
    try (simp [go_sem]; try (refine ⟨by kernel_rfl, ?_⟩))
    (repeat (first | refine awp_seq ?_ | refine awp_block ?_ | ((first | refine awp_runG [0, 1, 2, 6, 7, 8, 9, 10, 11, 12, 13, 14, 15, 16, 43, 55, 99, 102, 121, 127, 145, 162, 175] hX ?_ | refine awp_drawnG [0, 1, 2, 6, 7, 8, 9, 10, 11, 12, 13, 14, 15, 16, 43, 55, 99, 102, 121, 127, 145, 162, 175] hX mixed ?_ | refine awp_ret ?_ | refine awp_skip ?_ | refine awp_exit ?_); (simp [go_sem]; try (refine ⟨by kernel_rfl, ?_⟩)))))
    first | refine callG_intro (fun hg => c1) rfl (by simp [go_sem]) rfl ?_ | refine callGT_intro (fun hg => c1) rfl (by simp [go_sem]) rfl ?_
    try (simp [go_sem]; try (refine ⟨by kernel_rfl, ?_⟩))
    first | refine callG_intro (fun hg => rmembers_m M (by simp at hg; omega)) rfl (by simp [go_sem]) rfl ?_ | refine callGT_intro (fun hg => rmembers_m M (by simp at hg; omega)) rfl (by simp [go_sem]) rfl ?_
    try (simp [go_sem]; try (refine ⟨by kernel_rfl, ?_⟩))
    refine awp_cond (b := true) (by
      by_cases q1 : L.length ≤ 40
      · have q2 : (60 : Int) < M.length := by omega
        simp [go_sem, q2]
      · have q2 : (40 : Int) < L.length := by omega
        simp [go_sem, q2]) (fun _ => ?_) (fun h => by cases h)
    (repeat (first | refine awp_seq ?_ | refine awp_block ?_ | ((first | refine awp_runG [0, 1, 2, 6, 7, 8, 9, 10, 11, 12, 13, 14, 15, 16, 43, 55, 99, 102, 121, 127, 145, 162, 175] hX ?_ | refine awp_drawnG [0, 1, 2, 6, 7, 8, 9, 10, 11, 12, 13, 14, 15, 16, 43, 55, 99, 102, 121, 127, 145, 162, 175] hX mixed ?_ | refine awp_ret ?_ | refine awp_skip ?_ | refine awp_exit ?_); (simp [go_sem]; try (refine ⟨by kernel_rfl, ?_⟩)))))

end Go.Proofs.YtjgkjenbgadacaaDoor
