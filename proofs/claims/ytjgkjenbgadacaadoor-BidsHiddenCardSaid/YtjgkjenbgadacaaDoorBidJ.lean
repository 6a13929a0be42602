/-
  Layer 24: the pot's shares.
-/
import Derived.Test.YtjgkjenbgadacaaDoorBidG
import Derived.Test.YtjgkjenbgadacaaDoorBidH
import Derived.Test.YtjgkjenbgadacaaDoorBidI
set_option linter.all false
namespace Go.Proofs.YtjgkjenbgadacaaDoor
open Go.RowKit Go.Ab
attribute [local irreducible] AWP Go.Ab.Sub Means MeansH CallK CallG CallT CallGT CallU

theorem potS_none {L : List Bd} {P : Int} {M : List Int} (h : okL L = true ∧ coinB P = true ∧ okMb M = true) (hw : winB L P M = none) : potS L P M = ([], 4) := by unfold potS; rw [if_pos h, hw]
theorem potS_some {L : List Bd} {P : Int} {M : List Int} {b : Bd} (h : okL L = true ∧ coinB P = true ∧ okMb M = true) (hw : winB L P M = some b) : potS L P M = if M.length = 1 then ([P], 0) else (insL (atI M b.w) (P - b.n) (evens b.n (M.length - 1)), 0) := by unfold potS; rw [if_pos h, hw]
theorem winP_none {L : List Bd} {P : Int} (h : wins L P = none) : winP L P = (0, false) := by unfold winP; rw [h]
theorem winP_some {L : List Bd} {P : Int} {w : Nat} (h : wins L P = some w) : winP L P = ((w : Int), true) := by unfold winP; rw [h]

set_option maxHeartbeats 16000000 in
set_option maxRecDepth 20000 in
theorem sharesN_m (L : List Bd) (P : Int) (M : List Int) (hl : L.length ≤ 1000) (hM : M.length ≤ 9223372036854775807) (hok : okL L = true ∧ coinB P = true ∧ okMb M = true) (hn : ∀ x ∈ L, memB M x = true) :
    Means true Tryd.prog 13 [bl L, ii P, il M] (.tup [il (potS L P M).1, ii (potS L P M).2]) := by
  have c1 := rightL_m L (by omega)
  have c2 := coins_m P
  have c3 := different_m M hM
  have c4 := clone_h L (by omega)
  have hMs := (okMb_iff M).1 hok.2.2
  have hPr : 0 ≤ P ∧ P ≤ 1099511627776 := by have := hok.2.1; simp [coinB] at this; omega
  have c5 := deleteN_m L M (by omega) (by have := hMs.2.2.2; omega) hn
  have hfl : L.filter (memB M) = L := List.filter_eq_self.2 hn
  rw [← hfl] at c5
  have hol : (L.filter (memB M)).length ≤ L.length := List.length_filter_le _ _
  have c6 := winner_m (L.filter (memB M)) P (by omega)
  have hzo := zone_ob (L.filter (memB M))
  have hpn := @potS_none L P M hok
  have hps := fun b => @potS_some L P M b hok
  have hwb := fun b => @winB_some L P M b
  unfold winB at hpn hps hwb
  cases hw : wins (L.filter (memB M)) P with
  | none =>
    have hpot := hpn (by rw [hw]; rfl)
    clear hpn hps hwb
    rw [winP_none hw] at c6
    rw [hpot]
    generalize L.filter (memB M) = F at *
    subst hfl
    have hzr := zone_ob (F ++ List.replicate (F.length - F.length) nobody)
    refine means_fn true 77 [.tmp 6, .tmp 7] Tryd.func13 rfl rfl rfl (by simp) (by decide) rfl fun X hX => ?_
    (repeat (first | refine awp_seq ?_ | refine awp_block ?_ | ((first | refine awp_runG [0, 1, 2, 5, 6, 7, 8, 9, 10, 11, 12, 13, 26, 38, 48, 64] hX ?_ | refine awp_drawnG [0, 1, 2, 5, 6, 7, 8, 9, 10, 11, 12, 13, 26, 38, 48, 64] hX mixed ?_ | refine awp_ret ?_ | refine awp_skip ?_ | refine awp_exit ?_); (simp [go_sem]; try (refine ⟨by kernel_rfl, ?_⟩)))))
    first | refine callK_intro (c1) rfl (by simp [go_sem]) rfl ?_ | refine callT_intro (c1) rfl (by simp [go_sem]) rfl ?_
    try (simp [go_sem]; try (refine ⟨by kernel_rfl, ?_⟩))
    (repeat (first | refine awp_seq ?_ | refine awp_block ?_ | ((first | refine awp_runG [0, 1, 2, 5, 6, 7, 8, 9, 10, 11, 12, 13, 26, 38, 48, 64] hX ?_ | refine awp_drawnG [0, 1, 2, 5, 6, 7, 8, 9, 10, 11, 12, 13, 26, 38, 48, 64] hX mixed ?_ | refine awp_ret ?_ | refine awp_skip ?_ | refine awp_exit ?_); (simp [go_sem]; try (refine ⟨by kernel_rfl, ?_⟩)))))
    first | refine callG_intro (fun hg => c2) rfl (by simp [go_sem]) rfl ?_ | refine callGT_intro (fun hg => c2) rfl (by simp [go_sem]) rfl ?_
    try (simp [go_sem]; try (refine ⟨by kernel_rfl, ?_⟩))
    first | refine callG_intro (fun hg => c3) rfl (by simp [go_sem]) rfl ?_ | refine callGT_intro (fun hg => c3) rfl (by simp [go_sem]) rfl ?_
    try (simp [go_sem]; try (refine ⟨by kernel_rfl, ?_⟩))
    (repeat (first | refine awp_seq ?_ | refine awp_block ?_ | ((first | refine awp_runG [0, 1, 2, 5, 6, 7, 8, 9, 10, 11, 12, 13, 26, 38, 48, 64] hX ?_ | refine awp_drawnG [0, 1, 2, 5, 6, 7, 8, 9, 10, 11, 12, 13, 26, 38, 48, 64] hX mixed ?_ | refine awp_ret ?_ | refine awp_skip ?_ | refine awp_exit ?_); (simp [go_sem]; try (refine ⟨by kernel_rfl, ?_⟩)))))
    refine awp_cond (b := false) (by simp [go_sem, hok.1, hok.2.1, hok.2.2]) (fun hb => by cases hb) (fun _ => ?_)
    (repeat (first | refine awp_seq ?_ | refine awp_block ?_ | ((first | refine awp_runG [0, 1, 2, 5, 6, 7, 8, 9, 10, 11, 12, 13, 26, 38, 48, 64] hX ?_ | refine awp_drawnG [0, 1, 2, 5, 6, 7, 8, 9, 10, 11, 12, 13, 26, 38, 48, 64] hX mixed ?_ | refine awp_ret ?_ | refine awp_skip ?_ | refine awp_exit ?_); (simp [go_sem]; try (refine ⟨by kernel_rfl, ?_⟩)))))
    first | refine callH_intro [] (c4) (by simp [go_sem]) ?_ | refine callTQ_intro [] (c4) (by simp [go_sem]) ?_ | refine callTE_intro [] (c4) (by simp [go_sem]) ?_
    try (simp [go_sem]; try (refine ⟨by kernel_rfl, ?_⟩))
    first | refine callH_intro [1, 0] (c5) (by simp [go_sem]) ?_ | refine callTQ_intro [1, 0] (c5) (by simp [go_sem]) ?_ | refine callTE_intro [1, 0] (c5) (by simp [go_sem]) ?_
    try (simp [go_sem]; try (refine ⟨by kernel_rfl, ?_⟩))
    (repeat (first | refine awp_seq ?_ | refine awp_block ?_ | ((first | refine awp_runG [0, 1, 2, 5, 6, 7, 8, 9, 10, 11, 12, 13, 26, 38, 48, 64] hX ?_ | refine awp_drawnG [0, 1, 2, 5, 6, 7, 8, 9, 10, 11, 12, 13, 26, 38, 48, 64] hX mixed ?_ | refine awp_ret ?_ | refine awp_skip ?_ | refine awp_exit ?_); (simp [go_sem]; try (refine ⟨by kernel_rfl, ?_⟩)))))
    refine callK_intro (c6) rfl (by simp [go_sem]) (by simp [go_sem, hzo, hzr]) ?_
    try (simp [go_sem]; try (refine ⟨by kernel_rfl, ?_⟩))
    (repeat (first | refine awp_seq ?_ | refine awp_block ?_ | ((first | refine awp_runG [0, 1, 2, 5, 6, 7, 8, 9, 10, 11, 12, 13, 26, 38, 48, 64] hX ?_ | refine awp_drawnG [0, 1, 2, 5, 6, 7, 8, 9, 10, 11, 12, 13, 26, 38, 48, 64] hX mixed ?_ | refine awp_ret ?_ | refine awp_skip ?_ | refine awp_exit ?_); (simp [go_sem]; try (refine ⟨by kernel_rfl, ?_⟩)))))
    refine awp_cond (b := true) (by simp [go_sem]) (fun _ => ?_) (fun hb => by cases hb)
    (repeat (first | refine awp_seq ?_ | refine awp_block ?_ | ((first | refine awp_runG [0, 1, 2, 5, 6, 7, 8, 9, 10, 11, 12, 13, 26, 38, 48, 64] hX ?_ | refine awp_drawnG [0, 1, 2, 5, 6, 7, 8, 9, 10, 11, 12, 13, 26, 38, 48, 64] hX mixed ?_ | refine awp_ret ?_ | refine awp_skip ?_ | refine awp_exit ?_); (simp [go_sem]; try (refine ⟨by kernel_rfl, ?_⟩)))))
  | some w =>
    obtain ⟨hwl, hwc, _⟩ := wins_some.1 hw
    have hget : (Option.bind (some w) fun w => (L.filter (memB M))[w]?) = some (L.filter (memB M))[w] := by simp only [Option.bind_some, List.getElem?_eq_getElem hwl]
    have hpot := hps _ (by rw [hw]; exact hget)
    rw [winP_some hw] at c6
    obtain ⟨hbL, hbM, hbc⟩ := hwb _ (by rw [hw]; exact hget)
    clear hpn hps hwb hget
    have hq := nth_ob hwl
    have hwr : nth ((L.filter (memB M) ++ List.replicate (L.length - (L.filter (memB M)).length) nobody).map ob) w = ob (L.filter (memB M))[w] := by
      rw [nth_ob (by simp; omega), List.getElem_append_left hwl]
    obtain ⟨b, hb⟩ : ∃ b, (L.filter (memB M))[w] = b := ⟨_, rfl⟩
    rw [hb] at hpot hbL hbM hbc hq hwr
    have hbn : 0 ≤ b.n ∧ b.n ≤ P := by
      have h1 := ((okL_iff L).1 hok.1).1 b hbL
      simp only [cntB, Bool.and_eq_true, decide_eq_true_eq] at hbc
      simp only [okB, Bool.and_eq_true, hbc.1, if_true, coinB, decide_eq_true_eq] at h1
      omega
    obtain ⟨hat, _⟩ := atI_lt hbM
    have c7 := index_m M hM b.w
    have haz : atZ M b.w = (atI M b.w : Nat) := by unfold atZ; rw [if_pos hat]
    rw [haz] at c7
    have c8 : M.length ≠ 1 → _ := fun h1 => even_h b.n (M.length - 1) (by simp [isAm]; omega) ⟨by omega, by omega⟩
    have c9 : M.length ≠ 1 → _ := fun h1 => insert_h (evens b.n (M.length - 1)) (P - b.n) (atI M b.w) (by rw [evens_len]; omega) (by rw [evens_len]; omega) (by intro h; have := evens_len b.n (M.length - 1); rw [h] at this; simp at this; omega)
    have hsub := w64 (x := P - b.n) (by omega) (by omega)
    have hm1 := w64 (x := (M.length : Int) - 1) (by omega) (by omega)
    have hmn : (M.length : Int) - 1 = ((M.length - 1 : Nat) : Int) := by have := hMs.2.2.1; omega
    have hm2 := w64 (x := ((M.length - 1 : Nat) : Int)) (by omega) (by omega)
    have hone : decide (M.length = 1) = decide ((M.length : Int) = 1) := by simp; omega
    rw [hpot]
    clear hb hwc hpot hMs
    generalize L.filter (memB M) = F at *
    subst hfl
    generalize evens b.n (M.length - 1) = A at *
    generalize atI M b.w = t at *
    have hzr := zone_ob (F ++ List.replicate (F.length - F.length) nobody)
    have hwr2 := hwr
    simp only [List.map_append, List.map_replicate] at hwr2
    have hwl2 : w < F.length + (F.length - F.length) := by omega
    refine means_fn true 77 [.tmp 6, .tmp 7] Tryd.func13 rfl rfl rfl (by simp) (by decide) rfl fun X hX => ?_
    (repeat (first | refine awp_seq ?_ | refine awp_block ?_ | ((first | refine awp_runG [0, 1, 2, 5, 6, 7, 8, 9, 10, 11, 12, 13, 26, 38, 48, 64] hX ?_ | refine awp_drawnG [0, 1, 2, 5, 6, 7, 8, 9, 10, 11, 12, 13, 26, 38, 48, 64] hX mixed ?_ | refine awp_ret ?_ | refine awp_skip ?_ | refine awp_exit ?_); (simp [go_sem]; try (refine ⟨by kernel_rfl, ?_⟩)))))
    first | refine callK_intro (c1) rfl (by simp [go_sem]) rfl ?_ | refine callT_intro (c1) rfl (by simp [go_sem]) rfl ?_
    try (simp [go_sem]; try (refine ⟨by kernel_rfl, ?_⟩))
    (repeat (first | refine awp_seq ?_ | refine awp_block ?_ | ((first | refine awp_runG [0, 1, 2, 5, 6, 7, 8, 9, 10, 11, 12, 13, 26, 38, 48, 64] hX ?_ | refine awp_drawnG [0, 1, 2, 5, 6, 7, 8, 9, 10, 11, 12, 13, 26, 38, 48, 64] hX mixed ?_ | refine awp_ret ?_ | refine awp_skip ?_ | refine awp_exit ?_); (simp [go_sem]; try (refine ⟨by kernel_rfl, ?_⟩)))))
    first | refine callG_intro (fun hg => c2) rfl (by simp [go_sem]) rfl ?_ | refine callGT_intro (fun hg => c2) rfl (by simp [go_sem]) rfl ?_
    try (simp [go_sem]; try (refine ⟨by kernel_rfl, ?_⟩))
    first | refine callG_intro (fun hg => c3) rfl (by simp [go_sem]) rfl ?_ | refine callGT_intro (fun hg => c3) rfl (by simp [go_sem]) rfl ?_
    try (simp [go_sem]; try (refine ⟨by kernel_rfl, ?_⟩))
    (repeat (first | refine awp_seq ?_ | refine awp_block ?_ | ((first | refine awp_runG [0, 1, 2, 5, 6, 7, 8, 9, 10, 11, 12, 13, 26, 38, 48, 64] hX ?_ | refine awp_drawnG [0, 1, 2, 5, 6, 7, 8, 9, 10, 11, 12, 13, 26, 38, 48, 64] hX mixed ?_ | refine awp_ret ?_ | refine awp_skip ?_ | refine awp_exit ?_); (simp [go_sem]; try (refine ⟨by kernel_rfl, ?_⟩)))))
    refine awp_cond (b := false) (by simp [go_sem, hok.1, hok.2.1, hok.2.2]) (fun hb => by cases hb) (fun _ => ?_)
    (repeat (first | refine awp_seq ?_ | refine awp_block ?_ | ((first | refine awp_runG [0, 1, 2, 5, 6, 7, 8, 9, 10, 11, 12, 13, 26, 38, 48, 64] hX ?_ | refine awp_drawnG [0, 1, 2, 5, 6, 7, 8, 9, 10, 11, 12, 13, 26, 38, 48, 64] hX mixed ?_ | refine awp_ret ?_ | refine awp_skip ?_ | refine awp_exit ?_); (simp [go_sem]; try (refine ⟨by kernel_rfl, ?_⟩)))))
    first | refine callH_intro [] (c4) (by simp [go_sem]) ?_ | refine callTQ_intro [] (c4) (by simp [go_sem]) ?_ | refine callTE_intro [] (c4) (by simp [go_sem]) ?_
    try (simp [go_sem]; try (refine ⟨by kernel_rfl, ?_⟩))
    first | refine callH_intro [1, 0] (c5) (by simp [go_sem]) ?_ | refine callTQ_intro [1, 0] (c5) (by simp [go_sem]) ?_ | refine callTE_intro [1, 0] (c5) (by simp [go_sem]) ?_
    try (simp [go_sem]; try (refine ⟨by kernel_rfl, ?_⟩))
    (repeat (first | refine awp_seq ?_ | refine awp_block ?_ | ((first | refine awp_runG [0, 1, 2, 5, 6, 7, 8, 9, 10, 11, 12, 13, 26, 38, 48, 64] hX ?_ | refine awp_drawnG [0, 1, 2, 5, 6, 7, 8, 9, 10, 11, 12, 13, 26, 38, 48, 64] hX mixed ?_ | refine awp_ret ?_ | refine awp_skip ?_ | refine awp_exit ?_); (simp [go_sem]; try (refine ⟨by kernel_rfl, ?_⟩)))))
    refine callK_intro (c6) rfl (by simp [go_sem]) (by simp [go_sem, hzo, hzr]) ?_
    try (simp [go_sem]; try (refine ⟨by kernel_rfl, ?_⟩))
    (repeat (first | refine awp_seq ?_ | refine awp_block ?_ | ((first | refine awp_runG [0, 1, 2, 5, 6, 7, 8, 9, 10, 11, 12, 13, 26, 38, 48, 64] hX ?_ | refine awp_drawnG [0, 1, 2, 5, 6, 7, 8, 9, 10, 11, 12, 13, 26, 38, 48, 64] hX mixed ?_ | refine awp_ret ?_ | refine awp_skip ?_ | refine awp_exit ?_); (simp [go_sem]; try (refine ⟨by kernel_rfl, ?_⟩)))))
    refine awp_cond (b := false) (by simp [go_sem]) (fun hb => by cases hb) (fun _ => ?_)
    (repeat (first | refine awp_seq ?_ | refine awp_block ?_ | ((first | refine awp_runG [0, 1, 2, 5, 6, 7, 8, 9, 10, 11, 12, 13, 26, 38, 48, 64] hX ?_ | refine awp_drawnG [0, 1, 2, 5, 6, 7, 8, 9, 10, 11, 12, 13, 26, 38, 48, 64] hX mixed ?_ | refine awp_ret ?_ | refine awp_skip ?_ | refine awp_exit ?_); (simp [go_sem, hwl, hwl2, hq, hwr2]; try (refine ⟨by kernel_rfl, ?_⟩)))))
    first | refine callK_intro (c7) rfl (by simp [go_sem]) rfl ?_ | refine callT_intro (c7) rfl (by simp [go_sem]) rfl ?_
    try (simp [go_sem, hwl, hwl2, hq, hwr2]; try (refine ⟨by kernel_rfl, ?_⟩))
    (repeat (first | refine awp_seq ?_ | refine awp_block ?_ | ((first | refine awp_runG [0, 1, 2, 5, 6, 7, 8, 9, 10, 11, 12, 13, 26, 38, 48, 64] hX ?_ | refine awp_drawnG [0, 1, 2, 5, 6, 7, 8, 9, 10, 11, 12, 13, 26, 38, 48, 64] hX mixed ?_ | refine awp_ret ?_ | refine awp_skip ?_ | refine awp_exit ?_); (simp [go_sem]; try (refine ⟨by kernel_rfl, ?_⟩)))))
    refine awp_cond (b := decide (M.length = 1)) (by simp [go_sem]; try omega) (fun h1 => ?_) (fun h1 => ?_)
    · simp only [decide_eq_true_eq] at h1
      rw [if_pos h1]
      (repeat (first | refine awp_seq ?_ | refine awp_block ?_ | ((first | refine awp_runG [0, 1, 2, 5, 6, 7, 8, 9, 10, 11, 12, 13, 26, 38, 48, 64] hX ?_ | refine awp_drawnG [0, 1, 2, 5, 6, 7, 8, 9, 10, 11, 12, 13, 26, 38, 48, 64] hX mixed ?_ | refine awp_ret ?_ | refine awp_skip ?_ | refine awp_exit ?_); (simp [go_sem]; try (refine ⟨by kernel_rfl, ?_⟩)))))
    · simp only [decide_eq_false_iff_not] at h1
      rw [if_neg h1]
      have c8 := c8 h1
      have c9 := c9 h1
      (repeat (first | refine awp_seq ?_ | refine awp_block ?_ | ((first | refine awp_runG [0, 1, 2, 5, 6, 7, 8, 9, 10, 11, 12, 13, 26, 38, 48, 64] hX ?_ | refine awp_drawnG [0, 1, 2, 5, 6, 7, 8, 9, 10, 11, 12, 13, 26, 38, 48, 64] hX mixed ?_ | refine awp_ret ?_ | refine awp_skip ?_ | refine awp_exit ?_); (simp [go_sem, hwl, hwl2, hq, hwr2, hm1, hmn, hm2]; try (refine ⟨by kernel_rfl, ?_⟩)))))
      first | refine callH_intro [] (c8) (by simp [go_sem]) ?_ | refine callTQ_intro [] (c8) (by simp [go_sem]) ?_ | refine callTE_intro [] (c8) (by simp [go_sem]) ?_
      try (simp [go_sem]; try (refine ⟨by kernel_rfl, ?_⟩))
      (repeat (first | refine awp_seq ?_ | refine awp_block ?_ | ((first | refine awp_runG [0, 1, 2, 5, 6, 7, 8, 9, 10, 11, 12, 13, 26, 38, 48, 64] hX ?_ | refine awp_drawnG [0, 1, 2, 5, 6, 7, 8, 9, 10, 11, 12, 13, 26, 38, 48, 64] hX mixed ?_ | refine awp_ret ?_ | refine awp_skip ?_ | refine awp_exit ?_); (simp [go_sem]; try (refine ⟨by kernel_rfl, ?_⟩)))))
      refine awp_cond (b := false) (by simp [go_sem]) (fun hb => by cases hb) (fun _ => ?_)
      (repeat (first | refine awp_seq ?_ | refine awp_block ?_ | ((first | refine awp_runG [0, 1, 2, 5, 6, 7, 8, 9, 10, 11, 12, 13, 26, 38, 48, 64] hX ?_ | refine awp_drawnG [0, 1, 2, 5, 6, 7, 8, 9, 10, 11, 12, 13, 26, 38, 48, 64] hX mixed ?_ | refine awp_ret ?_ | refine awp_skip ?_ | refine awp_exit ?_); (simp [go_sem, hwl, hwl2, hq, hwr2, hsub]; try (refine ⟨by kernel_rfl, ?_⟩)))))
      first | refine callH_intro [2, 3] (c9) (by simp [go_sem]) ?_ | refine callTQ_intro [2, 3] (c9) (by simp [go_sem]) ?_ | refine callTE_intro [2, 3] (c9) (by simp [go_sem]) ?_
      try (simp [go_sem]; try (refine ⟨by kernel_rfl, ?_⟩))
      (repeat (first | refine awp_seq ?_ | refine awp_block ?_ | ((first | refine awp_runG [0, 1, 2, 5, 6, 7, 8, 9, 10, 11, 12, 13, 26, 38, 48, 64] hX ?_ | refine awp_drawnG [0, 1, 2, 5, 6, 7, 8, 9, 10, 11, 12, 13, 26, 38, 48, 64] hX mixed ?_ | refine awp_ret ?_ | refine awp_skip ?_ | refine awp_exit ?_); (simp [go_sem]; try (refine ⟨by kernel_rfl, ?_⟩)))))

set_option maxHeartbeats 16000000 in
set_option maxRecDepth 20000 in
theorem sharesS_m (L : List Bd) (P : Int) (M : List Int) (hl : L.length ≤ 1000) (hM : M.length ≤ 9223372036854775807) (hok : okL L = true ∧ coinB P = true ∧ okMb M = true) (f : Nat) (hf : f < L.length) (hn : ∀ x ∈ L.take f, memB M x = true) (hb0 : memB M L[f] = false) :
    Means true Tryd.prog 13 [bl L, ii P, il M] (.tup [il (potS L P M).1, ii (potS L P M).2]) := by
  have c1 := rightL_m L (by omega)
  have c2 := coins_m P
  have c3 := different_m M hM
  have c4 := clone_h L (by omega)
  have hMs := (okMb_iff M).1 hok.2.2
  have hPr : 0 ≤ P ∧ P ≤ 1099511627776 := by have := hok.2.1; simp [coinB] at this; omega
  have c5 := deleteS_m L M (by omega) (by have := hMs.2.2.2; omega) hf hn hb0
  have hol : (L.filter (memB M)).length ≤ L.length := List.length_filter_le _ _
  have c6 := winner_m (L.filter (memB M)) P (by omega)
  have hzo := zone_ob (L.filter (memB M))
  have hpn := @potS_none L P M hok
  have hps := fun b => @potS_some L P M b hok
  have hwb := fun b => @winB_some L P M b
  unfold winB at hpn hps hwb
  cases hw : wins (L.filter (memB M)) P with
  | none =>
    have hpot := hpn (by rw [hw]; rfl)
    clear hpn hps hwb
    rw [winP_none hw] at c6
    rw [hpot]
    generalize L.filter (memB M) = F at *
    have hzr := zone_ob (F ++ List.replicate (L.length - F.length) nobody)
    refine means_fn true 77 [.tmp 6, .tmp 7] Tryd.func13 rfl rfl rfl (by simp) (by decide) rfl fun X hX => ?_
    (repeat (first | refine awp_seq ?_ | refine awp_block ?_ | ((first | refine awp_runG [0, 1, 2, 5, 6, 7, 8, 9, 10, 11, 12, 13, 26, 38, 48, 64] hX ?_ | refine awp_drawnG [0, 1, 2, 5, 6, 7, 8, 9, 10, 11, 12, 13, 26, 38, 48, 64] hX mixed ?_ | refine awp_ret ?_ | refine awp_skip ?_ | refine awp_exit ?_); (simp [go_sem]; try (refine ⟨by kernel_rfl, ?_⟩)))))
    first | refine callK_intro (c1) rfl (by simp [go_sem]) rfl ?_ | refine callT_intro (c1) rfl (by simp [go_sem]) rfl ?_
    try (simp [go_sem]; try (refine ⟨by kernel_rfl, ?_⟩))
    (repeat (first | refine awp_seq ?_ | refine awp_block ?_ | ((first | refine awp_runG [0, 1, 2, 5, 6, 7, 8, 9, 10, 11, 12, 13, 26, 38, 48, 64] hX ?_ | refine awp_drawnG [0, 1, 2, 5, 6, 7, 8, 9, 10, 11, 12, 13, 26, 38, 48, 64] hX mixed ?_ | refine awp_ret ?_ | refine awp_skip ?_ | refine awp_exit ?_); (simp [go_sem]; try (refine ⟨by kernel_rfl, ?_⟩)))))
    first | refine callG_intro (fun hg => c2) rfl (by simp [go_sem]) rfl ?_ | refine callGT_intro (fun hg => c2) rfl (by simp [go_sem]) rfl ?_
    try (simp [go_sem]; try (refine ⟨by kernel_rfl, ?_⟩))
    first | refine callG_intro (fun hg => c3) rfl (by simp [go_sem]) rfl ?_ | refine callGT_intro (fun hg => c3) rfl (by simp [go_sem]) rfl ?_
    try (simp [go_sem]; try (refine ⟨by kernel_rfl, ?_⟩))
    (repeat (first | refine awp_seq ?_ | refine awp_block ?_ | ((first | refine awp_runG [0, 1, 2, 5, 6, 7, 8, 9, 10, 11, 12, 13, 26, 38, 48, 64] hX ?_ | refine awp_drawnG [0, 1, 2, 5, 6, 7, 8, 9, 10, 11, 12, 13, 26, 38, 48, 64] hX mixed ?_ | refine awp_ret ?_ | refine awp_skip ?_ | refine awp_exit ?_); (simp [go_sem]; try (refine ⟨by kernel_rfl, ?_⟩)))))
    refine awp_cond (b := false) (by simp [go_sem, hok.1, hok.2.1, hok.2.2]) (fun hb => by cases hb) (fun _ => ?_)
    (repeat (first | refine awp_seq ?_ | refine awp_block ?_ | ((first | refine awp_runG [0, 1, 2, 5, 6, 7, 8, 9, 10, 11, 12, 13, 26, 38, 48, 64] hX ?_ | refine awp_drawnG [0, 1, 2, 5, 6, 7, 8, 9, 10, 11, 12, 13, 26, 38, 48, 64] hX mixed ?_ | refine awp_ret ?_ | refine awp_skip ?_ | refine awp_exit ?_); (simp [go_sem]; try (refine ⟨by kernel_rfl, ?_⟩)))))
    first | refine callH_intro [] (c4) (by simp [go_sem]) ?_ | refine callTQ_intro [] (c4) (by simp [go_sem]) ?_ | refine callTE_intro [] (c4) (by simp [go_sem]) ?_
    try (simp [go_sem]; try (refine ⟨by kernel_rfl, ?_⟩))
    first | refine callH_intro [1, 0] (c5) (by simp [go_sem]) ?_ | refine callTQ_intro [1, 0] (c5) (by simp [go_sem]) ?_ | refine callTE_intro [1, 0] (c5) (by simp [go_sem]) ?_
    try (simp [go_sem]; try (refine ⟨by kernel_rfl, ?_⟩))
    (repeat (first | refine awp_seq ?_ | refine awp_block ?_ | ((first | refine awp_runG [0, 1, 2, 5, 6, 7, 8, 9, 10, 11, 12, 13, 26, 38, 48, 64] hX ?_ | refine awp_drawnG [0, 1, 2, 5, 6, 7, 8, 9, 10, 11, 12, 13, 26, 38, 48, 64] hX mixed ?_ | refine awp_ret ?_ | refine awp_skip ?_ | refine awp_exit ?_); (simp [go_sem]; try (refine ⟨by kernel_rfl, ?_⟩)))))
    refine callK_intro (c6) rfl (by simp [go_sem]) (by simp [go_sem, hzo, hzr]) ?_
    try (simp [go_sem]; try (refine ⟨by kernel_rfl, ?_⟩))
    (repeat (first | refine awp_seq ?_ | refine awp_block ?_ | ((first | refine awp_runG [0, 1, 2, 5, 6, 7, 8, 9, 10, 11, 12, 13, 26, 38, 48, 64] hX ?_ | refine awp_drawnG [0, 1, 2, 5, 6, 7, 8, 9, 10, 11, 12, 13, 26, 38, 48, 64] hX mixed ?_ | refine awp_ret ?_ | refine awp_skip ?_ | refine awp_exit ?_); (simp [go_sem]; try (refine ⟨by kernel_rfl, ?_⟩)))))
    refine awp_cond (b := true) (by simp [go_sem]) (fun _ => ?_) (fun hb => by cases hb)
    (repeat (first | refine awp_seq ?_ | refine awp_block ?_ | ((first | refine awp_runG [0, 1, 2, 5, 6, 7, 8, 9, 10, 11, 12, 13, 26, 38, 48, 64] hX ?_ | refine awp_drawnG [0, 1, 2, 5, 6, 7, 8, 9, 10, 11, 12, 13, 26, 38, 48, 64] hX mixed ?_ | refine awp_ret ?_ | refine awp_skip ?_ | refine awp_exit ?_); (simp [go_sem]; try (refine ⟨by kernel_rfl, ?_⟩)))))
  | some w =>
    obtain ⟨hwl, hwc, _⟩ := wins_some.1 hw
    have hget : (Option.bind (some w) fun w => (L.filter (memB M))[w]?) = some (L.filter (memB M))[w] := by simp only [Option.bind_some, List.getElem?_eq_getElem hwl]
    have hpot := hps _ (by rw [hw]; exact hget)
    rw [winP_some hw] at c6
    obtain ⟨hbL, hbM, hbc⟩ := hwb _ (by rw [hw]; exact hget)
    clear hpn hps hwb hget
    have hq := nth_ob hwl
    have hwr : nth ((L.filter (memB M) ++ List.replicate (L.length - (L.filter (memB M)).length) nobody).map ob) w = ob (L.filter (memB M))[w] := by
      rw [nth_ob (by simp; omega), List.getElem_append_left hwl]
    obtain ⟨b, hb⟩ : ∃ b, (L.filter (memB M))[w] = b := ⟨_, rfl⟩
    rw [hb] at hpot hbL hbM hbc hq hwr
    have hbn : 0 ≤ b.n ∧ b.n ≤ P := by
      have h1 := ((okL_iff L).1 hok.1).1 b hbL
      simp only [cntB, Bool.and_eq_true, decide_eq_true_eq] at hbc
      simp only [okB, Bool.and_eq_true, hbc.1, if_true, coinB, decide_eq_true_eq] at h1
      omega
    obtain ⟨hat, _⟩ := atI_lt hbM
    have c7 := index_m M hM b.w
    have haz : atZ M b.w = (atI M b.w : Nat) := by unfold atZ; rw [if_pos hat]
    rw [haz] at c7
    have c8 : M.length ≠ 1 → _ := fun h1 => even_h b.n (M.length - 1) (by simp [isAm]; omega) ⟨by omega, by omega⟩
    have c9 : M.length ≠ 1 → _ := fun h1 => insert_h (evens b.n (M.length - 1)) (P - b.n) (atI M b.w) (by rw [evens_len]; omega) (by rw [evens_len]; omega) (by intro h; have := evens_len b.n (M.length - 1); rw [h] at this; simp at this; omega)
    have hsub := w64 (x := P - b.n) (by omega) (by omega)
    have hm1 := w64 (x := (M.length : Int) - 1) (by omega) (by omega)
    have hmn : (M.length : Int) - 1 = ((M.length - 1 : Nat) : Int) := by have := hMs.2.2.1; omega
    have hm2 := w64 (x := ((M.length - 1 : Nat) : Int)) (by omega) (by omega)
    have hone : decide (M.length = 1) = decide ((M.length : Int) = 1) := by simp; omega
    rw [hpot]
    clear hb hwc hpot hMs
    generalize L.filter (memB M) = F at *
    generalize evens b.n (M.length - 1) = A at *
    generalize atI M b.w = t at *
    have hzr := zone_ob (F ++ List.replicate (L.length - F.length) nobody)
    have hwr2 := hwr
    simp only [List.map_append, List.map_replicate] at hwr2
    have hwl2 : w < F.length + (L.length - F.length) := by omega
    refine means_fn true 77 [.tmp 6, .tmp 7] Tryd.func13 rfl rfl rfl (by simp) (by decide) rfl fun X hX => ?_
    (repeat (first | refine awp_seq ?_ | refine awp_block ?_ | ((first | refine awp_runG [0, 1, 2, 5, 6, 7, 8, 9, 10, 11, 12, 13, 26, 38, 48, 64] hX ?_ | refine awp_drawnG [0, 1, 2, 5, 6, 7, 8, 9, 10, 11, 12, 13, 26, 38, 48, 64] hX mixed ?_ | refine awp_ret ?_ | refine awp_skip ?_ | refine awp_exit ?_); (simp [go_sem]; try (refine ⟨by kernel_rfl, ?_⟩)))))
    first | refine callK_intro (c1) rfl (by simp [go_sem]) rfl ?_ | refine callT_intro (c1) rfl (by simp [go_sem]) rfl ?_
    try (simp [go_sem]; try (refine ⟨by kernel_rfl, ?_⟩))
    (repeat (first | refine awp_seq ?_ | refine awp_block ?_ | ((first | refine awp_runG [0, 1, 2, 5, 6, 7, 8, 9, 10, 11, 12, 13, 26, 38, 48, 64] hX ?_ | refine awp_drawnG [0, 1, 2, 5, 6, 7, 8, 9, 10, 11, 12, 13, 26, 38, 48, 64] hX mixed ?_ | refine awp_ret ?_ | refine awp_skip ?_ | refine awp_exit ?_); (simp [go_sem]; try (refine ⟨by kernel_rfl, ?_⟩)))))
    first | refine callG_intro (fun hg => c2) rfl (by simp [go_sem]) rfl ?_ | refine callGT_intro (fun hg => c2) rfl (by simp [go_sem]) rfl ?_
    try (simp [go_sem]; try (refine ⟨by kernel_rfl, ?_⟩))
    first | refine callG_intro (fun hg => c3) rfl (by simp [go_sem]) rfl ?_ | refine callGT_intro (fun hg => c3) rfl (by simp [go_sem]) rfl ?_
    try (simp [go_sem]; try (refine ⟨by kernel_rfl, ?_⟩))
    (repeat (first | refine awp_seq ?_ | refine awp_block ?_ | ((first | refine awp_runG [0, 1, 2, 5, 6, 7, 8, 9, 10, 11, 12, 13, 26, 38, 48, 64] hX ?_ | refine awp_drawnG [0, 1, 2, 5, 6, 7, 8, 9, 10, 11, 12, 13, 26, 38, 48, 64] hX mixed ?_ | refine awp_ret ?_ | refine awp_skip ?_ | refine awp_exit ?_); (simp [go_sem]; try (refine ⟨by kernel_rfl, ?_⟩)))))
    refine awp_cond (b := false) (by simp [go_sem, hok.1, hok.2.1, hok.2.2]) (fun hb => by cases hb) (fun _ => ?_)
    (repeat (first | refine awp_seq ?_ | refine awp_block ?_ | ((first | refine awp_runG [0, 1, 2, 5, 6, 7, 8, 9, 10, 11, 12, 13, 26, 38, 48, 64] hX ?_ | refine awp_drawnG [0, 1, 2, 5, 6, 7, 8, 9, 10, 11, 12, 13, 26, 38, 48, 64] hX mixed ?_ | refine awp_ret ?_ | refine awp_skip ?_ | refine awp_exit ?_); (simp [go_sem]; try (refine ⟨by kernel_rfl, ?_⟩)))))
    first | refine callH_intro [] (c4) (by simp [go_sem]) ?_ | refine callTQ_intro [] (c4) (by simp [go_sem]) ?_ | refine callTE_intro [] (c4) (by simp [go_sem]) ?_
    try (simp [go_sem]; try (refine ⟨by kernel_rfl, ?_⟩))
    first | refine callH_intro [1, 0] (c5) (by simp [go_sem]) ?_ | refine callTQ_intro [1, 0] (c5) (by simp [go_sem]) ?_ | refine callTE_intro [1, 0] (c5) (by simp [go_sem]) ?_
    try (simp [go_sem]; try (refine ⟨by kernel_rfl, ?_⟩))
    (repeat (first | refine awp_seq ?_ | refine awp_block ?_ | ((first | refine awp_runG [0, 1, 2, 5, 6, 7, 8, 9, 10, 11, 12, 13, 26, 38, 48, 64] hX ?_ | refine awp_drawnG [0, 1, 2, 5, 6, 7, 8, 9, 10, 11, 12, 13, 26, 38, 48, 64] hX mixed ?_ | refine awp_ret ?_ | refine awp_skip ?_ | refine awp_exit ?_); (simp [go_sem]; try (refine ⟨by kernel_rfl, ?_⟩)))))
    refine callK_intro (c6) rfl (by simp [go_sem]) (by simp [go_sem, hzo, hzr]) ?_
    try (simp [go_sem]; try (refine ⟨by kernel_rfl, ?_⟩))
    (repeat (first | refine awp_seq ?_ | refine awp_block ?_ | ((first | refine awp_runG [0, 1, 2, 5, 6, 7, 8, 9, 10, 11, 12, 13, 26, 38, 48, 64] hX ?_ | refine awp_drawnG [0, 1, 2, 5, 6, 7, 8, 9, 10, 11, 12, 13, 26, 38, 48, 64] hX mixed ?_ | refine awp_ret ?_ | refine awp_skip ?_ | refine awp_exit ?_); (simp [go_sem]; try (refine ⟨by kernel_rfl, ?_⟩)))))
    refine awp_cond (b := false) (by simp [go_sem]) (fun hb => by cases hb) (fun _ => ?_)
    (repeat (first | refine awp_seq ?_ | refine awp_block ?_ | ((first | refine awp_runG [0, 1, 2, 5, 6, 7, 8, 9, 10, 11, 12, 13, 26, 38, 48, 64] hX ?_ | refine awp_drawnG [0, 1, 2, 5, 6, 7, 8, 9, 10, 11, 12, 13, 26, 38, 48, 64] hX mixed ?_ | refine awp_ret ?_ | refine awp_skip ?_ | refine awp_exit ?_); (simp [go_sem, hwl, hwl2, hq, hwr2]; try (refine ⟨by kernel_rfl, ?_⟩)))))
    first | refine callK_intro (c7) rfl (by simp [go_sem]) rfl ?_ | refine callT_intro (c7) rfl (by simp [go_sem]) rfl ?_
    try (simp [go_sem, hwl, hwl2, hq, hwr2]; try (refine ⟨by kernel_rfl, ?_⟩))
    (repeat (first | refine awp_seq ?_ | refine awp_block ?_ | ((first | refine awp_runG [0, 1, 2, 5, 6, 7, 8, 9, 10, 11, 12, 13, 26, 38, 48, 64] hX ?_ | refine awp_drawnG [0, 1, 2, 5, 6, 7, 8, 9, 10, 11, 12, 13, 26, 38, 48, 64] hX mixed ?_ | refine awp_ret ?_ | refine awp_skip ?_ | refine awp_exit ?_); (simp [go_sem]; try (refine ⟨by kernel_rfl, ?_⟩)))))
    refine awp_cond (b := decide (M.length = 1)) (by simp [go_sem]; try omega) (fun h1 => ?_) (fun h1 => ?_)
    · simp only [decide_eq_true_eq] at h1
      rw [if_pos h1]
      (repeat (first | refine awp_seq ?_ | refine awp_block ?_ | ((first | refine awp_runG [0, 1, 2, 5, 6, 7, 8, 9, 10, 11, 12, 13, 26, 38, 48, 64] hX ?_ | refine awp_drawnG [0, 1, 2, 5, 6, 7, 8, 9, 10, 11, 12, 13, 26, 38, 48, 64] hX mixed ?_ | refine awp_ret ?_ | refine awp_skip ?_ | refine awp_exit ?_); (simp [go_sem]; try (refine ⟨by kernel_rfl, ?_⟩)))))
    · simp only [decide_eq_false_iff_not] at h1
      rw [if_neg h1]
      have c8 := c8 h1
      have c9 := c9 h1
      (repeat (first | refine awp_seq ?_ | refine awp_block ?_ | ((first | refine awp_runG [0, 1, 2, 5, 6, 7, 8, 9, 10, 11, 12, 13, 26, 38, 48, 64] hX ?_ | refine awp_drawnG [0, 1, 2, 5, 6, 7, 8, 9, 10, 11, 12, 13, 26, 38, 48, 64] hX mixed ?_ | refine awp_ret ?_ | refine awp_skip ?_ | refine awp_exit ?_); (simp [go_sem, hwl, hwl2, hq, hwr2, hm1, hmn, hm2]; try (refine ⟨by kernel_rfl, ?_⟩)))))
      first | refine callH_intro [] (c8) (by simp [go_sem]) ?_ | refine callTQ_intro [] (c8) (by simp [go_sem]) ?_ | refine callTE_intro [] (c8) (by simp [go_sem]) ?_
      try (simp [go_sem]; try (refine ⟨by kernel_rfl, ?_⟩))
      (repeat (first | refine awp_seq ?_ | refine awp_block ?_ | ((first | refine awp_runG [0, 1, 2, 5, 6, 7, 8, 9, 10, 11, 12, 13, 26, 38, 48, 64] hX ?_ | refine awp_drawnG [0, 1, 2, 5, 6, 7, 8, 9, 10, 11, 12, 13, 26, 38, 48, 64] hX mixed ?_ | refine awp_ret ?_ | refine awp_skip ?_ | refine awp_exit ?_); (simp [go_sem]; try (refine ⟨by kernel_rfl, ?_⟩)))))
      refine awp_cond (b := false) (by simp [go_sem]) (fun hb => by cases hb) (fun _ => ?_)
      (repeat (first | refine awp_seq ?_ | refine awp_block ?_ | ((first | refine awp_runG [0, 1, 2, 5, 6, 7, 8, 9, 10, 11, 12, 13, 26, 38, 48, 64] hX ?_ | refine awp_drawnG [0, 1, 2, 5, 6, 7, 8, 9, 10, 11, 12, 13, 26, 38, 48, 64] hX mixed ?_ | refine awp_ret ?_ | refine awp_skip ?_ | refine awp_exit ?_); (simp [go_sem, hwl, hwl2, hq, hwr2, hsub]; try (refine ⟨by kernel_rfl, ?_⟩)))))
      first | refine callH_intro [2, 3] (c9) (by simp [go_sem]) ?_ | refine callTQ_intro [2, 3] (c9) (by simp [go_sem]) ?_ | refine callTE_intro [2, 3] (c9) (by simp [go_sem]) ?_
      try (simp [go_sem]; try (refine ⟨by kernel_rfl, ?_⟩))
      (repeat (first | refine awp_seq ?_ | refine awp_block ?_ | ((first | refine awp_runG [0, 1, 2, 5, 6, 7, 8, 9, 10, 11, 12, 13, 26, 38, 48, 64] hX ?_ | refine awp_drawnG [0, 1, 2, 5, 6, 7, 8, 9, 10, 11, 12, 13, 26, 38, 48, 64] hX mixed ?_ | refine awp_ret ?_ | refine awp_skip ?_ | refine awp_exit ?_); (simp [go_sem]; try (refine ⟨by kernel_rfl, ?_⟩)))))

theorem shares_m (L : List Bd) (P : Int) (M : List Int) (hl : L.length ≤ 1000) (hM : M.length ≤ 9223372036854775807) : Means true Tryd.prog 13 [bl L, ii P, il M] (.tup [il (potS L P M).1, ii (potS L P M).2]) := by
  by_cases hok : okL L = true ∧ coinB P = true ∧ okMb M = true
  · by_cases hn : ∀ x ∈ L, memB M x = true
    · exact sharesN_m L P M hl hM hok hn
    · have hlt : L.findIdx (fun b => !memB M b) < L.length := by
        rw [List.findIdx_lt_length]
        simp only [Classical.not_forall, Bool.not_eq_true] at hn
        obtain ⟨x, hx, h⟩ := hn
        exact ⟨x, hx, by rw [h]; rfl⟩
      refine sharesS_m L P M hl hM hok _ hlt (fun x hx => ?_) (by have := List.findIdx_getElem (p := fun b => !memB M b) (w := hlt); simpa using this)
      obtain ⟨j, hj, rfl⟩ := List.mem_take_iff_getElem.1 hx
      have := List.not_of_lt_findIdx (p := fun b => !memB M b) (show j < L.findIdx (fun b => !memB M b) by omega)
      simpa using this
  · have e : potS L P M = ([], 1) := by unfold potS; rw [if_neg hok]
    rw [e]
    have c1 := rightL_m L (by omega)
    have c2 := coins_m P
    have c3 := different_m M hM
    refine means_fn true 77 [.tmp 6, .tmp 7] Tryd.func13 rfl rfl rfl (by simp) (by decide) rfl fun X hX => ?_
    (repeat (first | refine awp_seq ?_ | refine awp_block ?_ | ((first | refine awp_runG [0, 1, 2, 5, 6, 7, 8, 9, 10, 11, 12, 13, 26, 38, 48, 64] hX ?_ | refine awp_drawnG [0, 1, 2, 5, 6, 7, 8, 9, 10, 11, 12, 13, 26, 38, 48, 64] hX mixed ?_ | refine awp_ret ?_ | refine awp_skip ?_ | refine awp_exit ?_); (simp [go_sem]; try (refine ⟨by kernel_rfl, ?_⟩)))))
    first | refine callK_intro (c1) rfl (by simp [go_sem]) rfl ?_ | refine callT_intro (c1) rfl (by simp [go_sem]) rfl ?_
    try (simp [go_sem]; try (refine ⟨by kernel_rfl, ?_⟩))
    (repeat (first | refine awp_seq ?_ | refine awp_block ?_ | ((first | refine awp_runG [0, 1, 2, 5, 6, 7, 8, 9, 10, 11, 12, 13, 26, 38, 48, 64] hX ?_ | refine awp_drawnG [0, 1, 2, 5, 6, 7, 8, 9, 10, 11, 12, 13, 26, 38, 48, 64] hX mixed ?_ | refine awp_ret ?_ | refine awp_skip ?_ | refine awp_exit ?_); (simp [go_sem]; try (refine ⟨by kernel_rfl, ?_⟩)))))
    first | refine callG_intro (fun hg => c2) rfl (by simp [go_sem]) rfl ?_ | refine callGT_intro (fun hg => c2) rfl (by simp [go_sem]) rfl ?_
    try (simp [go_sem]; try (refine ⟨by kernel_rfl, ?_⟩))
    first | refine callG_intro (fun hg => c3) rfl (by simp [go_sem]) rfl ?_ | refine callGT_intro (fun hg => c3) rfl (by simp [go_sem]) rfl ?_
    try (simp [go_sem]; try (refine ⟨by kernel_rfl, ?_⟩))
    (repeat (first | refine awp_seq ?_ | refine awp_block ?_ | ((first | refine awp_runG [0, 1, 2, 5, 6, 7, 8, 9, 10, 11, 12, 13, 26, 38, 48, 64] hX ?_ | refine awp_drawnG [0, 1, 2, 5, 6, 7, 8, 9, 10, 11, 12, 13, 26, 38, 48, 64] hX mixed ?_ | refine awp_ret ?_ | refine awp_skip ?_ | refine awp_exit ?_); (simp [go_sem]; try (refine ⟨by kernel_rfl, ?_⟩)))))
    refine awp_cond (b := true) (by
      simp [go_sem]
      cases h1 : okL L <;> cases h2 : coinB P <;> cases h3 : okMb M <;> simp_all) (fun _ => ?_) (fun hb => by cases hb)
    (repeat (first | refine awp_seq ?_ | refine awp_block ?_ | ((first | refine awp_runG [0, 1, 2, 5, 6, 7, 8, 9, 10, 11, 12, 13, 26, 38, 48, 64] hX ?_ | refine awp_drawnG [0, 1, 2, 5, 6, 7, 8, 9, 10, 11, 12, 13, 26, 38, 48, 64] hX mixed ?_ | refine awp_ret ?_ | refine awp_skip ?_ | refine awp_exit ?_); (simp [go_sem]; try (refine ⟨by kernel_rfl, ?_⟩)))))

end Go.Proofs.YtjgkjenbgadacaaDoor
