/-
  Layer 37: the law PremiumTurned.
-/
import Derived.Test.YtlcmmaokfbjojaaPreF
import Derived.Test.YtlcmmaokfbjojaaKillA
set_option linter.all false
namespace Go.Proofs.Ytlcmmaokfbjojaa
open Go.RowKit Go.Ab
attribute [local irreducible] AWP Go.Ab.Sub Means MeansH CallK CallG CallT CallGT CallU

theorem sumL_turn (L : List Int) (k : Nat) : sumL (L.drop k ++ L.take k) = sumL L := by
  have h := sumL_app (L.take k) (L.drop k)
  rw [List.take_append_drop] at h
  rw [sumL_app]; omega
theorem turn_right {C : List Int} {b : Int} (h : rightP C b = true) (k : Nat) : rightP (C.drop k ++ C.take k) b = true ∧ rts (C.drop k ++ C.take k) b = (rts C b).drop k ++ (rts C b).take k := by
  have hl : (C.drop k ++ C.take k).length = C.length := by simp; omega
  have hw : wts (C.drop k ++ C.take k) = (wts C).drop k ++ (wts C).take k := by unfold wts; rw [List.map_append, List.map_drop, List.map_take]
  constructor
  · unfold rightP okB at *
    rw [hl]
    simp only [Bool.and_eq_true] at h ⊢
    refine ⟨h.1, List.all_eq_true.2 fun x hx => ?_⟩
    rcases List.mem_append.1 hx with q | q
    · exact List.all_eq_true.1 h.2 x (List.mem_of_mem_drop q)
    · exact List.all_eq_true.1 h.2 x (List.mem_of_mem_take q)
  · unfold rts
    rw [hw, hl, sumL_turn, List.map_append, List.map_drop, List.map_take]
theorem twice_right {C : List Int} {b : Int} (h : rightP C b = true) (h2 : b ≤ 1099511627776 / (C.length : Int) / 2) : rightP C (2 * b) = true := by
  unfold rightP okB at *
  simp only [Bool.and_eq_true, decide_eq_true_eq] at h ⊢
  exact ⟨⟨⟨h.1.1.1, by omega⟩, by omega⟩, h.2⟩
theorem zone_drop {L : List AV} (h : zoneEs L = true) (k : Nat) : zoneEs (L.drop k) = true := by
  rw [← List.take_append_drop k L, zoneEs_app, Bool.and_eq_true] at h
  exact h.2

theorem zone_ii : ∀ L : List Int, zoneEs (L.map ii) = true
  | [] => rfl
  | x :: L => by rw [List.map_cons, zoneEs_cons, zone_ii L]; rfl

set_option maxHeartbeats 32000000 in
set_option maxRecDepth 20000 in
theorem premiumTurned_m (C : List Int) (hl : C.length ≤ 9223372036854775807) (b y : Int) : Means false Try.prog 6 [il C, ii b, ii y] (bb true) := by
  refine means_fn false 172 [.tmp 6] Try.func6 rfl rfl rfl (by simp) (by decide) rfl fun X hX => ?_
  (repeat (first | refine awp_seq ?_ | refine awp_block ?_ | ((first | refine awp_runG [0, 1, 2, 6, 7, 8, 9, 10, 11, 12, 13, 14, 15, 16, 17, 18, 19, 20, 40, 97, 109, 112, 124, 129, 145, 148, 170] hX ?_ | refine awp_drawnG [0, 1, 2, 6, 7, 8, 9, 10, 11, 12, 13, 14, 15, 16, 17, 18, 19, 20, 40, 97, 109, 112, 124, 129, 145, 148, 170] hX mixed ?_ | refine awp_ret ?_ | refine awp_skip ?_ | refine awp_exit ?_); (simp [go_sem]; try (refine ⟨by kernel_rfl, ?_⟩)))))
  first | refine callK_intro (small_m) rfl (by simp [go_sem]) rfl ?_ | refine callT_intro (small_m) rfl (by simp [go_sem]) rfl ?_
  try (simp [go_sem]; try (refine ⟨by kernel_rfl, ?_⟩))
  (repeat (first | refine awp_seq ?_ | refine awp_block ?_ | ((first | refine awp_runG [0, 1, 2, 6, 7, 8, 9, 10, 11, 12, 13, 14, 15, 16, 17, 18, 19, 20, 40, 97, 109, 112, 124, 129, 145, 148, 170] hX ?_ | refine awp_drawnG [0, 1, 2, 6, 7, 8, 9, 10, 11, 12, 13, 14, 15, 16, 17, 18, 19, 20, 40, 97, 109, 112, 124, 129, 145, 148, 170] hX mixed ?_ | refine awp_ret ?_ | refine awp_skip ?_ | refine awp_exit ?_); (simp [go_sem]; try (refine ⟨by kernel_rfl, ?_⟩)))))
  first | refine callG_intro (fun hg => rright_m C hl b) rfl (by simp [go_sem]) rfl ?_ | refine callGT_intro (fun hg => rright_m C hl b) rfl (by simp [go_sem]) rfl ?_
  try (simp [go_sem]; try (refine ⟨by kernel_rfl, ?_⟩))
  refine awp_cond (b := decide (20 < (C.length : Int)) || !rightP C b || decide (y < 0) || decide ((C.length : Int) < y)) (by simp [go_sem, Bool.or_assoc]) (fun hb => ?_) (fun hb => ?_)
  · (repeat (first | refine awp_seq ?_ | refine awp_block ?_ | ((first | refine awp_runG [0, 1, 2, 6, 7, 8, 9, 10, 11, 12, 13, 14, 15, 16, 17, 18, 19, 20, 40, 97, 109, 112, 124, 129, 145, 148, 170] hX ?_ | refine awp_drawnG [0, 1, 2, 6, 7, 8, 9, 10, 11, 12, 13, 14, 15, 16, 17, 18, 19, 20, 40, 97, 109, 112, 124, 129, 145, 148, 170] hX mixed ?_ | refine awp_ret ?_ | refine awp_skip ?_ | refine awp_exit ?_); (simp [go_sem]; try (refine ⟨by kernel_rfl, ?_⟩)))))
  simp at hb
  obtain ⟨⟨⟨h20, hr⟩, hy0⟩, hyl⟩ := hb
  obtain ⟨k, rfl⟩ := Int.eq_ofNat_of_zero_le hy0
  have hk : k ≤ C.length := by omega
  have R := right_RP hr
  have hlen := R.len
  have hsm := R.sum
  have hcoin := R.coin
  obtain ⟨hok, hws, hs0⟩ := wts_ok R
  have cr := rates_t C b _ hl hr rfl
  obtain ⟨t1, t2⟩ := turn_right hr k
  have hCk : (C.drop k ++ C.take k).length = C.length := by simp; omega
  have ct := rates_t (C.drop k ++ C.take k) b _ (by rw [hCk]; exact hl) t1 t2
  have hmap : ((rts C b).drop k ++ (rts C b).take k).map fz = ((rts C b).map fz).drop k ++ ((rts C b).map fz).take k := by rw [List.map_append, List.map_drop, List.map_take]
  have hzr : ∀ i (h : i < (rts C b).length), rz (rts C b)[i].1 ∧ rz (rts C b)[i].2 := fun i h => by
    have hi : i < C.length := by rw [rts_len] at h; exact h
    rw [rts_at hi]
    have := rt_rf (c := b * C.length) (S := sumL (wts C)) (w := C[i] + 1) (R.prod (by have := R.mem hi; omega)) hsm
    exact ⟨this.1, this.2.1⟩
  have cs := sameF_t ((rts C b).drop k ++ (rts C b).take k) (by simp [rts_len]; omega) (fun i h => by
    have hm : ((rts C b).drop k ++ (rts C b).take k)[i] ∈ rts C b := by
      rcases List.mem_append.1 (List.getElem_mem h) with q | q
      · exact List.mem_of_mem_drop q
      · exact List.mem_of_mem_take q
    obtain ⟨j, hj, e⟩ := List.getElem_of_mem hm
    rw [← e]; exact hzr j hj)
  rw [hmap] at ct cs
  have hnD : ∀ k (h : k < C.length), nth ((rts C b).map fz) k = fz (rt (b * C.length) (sumL (wts C)) (C[k] + 1)) := fun k h => by
    have : nth ((rts C b).map fz) k = fz ((rts C b)[k]'(by rw [rts_len]; exact h)) := nth_map fz (by rw [rts_len]; exact h)
    rw [this, rts_at h]
  have hDl : ((rts C b).map fz).length = C.length := by rw [List.length_map, rts_len]
  have hDm : ∀ a ∈ (rts C b).map fz, a.plain = true ∧ a.flat.length = 4 := fun a ha => by
    obtain ⟨x, _, rfl⟩ := List.mem_map.1 ha
    exact ⟨by simp [go_sem], by simp [go_sem]⟩
  have hzD := zone_fz (rts C b)
  have hzd := zone_drop hzD k
  have hzt := zone_take hzD k
  have cR := round_t C b 0 _ hl hr (wts_fairE R hcoin.1 (Int.le_refl 0) (by omega)) rfl
  have hF := fair_len (b * C.length) (wts C) 0
  have hFa : ∀ i (h : i < C.length) (h' : i < (fair (b * C.length) (wts C) 0).length), (fair (b * C.length) (wts C) 0)[i] = gt (given (wts C) (b * C.length)) i := fun i h h' => by
    rw [fair_at h' (by rw [given_len, wts_len]; exact h) (by rw [given_len, wts_len]; exact h), gt_at (by rw [given_len, wts_len]; exact h)]
    simp only [given_zero hs0, Int.zero_add]
    simp
  have hg := fun i (h : i < C.length) => given_rt R (n := b * C.length) hcoin h
  have hgb := fun i (h : i < (wts C).length) => given_bd (W := wts C) (n := b * C.length) hok hs0 hcoin.1 h
  have hcw := fun i (h : i < C.length) => R.prod (w := C[i] + 1) (by have := R.mem h; omega)
  have hnear : ∀ i (h : i < C.length) (h' : i < (fair (b * C.length) (wts C) 0).length), Means false Try.prog 19 [fz (rt (b * C.length) (sumL (wts C)) (C[i] + 1)), ii (fair (b * C.length) (wts C) 0)[i]] (bb true) := fun i h h' => by
    rw [hFa i h h']
    have h2 := hgb i (by rw [wts_len]; exact h)
    have h3 := hg i h
    exact near_rt (b * C.length * (C[i] + 1)) (sumL (wts C)) _ hsm (by have := hcw i h; omega) (by omega) h3.1 h3.2
  have h2r := fun h => rates_t C (2 * b) _ hl (twice_right hr h) rfl
  have hn2 : ∀ k (h : k < C.length), nth ((rts C (2 * b)).map fz) k = fz (rt (2 * (b * C.length)) (sumL (wts C)) (C[k] + 1)) := fun k h => by
    have : nth ((rts C (2 * b)).map fz) k = fz ((rts C (2 * b))[k]'(by rw [rts_len]; exact h)) := nth_map fz (by rw [rts_len]; exact h)
    rw [this, rts_at h, Int.mul_assoc]
  have hD2l : ((rts C (2 * b)).map fz).length = C.length := by rw [List.length_map, rts_len]
  have hmul := fun i (h : i < C.length) => mul_rt (b * C.length) (sumL (wts C)) (C[i] + 1) 2 hsm (by have := hcw i h; omega) (by omega)
  have hrf2 : ∀ i (h : i < C.length), 2 * (b * (C.length : Int)) ≤ 1099511627776 → rf (rt (2 * (b * C.length)) (sumL (wts C)) (C[i] + 1)).1 (rt (2 * (b * C.length)) (sumL (wts C)) (C[i] + 1)).2 := fun i h h0 => by
    have hm := R.mem h
    exact rt_rf (mul_small (A := 1099511627776) (B := 1001) (by omega) (by omega)) hsm
  have hF2 : (fair (b * C.length) (wts C) 0).length = C.length := by rw [hF, wts_len]
  clear hF hFa hg hgb hmap t1 t2 hzr
  generalize fair (b * C.length) (wts C) 0 = F at *
  generalize (rts C b).map fz = D at *
  generalize hD2 : (rts C (2 * b)).map fz = D2 at *
  (repeat (first | refine awp_seq ?_ | refine awp_block ?_ | ((first | refine awp_runG [0, 1, 2, 6, 7, 8, 9, 10, 11, 12, 13, 14, 15, 16, 17, 18, 19, 20, 40, 97, 109, 112, 124, 129, 145, 148, 170] hX ?_ | refine awp_drawnG [0, 1, 2, 6, 7, 8, 9, 10, 11, 12, 13, 14, 15, 16, 17, 18, 19, 20, 40, 97, 109, 112, 124, 129, 145, 148, 170] hX mixed ?_ | refine awp_ret ?_ | refine awp_skip ?_ | refine awp_exit ?_); (simp [go_sem]; try (refine ⟨by kernel_rfl, ?_⟩)))))
  have hmi : ∀ a ∈ C.map ii, a.plain = true ∧ a.flat.length = 1 := fun a ha => by
    obtain ⟨x, _, rfl⟩ := List.mem_map.1 ha
    exact ⟨rfl, rfl⟩
  have hzi : zoneEs ((C.map ii).drop k ++ (C.map ii).take k) = true := by rw [zoneEs_app, zone_drop (zone_ii C) k, zone_take (zone_ii C) k]; rfl
  have hzz : zoneEs (D.drop k ++ D.take k) = true := by rw [zoneEs_app, hzd, hzt]; rfl
  have eil : il (C.drop k ++ C.take k) = .sl ((C.map ii).drop k ++ (C.map ii).take k) := by show AV.sl _ = _; rw [List.map_append, List.map_drop, List.map_take]
  rw [eil] at ct
  have hDz : (AV.tup [.sl (D.drop k ++ D.take k), ii 0]).zone = true := rfl
  have cK := meansH_kill (E := 3) (k := 1) hzi (by simp [go_sem]) hDz ct
  first | refine callK_intro (cr) rfl (by simp [go_sem]) rfl ?_ | refine callT_intro (cr) rfl (by simp [go_sem]) rfl ?_
  try (simp [go_sem]; try (refine ⟨by kernel_rfl, ?_⟩))
  (repeat (first | refine awp_seq ?_ | refine awp_block ?_ | ((first | refine awp_runG [0, 1, 2, 6, 7, 8, 9, 10, 11, 12, 13, 14, 15, 16, 17, 18, 19, 20, 40, 97, 109, 112, 124, 129, 145, 148, 170] hX ?_ | refine awp_drawnG [0, 1, 2, 6, 7, 8, 9, 10, 11, 12, 13, 14, 15, 16, 17, 18, 19, 20, 40, 97, 109, 112, 124, 129, 145, 148, 170] hX mixed ?_ | refine awp_ret ?_ | refine awp_skip ?_ | refine awp_exit ?_); (simp [go_sem, hk]; try (refine ⟨by kernel_rfl, ?_⟩)))))
  refine ⟨⟨⟨by omega, by unfold maxLen; omega⟩, fun a ha => hmi a (List.mem_of_mem_drop ha)⟩, ⟨⟨by omega, by unfold maxLen; omega⟩, fun a ha => hmi a (List.mem_of_mem_take ha)⟩, ?_⟩
  refine callTE_intro [2] cK (by simp [go_sem, hzi, hzd, hzt]) ?_
  try (simp [go_sem]; try (refine ⟨by kernel_rfl, ?_⟩))
  (repeat (first | refine awp_seq ?_ | refine awp_block ?_ | ((first | refine awp_runG [0, 1, 2, 6, 7, 8, 9, 10, 11, 12, 13, 14, 15, 16, 17, 18, 19, 20, 40, 97, 109, 112, 124, 129, 145, 148, 170] hX ?_ | refine awp_drawnG [0, 1, 2, 6, 7, 8, 9, 10, 11, 12, 13, 14, 15, 16, 17, 18, 19, 20, 40, 97, 109, 112, 124, 129, 145, 148, 170] hX mixed ?_ | refine awp_ret ?_ | refine awp_skip ?_ | refine awp_exit ?_); (simp [go_sem]; try (refine ⟨by kernel_rfl, ?_⟩)))))
  first | refine callK_intro (cR) rfl (by simp [go_sem]) rfl ?_ | refine callT_intro (cR) rfl (by simp [go_sem]) rfl ?_
  try (simp [go_sem]; try (refine ⟨by kernel_rfl, ?_⟩))
  have hDk : (D.drop k ++ D.take k).length = C.length := by simp; omega
  have hDk2 : C.length - k + k = C.length := by omega
  (repeat (first | refine awp_seq ?_ | refine awp_block ?_ | ((first | refine awp_runG [0, 1, 2, 6, 7, 8, 9, 10, 11, 12, 13, 14, 15, 16, 17, 18, 19, 20, 40, 97, 109, 112, 124, 129, 145, 148, 170] hX ?_ | refine awp_drawnG [0, 1, 2, 6, 7, 8, 9, 10, 11, 12, 13, 14, 15, 16, 17, 18, 19, 20, 40, 97, 109, 112, 124, 129, 145, 148, 170] hX mixed ?_ | refine awp_ret ?_ | refine awp_skip ?_ | refine awp_exit ?_); (simp [go_sem, hDl, hF2, hDk2, hk]; try (refine ⟨by kernel_rfl, ?_⟩)))))
  refine awp_cond (b := false) (by simp [go_sem]) (fun h => by cases h) (fun _ => ?_)
  (repeat (first | refine awp_seq ?_ | refine awp_block ?_ | ((first | refine awp_runG [0, 1, 2, 6, 7, 8, 9, 10, 11, 12, 13, 14, 15, 16, 17, 18, 19, 20, 40, 97, 109, 112, 124, 129, 145, 148, 170] hX ?_ | refine awp_drawnG [0, 1, 2, 6, 7, 8, 9, 10, 11, 12, 13, 14, 15, 16, 17, 18, 19, 20, 40, 97, 109, 112, 124, 129, 145, 148, 170] hX mixed ?_ | refine awp_ret ?_ | refine awp_skip ?_ | refine awp_exit ?_); (simp [go_sem, hk, hDl, hzd, hzt]; try (refine ⟨by kernel_rfl, ?_⟩)))))
  refine ⟨fun a ha => (hDm a ha).2, ⟨⟨by omega, by unfold maxLen; omega⟩, fun a ha => hDm a (List.mem_of_mem_drop ha)⟩, fun a ha => (hDm a ha).2, ⟨⟨by omega, by unfold maxLen; omega⟩, fun a ha => hDm a (List.mem_of_mem_take ha)⟩, ?_⟩
  first | refine callK_intro (cs) rfl (by simp [go_sem]) rfl ?_ | refine callT_intro (cs) rfl (by simp [go_sem]) rfl ?_
  try (simp [go_sem]; try (refine ⟨by kernel_rfl, ?_⟩))
  refine awp_cond (b := false) (by simp [go_sem]) (fun h => by cases h) (fun _ => ?_)
  (repeat (first | refine awp_seq ?_ | refine awp_block ?_ | ((first | refine awp_runG [0, 1, 2, 6, 7, 8, 9, 10, 11, 12, 13, 14, 15, 16, 17, 18, 19, 20, 40, 97, 109, 112, 124, 129, 145, 148, 170] hX ?_ | refine awp_drawnG [0, 1, 2, 6, 7, 8, 9, 10, 11, 12, 13, 14, 15, 16, 17, 18, 19, 20, 40, 97, 109, 112, 124, 129, 145, 148, 170] hX mixed ?_ | refine awp_ret ?_ | refine awp_skip ?_ | refine awp_exit ?_); (simp [go_sem]; try (refine ⟨by kernel_rfl, ?_⟩)))))
  refine awp_loop (fun i : Nat => ⟨mkE [(0, il C), (1, ii b), (7, bb true), (8, ii C.length), (9, .sl D), (13, il F), (15, ii i)], []⟩) (fun i => i ≤ C.length) (fun i => C.length - i) 0 ?_ ?_ ?_
  · refine sub_of _ [] (by simp [go_sem]) ?_
    simp [go_sem]
  · omega
  · intro i hi
    have wi := w64 (x := (i : Int) + 1) (by omega) (by omega)
    (repeat (first | refine awp_seq ?_ | refine awp_block ?_ | ((first | refine awp_runG [0, 1, 2, 6, 7, 8, 9, 10, 11, 12, 13, 14, 15, 16, 17, 18, 19, 20, 40, 97, 109, 112, 124, 129, 145, 148, 170] hX ?_ | refine awp_drawnG [0, 1, 2, 6, 7, 8, 9, 10, 11, 12, 13, 14, 15, 16, 17, 18, 19, 20, 40, 97, 109, 112, 124, 129, 145, 148, 170] hX mixed ?_ | refine awp_ret ?_ | refine awp_skip ?_ | refine awp_exit ?_); (simp [go_sem]; try (refine ⟨by kernel_rfl, ?_⟩)))))
    refine awp_cond (b := decide (i < C.length)) (by simp [go_sem]) (fun hd => ?_) (fun hd => ?_)
    · simp at hd
      have hiD : i < D.length := by omega
      have hiF : i < F.length := by omega
      have n1 := hnD i hd
      have cn := hnear i hd hiF
      obtain ⟨f, hf⟩ : ∃ f, F[i] = f := ⟨_, rfl⟩
      rw [hf] at cn
      generalize rt (b * (C.length : Int)) (sumL (wts C)) (C[i] + 1) = u at *
      (repeat (first | refine awp_seq ?_ | refine awp_block ?_ | ((first | refine awp_runG [0, 1, 2, 6, 7, 8, 9, 10, 11, 12, 13, 14, 15, 16, 17, 18, 19, 20, 40, 97, 109, 112, 124, 129, 145, 148, 170] hX ?_ | refine awp_drawnG [0, 1, 2, 6, 7, 8, 9, 10, 11, 12, 13, 14, 15, 16, 17, 18, 19, 20, 40, 97, 109, 112, 124, 129, 145, 148, 170] hX mixed ?_ | refine awp_ret ?_ | refine awp_skip ?_ | refine awp_exit ?_); (simp [go_sem, hiD, n1, hiF, hf]; try (refine ⟨by kernel_rfl, ?_⟩)))))
      first | refine callK_intro (cn) rfl (by simp [go_sem]) rfl ?_ | refine callT_intro (cn) rfl (by simp [go_sem]) rfl ?_
      try (simp [go_sem]; try (refine ⟨by kernel_rfl, ?_⟩))
      refine awp_cond (b := false) (by simp [go_sem]) (fun h => by cases h) (fun _ => ?_)
      (repeat (first | refine awp_seq ?_ | refine awp_block ?_ | ((first | refine awp_runG [0, 1, 2, 6, 7, 8, 9, 10, 11, 12, 13, 14, 15, 16, 17, 18, 19, 20, 40, 97, 109, 112, 124, 129, 145, 148, 170] hX ?_ | refine awp_drawnG [0, 1, 2, 6, 7, 8, 9, 10, 11, 12, 13, 14, 15, 16, 17, 18, 19, 20, 40, 97, 109, 112, 124, 129, 145, 148, 170] hX mixed ?_ | refine awp_ret ?_ | refine awp_skip ?_ | refine awp_exit ?_); (simp [go_sem, wi]; try (refine ⟨by kernel_rfl, ?_⟩)))))
      refine ⟨i + 1, by omega, by omega, ?_⟩
      refine sub_of _ [] (by simp [go_sem]) ?_
      simp [go_sem]
    · have hn0 : ¬ (C.length : Int) = 0 := by omega
      have hn00 : ¬ C.length = 0 := by omega
      have htd : Int.tdiv 1099511627776 (C.length : Int) = 1099511627776 / (C.length : Int) := Int.tdiv_eq_ediv_of_nonneg (by omega)
      have hd0 := Int.ediv_nonneg (a := 1099511627776) (b := (C.length : Int)) (by omega) (by omega)
      have hd1 := Int.ediv_le_self (C.length : Int) (show (0 : Int) ≤ 1099511627776 by omega)
      have w1 := w64 (x := 1099511627776 / (C.length : Int)) (by omega) (by omega)
      have hemul := Int.ediv_mul_le 1099511627776 (show (C.length : Int) ≠ 0 by omega)
      obtain ⟨m, hm⟩ : ∃ m, 1099511627776 / (C.length : Int) = m := ⟨_, rfl⟩
      rw [hm] at htd hd0 hd1 w1 h2r hemul
      have htd2 : m.tdiv 2 = m / 2 := Int.tdiv_eq_ediv_of_nonneg hd0
      have w2 := w64 (x := m / 2) (by omega) (by omega)
      (repeat (first | refine awp_seq ?_ | refine awp_block ?_ | ((first | refine awp_runG [0, 1, 2, 6, 7, 8, 9, 10, 11, 12, 13, 14, 15, 16, 17, 18, 19, 20, 40, 97, 109, 112, 124, 129, 145, 148, 170] hX ?_ | refine awp_drawnG [0, 1, 2, 6, 7, 8, 9, 10, 11, 12, 13, 14, 15, 16, 17, 18, 19, 20, 40, 97, 109, 112, 124, 129, 145, 148, 170] hX mixed ?_ | refine awp_ret ?_ | refine awp_skip ?_ | refine awp_exit ?_); (simp [go_sem, hn0, hn00, htd, w1, htd2, w2]; try (refine ⟨by kernel_rfl, ?_⟩)))))
      refine awp_cond (b := decide (m / 2 < b)) (by simp [go_sem, hn0, hn00, htd, w1, htd2, w2]) (fun he => ?_) (fun he => ?_)
      · (repeat (first | refine awp_seq ?_ | refine awp_block ?_ | ((first | refine awp_runG [0, 1, 2, 6, 7, 8, 9, 10, 11, 12, 13, 14, 15, 16, 17, 18, 19, 20, 40, 97, 109, 112, 124, 129, 145, 148, 170] hX ?_ | refine awp_drawnG [0, 1, 2, 6, 7, 8, 9, 10, 11, 12, 13, 14, 15, 16, 17, 18, 19, 20, 40, 97, 109, 112, 124, 129, 145, 148, 170] hX mixed ?_ | refine awp_ret ?_ | refine awp_skip ?_ | refine awp_exit ?_); (simp [go_sem]; try (refine ⟨by kernel_rfl, ?_⟩)))))
      simp at he
      have c2 := h2r he
      have hb0 := R.base.1
      have hb2 : 2 * b * (C.length : Int) ≤ m * C.length := Int.mul_le_mul_of_nonneg_right (by omega) (by omega)
      have hbb : 2 * (b * (C.length : Int)) ≤ 1099511627776 := by rw [← Int.mul_assoc]; omega
      have wb := w64 (x := 2 * b) (by omega) (by omega)
      (repeat (first | refine awp_seq ?_ | refine awp_block ?_ | ((first | refine awp_runG [0, 1, 2, 6, 7, 8, 9, 10, 11, 12, 13, 14, 15, 16, 17, 18, 19, 20, 40, 97, 109, 112, 124, 129, 145, 148, 170] hX ?_ | refine awp_drawnG [0, 1, 2, 6, 7, 8, 9, 10, 11, 12, 13, 14, 15, 16, 17, 18, 19, 20, 40, 97, 109, 112, 124, 129, 145, 148, 170] hX mixed ?_ | refine awp_ret ?_ | refine awp_skip ?_ | refine awp_exit ?_); (simp [go_sem, wb]; try (refine ⟨by kernel_rfl, ?_⟩)))))
      first | refine callK_intro (c2) rfl (by simp [go_sem]) rfl ?_ | refine callT_intro (c2) rfl (by simp [go_sem]) rfl ?_
      try (simp [go_sem]; try (refine ⟨by kernel_rfl, ?_⟩))
      (repeat (first | refine awp_seq ?_ | refine awp_block ?_ | ((first | refine awp_runG [0, 1, 2, 6, 7, 8, 9, 10, 11, 12, 13, 14, 15, 16, 17, 18, 19, 20, 40, 97, 109, 112, 124, 129, 145, 148, 170] hX ?_ | refine awp_drawnG [0, 1, 2, 6, 7, 8, 9, 10, 11, 12, 13, 14, 15, 16, 17, 18, 19, 20, 40, 97, 109, 112, 124, 129, 145, 148, 170] hX mixed ?_ | refine awp_ret ?_ | refine awp_skip ?_ | refine awp_exit ?_); (simp [go_sem, hD2l]; try (refine ⟨by kernel_rfl, ?_⟩)))))
      refine awp_cond (b := false) (by simp [go_sem, hD2l]) (fun h => by cases h) (fun _ => ?_)
      (repeat (first | refine awp_seq ?_ | refine awp_block ?_ | ((first | refine awp_runG [0, 1, 2, 6, 7, 8, 9, 10, 11, 12, 13, 14, 15, 16, 17, 18, 19, 20, 40, 97, 109, 112, 124, 129, 145, 148, 170] hX ?_ | refine awp_drawnG [0, 1, 2, 6, 7, 8, 9, 10, 11, 12, 13, 14, 15, 16, 17, 18, 19, 20, 40, 97, 109, 112, 124, 129, 145, 148, 170] hX mixed ?_ | refine awp_ret ?_ | refine awp_skip ?_ | refine awp_exit ?_); (simp [go_sem]; try (refine ⟨by kernel_rfl, ?_⟩)))))
      refine awp_loop (fun j : Nat => ⟨mkE [(7, bb true), (8, ii C.length), (9, .sl D), (16, .sl D2), (18, ii j)], []⟩) (fun j => j ≤ C.length) (fun j => C.length - j) 0 ?_ ?_ ?_
      · refine sub_of _ [] (by simp [go_sem]) ?_
        simp [go_sem]
      · omega
      · intro j hj
        have wj := w64 (x := (j : Int) + 1) (by omega) (by omega)
        (repeat (first | refine awp_seq ?_ | refine awp_block ?_ | ((first | refine awp_runG [0, 1, 2, 6, 7, 8, 9, 10, 11, 12, 13, 14, 15, 16, 17, 18, 19, 20, 40, 97, 109, 112, 124, 129, 145, 148, 170] hX ?_ | refine awp_drawnG [0, 1, 2, 6, 7, 8, 9, 10, 11, 12, 13, 14, 15, 16, 17, 18, 19, 20, 40, 97, 109, 112, 124, 129, 145, 148, 170] hX mixed ?_ | refine awp_ret ?_ | refine awp_skip ?_ | refine awp_exit ?_); (simp [go_sem]; try (refine ⟨by kernel_rfl, ?_⟩)))))
        refine awp_cond (b := decide (j < C.length)) (by simp [go_sem]) (fun hg => ?_) (fun hg => ?_)
        · simp at hg
          have hjD : j < D.length := by omega
          have hjD2 : j < D2.length := by omega
          have n1 := hnD j hg
          have n2 := hn2 j hg
          have cm := hmul j hg
          have f2 := hrf2 j hg hbb
          have cC := Compare_f _ _ _ _ f2 f2
          rw [(cmpI_zero _ _).2 rfl] at cC
          generalize rt (b * (C.length : Int)) (sumL (wts C)) (C[j] + 1) = u at *
          generalize rt (2 * (b * (C.length : Int))) (sumL (wts C)) (C[j] + 1) = v at *
          (repeat (first | refine awp_seq ?_ | refine awp_block ?_ | ((first | refine awp_runG [0, 1, 2, 6, 7, 8, 9, 10, 11, 12, 13, 14, 15, 16, 17, 18, 19, 20, 40, 97, 109, 112, 124, 129, 145, 148, 170] hX ?_ | refine awp_skip ?_ | refine awp_exit ?_); (simp [go_sem]; try (refine ⟨by kernel_rfl, ?_⟩)))))
          refine awp_drawUG [0, 1, 2, 6, 7, 8, 9, 10, 11, 12, 13, 14, 15, 16, 17, 18, 19, 20, 40, 97, 109, 112, 124, 129, 145, 148, 170] 1 hX mixed ?_; (simp [go_sem, hjD, n1]; try (refine ⟨by kernel_rfl, ?_⟩))
          refine callU_intro (of_1 2 (by omega)) rfl (by simp [go_sem]) rfl ?_
          try (simp [go_sem]; try (refine ⟨by kernel_rfl, ?_⟩))
          refine callU_intro (cm) rfl (by simp [go_sem]) rfl ?_
          try (simp [go_sem]; try (refine ⟨by kernel_rfl, ?_⟩))
          refine ⟨⟨by kernel_rfl, by kernel_rfl⟩, ?_⟩
          (repeat (first | refine awp_seq ?_ | refine awp_block ?_ | ((first | refine awp_runG [0, 1, 2, 6, 7, 8, 9, 10, 11, 12, 13, 14, 15, 16, 17, 18, 19, 20, 40, 97, 109, 112, 124, 129, 145, 148, 170] hX ?_ | refine awp_drawnG [0, 1, 2, 6, 7, 8, 9, 10, 11, 12, 13, 14, 15, 16, 17, 18, 19, 20, 40, 97, 109, 112, 124, 129, 145, 148, 170] hX mixed ?_ | refine awp_ret ?_ | refine awp_skip ?_ | refine awp_exit ?_); (simp [go_sem, hjD2, n2]; try (refine ⟨by kernel_rfl, ?_⟩)))))
          first | refine callG_intro (fun hg => cC) rfl (by simp [go_sem]) rfl ?_ | refine callGT_intro (fun hg => cC) rfl (by simp [go_sem]) rfl ?_
          try (simp [go_sem]; try (refine ⟨by kernel_rfl, ?_⟩))
          try (repeat refine And.intro (by first | omega | (unfold maxLen; omega) | kernel_rfl | (refine ⟨by first | omega | (unfold maxLen; omega), by first | omega | (unfold maxLen; omega)⟩) | grind) ?_)
          refine awp_cond (b := false) (by simp [go_sem]) (fun h => by cases h) (fun _ => ?_)
          (repeat (first | refine awp_seq ?_ | refine awp_block ?_ | ((first | refine awp_runG [0, 1, 2, 6, 7, 8, 9, 10, 11, 12, 13, 14, 15, 16, 17, 18, 19, 20, 40, 97, 109, 112, 124, 129, 145, 148, 170] hX ?_ | refine awp_drawnG [0, 1, 2, 6, 7, 8, 9, 10, 11, 12, 13, 14, 15, 16, 17, 18, 19, 20, 40, 97, 109, 112, 124, 129, 145, 148, 170] hX mixed ?_ | refine awp_ret ?_ | refine awp_skip ?_ | refine awp_exit ?_); (simp [go_sem, wj]; try (refine ⟨by kernel_rfl, ?_⟩)))))
          refine ⟨j + 1, by omega, by omega, ?_⟩
          refine sub_of _ [] (by simp [go_sem]) ?_
          simp [go_sem]
        · (repeat (first | refine awp_seq ?_ | refine awp_block ?_ | ((first | refine awp_runG [0, 1, 2, 6, 7, 8, 9, 10, 11, 12, 13, 14, 15, 16, 17, 18, 19, 20, 40, 97, 109, 112, 124, 129, 145, 148, 170] hX ?_ | refine awp_drawnG [0, 1, 2, 6, 7, 8, 9, 10, 11, 12, 13, 14, 15, 16, 17, 18, 19, 20, 40, 97, 109, 112, 124, 129, 145, 148, 170] hX mixed ?_ | refine awp_ret ?_ | refine awp_skip ?_ | refine awp_exit ?_); (simp [go_sem]; try (refine ⟨by kernel_rfl, ?_⟩)))))

end Go.Proofs.Ytlcmmaokfbjojaa
