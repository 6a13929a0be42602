/-
  Layer 24: the bids of members alone.
-/
import Derived.Test.YtjgkjenbgadacaaDoorBidF
set_option linter.all false
namespace Go.Proofs.YtjgkjenbgadacaaDoor
open Go.RowKit Go.Ab
attribute [local irreducible] AWP Go.Ab.Sub Means MeansH CallK CallG CallT CallGT CallU

/-- A place, or -1. -/
def atZ (M : List Int) (x : Int) : Int := if atI M x < M.length then (atI M x : Int) else -1
theorem atZ_mem (M : List Int) (x : Int) : decide (0 ≤ atZ M x) = decide (x ∈ M) := by
  unfold atZ
  by_cases h : x ∈ M
  · obtain ⟨h1, _⟩ := atI_lt h
    simp [h1, h]
  · simp [atI_ge h, h]
theorem atI_eq {M : List Int} {x : Int} {k : Nat} (hk : k < M.length) (h : M[k] = x) (hn : ∀ j (hj : j < k), M[j] ≠ x) : atI M x = k := by
  have h1 : ¬ k < atI M x := fun q => atI_not q hk h
  by_cases h2 : atI M x < k
  · obtain ⟨h3, h4⟩ := atI_lt (show x ∈ M from h ▸ List.getElem_mem hk)
    exact absurd h4 (hn _ h2)
  · omega
set_option maxHeartbeats 400000 in
theorem index_m (M : List Int) (hl : M.length ≤ 9223372036854775807) (x : Int) : Means true Tryd.prog 42 [il M, ii x] (ii (atZ M x)) := by
  refine means_fn true 19 [.tmp 4] Tryd.func42 rfl rfl rfl (by simp) (by decide) rfl fun X hX => ?_
  (repeat (first | refine awp_seq ?_ | refine awp_block ?_ | ((first | refine awp_runG [0, 1, 4, 5, 7, 8, 9, 16] hX ?_ | refine awp_drawnG [0, 1, 4, 5, 7, 8, 9, 16] hX mixed ?_ | refine awp_ret ?_ | refine awp_skip ?_ | refine awp_exit ?_); (simp [go_sem]; try (refine ⟨by kernel_rfl, ?_⟩)))))
  refine awp_loop (fun k : Nat => ⟨mkE [(0, il M), (1, ii x), (4, ii 0), (7, ii M.length), (8, ii k)], []⟩) (fun k => k ≤ M.length ∧ ∀ j (hj : j < M.length), j < k → M[j] ≠ x) (fun k => M.length - k) 0 ?_ ?_ ?_
  · refine sub_of _ [] (by simp [go_sem]) ?_
    simp [go_sem]
  · exact ⟨by omega, by omega⟩
  · rintro k ⟨hk, hn⟩
    (repeat (first | refine awp_seq ?_ | refine awp_block ?_ | ((first | refine awp_runG [0, 1, 4, 5, 7, 8, 9, 16] hX ?_ | refine awp_drawnG [0, 1, 4, 5, 7, 8, 9, 16] hX mixed ?_ | refine awp_ret ?_ | refine awp_skip ?_ | refine awp_exit ?_); (simp [go_sem]; try (refine ⟨by kernel_rfl, ?_⟩)))))
    refine awp_cond (b := decide (k < M.length)) (by simp [go_sem]) (fun hb => ?_) (fun hb => ?_)
    · simp at hb
      have hq := nth_ii hb
      (repeat (first | refine awp_seq ?_ | refine awp_block ?_ | ((first | refine awp_runG [0, 1, 4, 5, 7, 8, 9, 16] hX ?_ | refine awp_drawnG [0, 1, 4, 5, 7, 8, 9, 16] hX mixed ?_ | refine awp_ret ?_ | refine awp_skip ?_ | refine awp_exit ?_); (simp [go_sem, hb, hq]; try (refine ⟨by kernel_rfl, ?_⟩)))))
      refine awp_cond (b := decide (x = M[k])) (by simp [go_sem]) (fun hc => ?_) (fun hc => ?_)
      · simp at hc
        have e : atZ M x = k := by
          have := atI_eq (x := x) hb hc.symm (fun j hj => hn j (by omega) hj)
          unfold atZ
          rw [this, if_pos hb]
        rw [e]
        (repeat (first | refine awp_seq ?_ | refine awp_block ?_ | ((first | refine awp_runG [0, 1, 4, 5, 7, 8, 9, 16] hX ?_ | refine awp_drawnG [0, 1, 4, 5, 7, 8, 9, 16] hX mixed ?_ | refine awp_ret ?_ | refine awp_skip ?_ | refine awp_exit ?_); (simp [go_sem]; try (refine ⟨by kernel_rfl, ?_⟩)))))
      · simp at hc
        (repeat (first | refine awp_seq ?_ | refine awp_block ?_ | ((first | refine awp_runG [0, 1, 4, 5, 7, 8, 9, 16] hX ?_ | refine awp_drawnG [0, 1, 4, 5, 7, 8, 9, 16] hX mixed ?_ | refine awp_ret ?_ | refine awp_skip ?_ | refine awp_exit ?_); (simp [go_sem]; (try simp (disch := omega) only [w64, td, tm]); try (refine ⟨by kernel_rfl, ?_⟩)))))
        refine ⟨k + 1, ⟨by omega, fun j hj hjk => ?_⟩, by omega, ?_⟩
        · by_cases e : j = k
          · subst e; exact fun q => hc q.symm
          · exact hn j hj (by omega)
        · refine sub_of _ [] (by simp [go_sem]) ?_
          simp [go_sem]
    · simp at hb
      have e : atZ M x = -1 := by
        have : x ∉ M := fun h => by
          obtain ⟨h1, h2⟩ := atI_lt h
          exact hn _ h1 (by omega) h2
        unfold atZ
        rw [atI_ge this, if_neg (by omega)]
      rw [e]
      (repeat (first | refine awp_seq ?_ | refine awp_block ?_ | ((first | refine awp_runG [0, 1, 4, 5, 7, 8, 9, 16] hX ?_ | refine awp_drawnG [0, 1, 4, 5, 7, 8, 9, 16] hX mixed ?_ | refine awp_ret ?_ | refine awp_skip ?_ | refine awp_exit ?_); (simp [go_sem]; try (refine ⟨by kernel_rfl, ?_⟩)))))
theorem contains_m (M : List Int) (hl : M.length ≤ 9223372036854775807) (x : Int) : Means true Tryd.prog 41 [il M, ii x] (bb (decide (x ∈ M))) := by
  rw [← atZ_mem]
  refine means_fn true 9 [.tmp 4] Tryd.func41 rfl rfl rfl (by simp) (by decide) rfl fun X hX => ?_
  (repeat (first | refine awp_seq ?_ | refine awp_block ?_ | ((first | refine awp_runG [0, 1, 4] hX ?_ | refine awp_drawnG [0, 1, 4] hX mixed ?_ | refine awp_ret ?_ | refine awp_skip ?_ | refine awp_exit ?_); (simp [go_sem]; try (refine ⟨by kernel_rfl, ?_⟩)))))
  first | refine callK_intro (index_m M hl x) rfl (by simp [go_sem]) rfl ?_ | refine callT_intro (index_m M hl x) rfl (by simp [go_sem]) rfl ?_
  try (simp [go_sem]; try (refine ⟨by kernel_rfl, ?_⟩))
  (repeat (first | refine awp_seq ?_ | refine awp_block ?_ | ((first | refine awp_runG [0, 1, 4] hX ?_ | refine awp_drawnG [0, 1, 4] hX mixed ?_ | refine awp_ret ?_ | refine awp_skip ?_ | refine awp_exit ?_); (simp [go_sem]; try (refine ⟨by kernel_rfl, ?_⟩)))))

/-- Who is a member. -/
abbrev memH (M : List Int) : Cell := .row ⟨25, 1, [il M]⟩
theorem zone_il (M : List Int) : zoneEs (M.map ii) = true := by
  unfold zoneEs
  rw [List.all_eq_true]
  intro a ha
  obtain ⟨b, _, rfl⟩ := List.mem_map.1 ha
  rfl
theorem mem1_m (M : List Int) (hl : M.length ≤ 9223372036854775807) (x : Bd) : MeansH Tryd.prog 40 [memH M] [ob x, .el 0 1 0 0] (bb (!memB M x)) [memH M] := by
  have c1 := contains_m M hl x.w
  have e : memB M x = decide (x.w ∈ M) := rfl
  rw [e]
  refine meansH_fn 1 9 [.tmp 3] Tryd.func40 rfl rfl rfl (by simp) (by decide) rfl fun X hX => ?_
  (repeat (first | refine awp_seq ?_ | refine awp_block ?_ | ((first | refine awp_runG [0, 1, 2, 3, 1000000] hX ?_ | refine awp_drawnG [0, 1, 2, 3, 1000000] hX mixed ?_ | refine awp_skip ?_ | refine awp_exit ?_); (simp [go_sem]; try (refine ⟨by kernel_rfl, ?_⟩)))))
  first | refine callK_intro (c1) rfl (by simp [go_sem]) rfl ?_ | refine callT_intro (c1) rfl (by simp [go_sem]) rfl ?_
  try (simp [go_sem]; try (refine ⟨by kernel_rfl, ?_⟩))
  (repeat (first | refine awp_seq ?_ | refine awp_block ?_ | ((first | refine awp_runG [0, 1, 2, 3, 1000000] hX ?_ | refine awp_drawnG [0, 1, 2, 3, 1000000] hX mixed ?_ | refine awp_skip ?_ | refine awp_exit ?_); (simp [go_sem]; try (refine ⟨by kernel_rfl, ?_⟩)))))
  refine awp_ret ?_; (try simp only [thenQ, blkQ, loopQ]); refine retH_ret [(3, bb (!decide (x.w ∈ M))), (1000000, .ow 0)] [.old 0 ⟨25, 1, [il M]⟩] ?_
  simp [go_sem]

/-- Where one is no member. -/
def outZ (L : List Bd) (M : List Int) : Int := if L.findIdx (fun b => !memB M b) < L.length then (L.findIdx (fun b => !memB M b) : Int) else -1

set_option maxHeartbeats 4000000 in
/-- The same search over a row of the call's own. -/
theorem indexO_m (L : List Bd) (M : List Int) (hl : L.length ≤ 100000) (hM : M.length ≤ 100000) : MeansH Tryd.prog 36 [rowB L, memH M] [.ow 0, .fn 40 [] [.el 1 1 0 0]] (ii (outZ L M)) [rowB L, memH M] := by
  have hz := zone_ob L
  unfold outZ
  generalize hp : (fun b => !memB M b) = p
  have hf := fun x => mem1_m M (by omega) x
  have hp2 : ∀ x, (!memB M x) = p x := fun x => by rw [← hp]
  simp only [hp2] at hf
  generalize hZ : (if L.findIdx p < L.length then (L.findIdx p : Int) else -1) = Z
  refine meansH_fn 2 19 [.tmp 4] Tryd.func36 rfl rfl rfl (by simp) (by decide) rfl fun X hX => ?_
  (repeat (first | refine awp_seq ?_ | refine awp_block ?_ | ((first | refine awp_runG [0, 1, 4, 5, 7, 8, 9, 16, 1000000, 1000001] hX ?_ | refine awp_drawnG [0, 1, 4, 5, 7, 8, 9, 16, 1000000, 1000001] hX mixed ?_ | refine awp_skip ?_ | refine awp_exit ?_); (simp [go_sem]; try (refine ⟨by kernel_rfl, ?_⟩)))))
  refine awp_loop (fun n : Nat => ⟨mkE [(0, .ow 0), (1, .fn 40 [] [.el 1 1 0 0]), (7, ii L.length), (8, ii n), (1000000, .ow 0), (1000001, .ow 1)], [rowB L, memH M]⟩) (fun n => n ≤ L.findIdx p ∧ n ≤ L.length) (fun n => L.length - n) 0 ?_ ?_ ?_
  · refine sub_of _ [.old 0 ⟨24, 4, L.map ob⟩, .old 1 ⟨25, 1, [il M]⟩] (by simp [go_sem]) ?_
    simp [go_sem]
  · omega
  · rintro n ⟨hn, hn2⟩
    (repeat (first | refine awp_seq ?_ | refine awp_block ?_ | ((first | refine awp_runG [0, 1, 4, 5, 7, 8, 9, 16, 1000000, 1000001] hX ?_ | refine awp_drawnG [0, 1, 4, 5, 7, 8, 9, 16, 1000000, 1000001] hX mixed ?_ | refine awp_skip ?_ | refine awp_exit ?_); (simp [go_sem]; try (refine ⟨by kernel_rfl, ?_⟩)))))
    refine awp_cond (b := decide (n < L.length)) (by simp [go_sem]) (fun hc => ?_) (fun hc => ?_)
    · simp at hc
      have hq := nth_ob hc
      (repeat (first | refine awp_seq ?_ | refine awp_block ?_ | ((first | refine awp_runG [0, 1, 4, 5, 7, 8, 9, 16, 1000000, 1000001] hX ?_ | refine awp_drawnG [0, 1, 4, 5, 7, 8, 9, 16, 1000000, 1000001] hX mixed ?_ | refine awp_skip ?_ | refine awp_exit ?_); (simp [go_sem, hc, hq]; try (refine ⟨by kernel_rfl, ?_⟩)))))
      first | refine callH_intro [1] (hf L[n]) (by simp [go_sem]) ?_ | refine callTQ_intro [1] (hf L[n]) (by simp [go_sem]) ?_ | refine callTE_intro [1] (hf L[n]) (by simp [go_sem]) ?_
      try (simp [go_sem]; try (refine ⟨by kernel_rfl, ?_⟩))
      refine awp_cond (b := p L[n]) (by simp [go_sem]) (fun hd => ?_) (fun hd => ?_)
      · have e : L.findIdx p = n := by
          have h1 : ¬ n < L.findIdx p := fun h => by have := List.not_of_lt_findIdx h; rw [hd] at this; simp at this
          omega
        rw [if_pos (show L.findIdx p < L.length by omega), e] at hZ
        (repeat (first | refine awp_seq ?_ | refine awp_block ?_ | ((first | refine awp_runG [0, 1, 4, 5, 7, 8, 9, 16, 1000000, 1000001] hX ?_ | refine awp_drawnG [0, 1, 4, 5, 7, 8, 9, 16, 1000000, 1000001] hX mixed ?_ | refine awp_skip ?_ | refine awp_exit ?_); (simp [go_sem]; try (refine ⟨by kernel_rfl, ?_⟩)))))
        refine awp_ret ?_; (try simp only [thenQ, blkQ, loopQ]); refine retH_ret [(4, ii n), (1000000, .ow 0), (1000001, .ow 1)] [.old 0 ⟨24, 4, L.map ob⟩, .old 1 ⟨25, 1, [il M]⟩] ?_
        simp [go_sem, ← hZ]
      · have e : n + 1 ≤ L.findIdx p := by
          by_cases h : L.findIdx p = n
          · have h2 : L.findIdx p < L.length := by omega
            have := List.findIdx_getElem (p := p) (w := h2)
            simp only [h] at this
            rw [hd] at this; cases this
          · omega
        have wk := w64 (x := (n : Int) + 1) (by omega) (by omega)
        (repeat (first | refine awp_seq ?_ | refine awp_block ?_ | ((first | refine awp_runG [0, 1, 4, 5, 7, 8, 9, 16, 1000000, 1000001] hX ?_ | refine awp_drawnG [0, 1, 4, 5, 7, 8, 9, 16, 1000000, 1000001] hX mixed ?_ | refine awp_skip ?_ | refine awp_exit ?_); (simp [go_sem, wk]; try (refine ⟨by kernel_rfl, ?_⟩)))))
        refine ⟨n + 1, ⟨e, by omega⟩, by omega, ?_⟩
        refine sub_of _ [.old 0 ⟨24, 4, L.map ob⟩, .old 1 ⟨25, 1, [il M]⟩] (by simp [go_sem]) ?_
        simp [go_sem]
    · simp at hc
      rw [if_neg (show ¬ L.findIdx p < L.length by omega)] at hZ
      (repeat (first | refine awp_seq ?_ | refine awp_block ?_ | ((first | refine awp_runG [0, 1, 4, 5, 7, 8, 9, 16, 1000000, 1000001] hX ?_ | refine awp_drawnG [0, 1, 4, 5, 7, 8, 9, 16, 1000000, 1000001] hX mixed ?_ | refine awp_skip ?_ | refine awp_exit ?_); (simp [go_sem]; try (refine ⟨by kernel_rfl, ?_⟩)))))
      refine awp_ret ?_; (try simp only [thenQ, blkQ, loopQ]); refine retH_ret [(4, ii (-1)), (1000000, .ow 0), (1000001, .ow 1)] [.old 0 ⟨24, 4, L.map ob⟩, .old 1 ⟨25, 1, [il M]⟩] ?_
      simp [go_sem, ← hZ]

/-- The row while it is cut: after j elements. -/
def dstB (p : Bd → Bool) (L : List Bd) : Nat → List Bd
  | 0 => L
  | j + 1 => if p (L.getD j default) then (dstB p L j).set ((L.take j).filter p).length (L.getD j default) else dstB p L j
theorem gB {L : List Bd} {j : Nat} (h : j < L.length) : L.getD j default = L[j] := by rw [List.getD_eq_getElem?_getD, List.getElem?_eq_getElem h]; rfl
theorem dstB_succ (p : Bd → Bool) {L : List Bd} {j : Nat} (h : j < L.length) : dstB p L (j + 1) = if p L[j] then (dstB p L j).set ((L.take j).filter p).length L[j] else dstB p L j := by rw [← gB h]; rfl
theorem dstB_len (p : Bd → Bool) (L : List Bd) (j : Nat) : (dstB p L j).length = L.length := by
  induction j with
  | zero => rfl
  | succ j ih => unfold dstB; split <;> simp [ih]
theorem filt_le (p : Bd → Bool) (L : List Bd) (j : Nat) : ((L.take j).filter p).length ≤ j := by
  have := List.length_filter_le p (L.take j)
  rw [List.length_take] at this
  omega
theorem filt_succ (p : Bd → Bool) {L : List Bd} {j : Nat} (h : j < L.length) : (L.take (j + 1)).filter p = (L.take j).filter p ++ if p L[j] then [L[j]] else [] := by
  rw [List.take_succ_eq_append_getElem h, List.filter_append]
  congr 1
  cases hb : p L[j] <;> simp [hb]
theorem dstB_drop (p : Bd → Bool) (L : List Bd) : ∀ j, j ≤ L.length → (dstB p L j).drop j = L.drop j
  | 0, _ => rfl
  | j + 1, h => by
    have ih := dstB_drop p L j (by omega)
    have hc := filt_le p L j
    have e : (dstB p L (j + 1)).drop (j + 1) = (dstB p L j).drop (j + 1) := by
      rw [dstB_succ p (by omega)]
      split
      · rw [List.drop_set_of_lt (by omega)]
      · rfl
    rw [e, ← List.drop_drop, ih, List.drop_drop]
theorem dstB_take (p : Bd → Bool) (L : List Bd) : ∀ j, j ≤ L.length → (dstB p L j).take ((L.take j).filter p).length = (L.take j).filter p
  | 0, _ => by simp
  | j + 1, h => by
    have hj : j < L.length := by omega
    have ih := dstB_take p L j (by omega)
    have hc := filt_le p L j
    have hl := dstB_len p L j
    rw [filt_succ p hj, dstB_succ p hj]
    cases hb : p L[j] with
    | false => simpa using ih
    | true =>
      simp only [if_true, List.length_append, List.length_singleton]
      rw [List.take_succ_eq_append_getElem (by simp; omega)]
      congr 1
      · rw [List.take_set_of_le (Nat.le_refl _)]; exact ih
      · simp
theorem dstB_at (p : Bd → Bool) {L : List Bd} {j : Nat} (h : j < L.length) : (dstB p L j)[j]'(by rw [dstB_len]; exact h) = L[j] := by
  have := congrArg (fun l => l[0]?) (dstB_drop p L j (by omega))
  have hl := dstB_len p L j
  simpa [h, hl] using this
theorem dstB_same (p : Bd → Bool) (L : List Bd) : ∀ j, j ≤ L.length → (∀ x ∈ L.take j, p x = true) → dstB p L j = L
  | 0, _, _ => rfl
  | j + 1, h, hn => by
    have hj : j < L.length := by omega
    have hm : ∀ x, x ∈ L.take (j + 1) ↔ x ∈ L.take j ∨ x = L[j] := fun x => by rw [List.take_succ_eq_append_getElem hj, List.mem_append, List.mem_singleton]
    have ih := dstB_same p L j (by omega) fun x hx => hn x ((hm x).2 (.inl hx))
    have hb : p L[j] = true := hn _ ((hm _).2 (.inr rfl))
    have hcan : (L.take j).filter p = L.take j := List.filter_eq_self.2 fun x hx => hn x ((hm x).2 (.inl hx))
    rw [dstB_succ p hj, if_pos hb, ih, hcan, List.length_take, Nat.min_eq_left (by omega)]
    simp

abbrev nobody : Bd := ⟨0, 0, 0, false⟩
theorem deleteN_m (L : List Bd) (M : List Int) (hl : L.length ≤ 100000) (hM : M.length ≤ 100000) (hn : ∀ x ∈ L, memB M x = true) : MeansH Tryd.prog 39 [rowB L, memH M] [.ow 0, .fn 40 [] [.el 1 1 0 0]] (.ow 0) [rowB L, memH M] := by
  have hf := indexO_m L M hl hM
  have e : outZ L M = -1 := by
    unfold outZ
    rw [if_neg]
    rw [List.findIdx_lt_length]
    rintro ⟨x, hx, h⟩
    rw [hn x hx] at h; cases h
  rw [e] at hf
  have hz := zone_ob L
  refine meansH_fn 2 42 [.tmp 4] Tryd.func39 rfl rfl rfl (by simp) (by decide) rfl fun X hX => ?_
  (repeat (first | refine awp_seq ?_ | refine awp_block ?_ | ((first | refine awp_runG [0, 1, 4, 5, 6, 7, 12, 19, 29, 1000000, 1000001] hX ?_ | refine awp_drawnG [0, 1, 4, 5, 6, 7, 12, 19, 29, 1000000, 1000001] hX mixed ?_ | refine awp_skip ?_ | refine awp_exit ?_); (simp [go_sem]; try (refine ⟨by kernel_rfl, ?_⟩)))))
  first | refine callH_intro [0, 1] (hf) (by simp [go_sem]) ?_ | refine callTQ_intro [0, 1] (hf) (by simp [go_sem]) ?_ | refine callTE_intro [0, 1] (hf) (by simp [go_sem]) ?_
  try (simp [go_sem]; try (refine ⟨by kernel_rfl, ?_⟩))
  (repeat (first | refine awp_seq ?_ | refine awp_block ?_ | ((first | refine awp_runG [0, 1, 4, 5, 6, 7, 12, 19, 29, 1000000, 1000001] hX ?_ | refine awp_drawnG [0, 1, 4, 5, 6, 7, 12, 19, 29, 1000000, 1000001] hX mixed ?_ | refine awp_skip ?_ | refine awp_exit ?_); (simp [go_sem]; try (refine ⟨by kernel_rfl, ?_⟩)))))
  refine awp_cond (b := true) (by simp [go_sem]) (fun _ => ?_) (fun hb => by cases hb)
  (repeat (first | refine awp_seq ?_ | refine awp_block ?_ | ((first | refine awp_runG [0, 1, 4, 5, 6, 7, 12, 19, 29, 1000000, 1000001] hX ?_ | refine awp_drawnG [0, 1, 4, 5, 6, 7, 12, 19, 29, 1000000, 1000001] hX mixed ?_ | refine awp_skip ?_ | refine awp_exit ?_); (simp [go_sem]; try (refine ⟨by kernel_rfl, ?_⟩)))))
  refine awp_ret ?_; (try simp only [thenQ, blkQ, loopQ]); refine retH_ret [(4, .ow 0), (1000000, .ow 0), (1000001, .ow 1)] [.old 0 ⟨24, 4, L.map ob⟩, .old 1 ⟨25, 1, [il M]⟩] ?_
  simp [go_sem]

set_option maxHeartbeats 8000000 in
set_option maxRecDepth 20000 in
theorem deleteS_m (L : List Bd) (M : List Int) (hl : L.length ≤ 100000) (hM : M.length ≤ 100000) {f : Nat} (hf : f < L.length) (hn : ∀ x ∈ L.take f, memB M x = true) (hb : memB M L[f] = false) :
    MeansH Tryd.prog 39 [rowB L, memH M] [.ow 0, .fn 40 [] [.el 1 1 0 0]] (.wn 0 4 0 (L.filter (memB M)).length) [rowB (L.filter (memB M) ++ List.replicate (L.length - (L.filter (memB M)).length) nobody), memH M] := by
  have hix := indexO_m L M hl hM
  have hcx := fun x => mem1_m M (by omega) x
  have hlm : ∀ x ∈ L.take f, x ∈ L := fun x hx => List.mem_of_mem_take hx
  generalize hp : memB M = p at *
  have hfi : outZ L M = f := by
    have hidx : L.findIdx (fun b => !p b) = f := by
      have h1 : ¬ f < L.findIdx (fun b => !p b) := fun h => by have := List.not_of_lt_findIdx h; rw [hb] at this; simp at this
      by_cases h2 : L.findIdx (fun b => !p b) < f
      · have h3 := List.findIdx_getElem (p := fun b => !p b) (w := (show L.findIdx (fun b => !p b) < L.length by omega))
        have h4 := hn _ (List.mem_take_iff_getElem.2 ⟨L.findIdx (fun b => !p b), by omega, rfl⟩)
        rw [h4] at h3; cases h3
      · omega
    unfold outZ
    rw [hp, hidx, if_pos hf]
  rw [hfi] at hix
  have hne : ¬ ((f : Int) = -1) := by omega
  have hcl : (L.filter p).length ≤ L.length := List.length_filter_le _ _
  have hds := fun j (h : j < L.length) => dstB_succ p h
  have hfs := fun j (h : j < L.length) => filt_succ p h
  have hdl := dstB_len p L
  have hda := fun j (h : j < L.length) => dstB_at p h
  have hfl := filt_le p L
  have hdt := dstB_take p L L.length (Nat.le_refl _)
  have hd1 := dstB_same p L f (by omega) hn
  rw [List.take_length] at hdt
  have e1 : ((L.take (f + 1)).filter p).length = f := by
    rw [hfs f hf, hb]
    have : (L.take f).filter p = L.take f := List.filter_eq_self.2 hn
    simp [this]; omega
  have e2 : dstB p L (f + 1) = L := by rw [hds f hf, hb]; exact hd1
  refine meansH_fn 2 42 [.tmp 4] Tryd.func39 rfl rfl rfl (by simp) (by decide) rfl fun X hX => ?_
  (repeat (first | refine awp_seq ?_ | refine awp_block ?_ | ((first | refine awp_runG [0, 1, 4, 5, 6, 7, 12, 19, 29, 1000000, 1000001] hX ?_ | refine awp_drawnG [0, 1, 4, 5, 6, 7, 12, 19, 29, 1000000, 1000001] hX mixed ?_ | refine awp_skip ?_ | refine awp_exit ?_); (simp [go_sem]; try (refine ⟨by kernel_rfl, ?_⟩)))))
  first | refine callH_intro [0, 1] (hix) (by simp [go_sem]) ?_ | refine callTQ_intro [0, 1] (hix) (by simp [go_sem]) ?_ | refine callTE_intro [0, 1] (hix) (by simp [go_sem]) ?_
  try (simp [go_sem]; try (refine ⟨by kernel_rfl, ?_⟩))
  (repeat (first | refine awp_seq ?_ | refine awp_block ?_ | ((first | refine awp_runG [0, 1, 4, 5, 6, 7, 12, 19, 29, 1000000, 1000001] hX ?_ | refine awp_drawnG [0, 1, 4, 5, 6, 7, 12, 19, 29, 1000000, 1000001] hX mixed ?_ | refine awp_skip ?_ | refine awp_exit ?_); (simp [go_sem]; try (refine ⟨by kernel_rfl, ?_⟩)))))
  refine awp_cond (b := false) (by simp [go_sem, hne]) (fun hb => by cases hb) (fun _ => ?_)
  (repeat (first | refine awp_seq ?_ | refine awp_block ?_ | ((first | refine awp_runG [0, 1, 4, 5, 6, 7, 12, 19, 29, 1000000, 1000001] hX ?_ | refine awp_drawnG [0, 1, 4, 5, 6, 7, 12, 19, 29, 1000000, 1000001] hX mixed ?_ | refine awp_skip ?_ | refine awp_exit ?_); (simp [go_sem]; (try simp (disch := omega) only [w64, td, tm]); try (refine ⟨by kernel_rfl, ?_⟩)))))
  refine awp_loop (fun j : Nat => ⟨mkE [(0, .ow 0), (1, .fn 40 [] [.el 1 1 0 0]), (5, ii ((L.take j).filter p).length), (6, ii j), (1000000, .ow 0), (1000001, .ow 1)], [rowB (dstB p L j), memH M]⟩) (fun j => j ≤ L.length) (fun j => L.length - j) (f + 1) ?_ ?_ ?_
  · rw [e1, e2]
    refine sub_of _ [.old 0 ⟨24, 4, L.map ob⟩, .old 1 ⟨25, 1, [il M]⟩] (by simp [go_sem]) ?_
    simp [go_sem]
  · omega
  · intro j hj
    have hc := hfl j
    have hlj := hdl j
    (repeat (first | refine awp_seq ?_ | refine awp_block ?_ | ((first | refine awp_runG [0, 1, 4, 5, 6, 7, 12, 19, 29, 1000000, 1000001] hX ?_ | refine awp_drawnG [0, 1, 4, 5, 6, 7, 12, 19, 29, 1000000, 1000001] hX mixed ?_ | refine awp_skip ?_ | refine awp_exit ?_); (simp [go_sem]; try (refine ⟨by kernel_rfl, ?_⟩)))))
    refine awp_cond (b := decide (j < L.length)) (by simp [go_sem, hlj]) (fun hd => ?_) (fun hd => ?_)
    · simp at hd
      have hat := hda j hd
      have hq : nth ((dstB p L j).map ob) j = ob L[j] := by rw [nth_ob (by omega), hat]
      have hs1 := hds j hd
      have hs2 := hfs j hd
      have hcq := hcx L[j]
      have wk := w64 (x := (j : Int) + 1) (by omega) (by omega)
      obtain ⟨D, hD⟩ : ∃ D, dstB p L j = D := ⟨_, rfl⟩
      obtain ⟨F, hF⟩ : ∃ F, (L.take j).filter p = F := ⟨_, rfl⟩
      rw [hD] at hq hs1 hlj ⊢
      rw [hF] at hs1 hs2 hc ⊢
      generalize L[j] = x at *
      have hjd : j < D.length := by omega
      have hcd : F.length < D.length := by omega
      have hqF := nth_ob hcd
      have wf := w64 (x := (F.length : Int) + 1) (by omega) (by omega)
      (repeat (first | refine awp_seq ?_ | refine awp_block ?_ | ((first | refine awp_runG [0, 1, 4, 5, 6, 7, 12, 19, 29, 1000000, 1000001] hX ?_ | refine awp_drawnG [0, 1, 4, 5, 6, 7, 12, 19, 29, 1000000, 1000001] hX mixed ?_ | refine awp_skip ?_ | refine awp_exit ?_); (simp [go_sem, hjd, hq]; try (refine ⟨by kernel_rfl, ?_⟩)))))
      first | refine callH_intro [1] (hcq) (by simp [go_sem]) ?_ | refine callTQ_intro [1] (hcq) (by simp [go_sem]) ?_ | refine callTE_intro [1] (hcq) (by simp [go_sem]) ?_
      try (simp [go_sem, hjd, hq]; try (refine ⟨by kernel_rfl, ?_⟩))
      refine awp_cond (b := p x) (by simp [go_sem]) (fun he => ?_) (fun he => ?_)
      · rw [if_pos he] at hs1 hs2
        have hs3 : ((L.take (j + 1)).filter p).length = F.length + 1 := by rw [hs2]; simp
        (repeat (first | refine awp_seq ?_ | refine awp_block ?_ | ((first | refine awp_runG [0, 1, 4, 5, 6, 7, 12, 19, 29, 1000000, 1000001] hX ?_ | refine awp_drawnG [0, 1, 4, 5, 6, 7, 12, 19, 29, 1000000, 1000001] hX mixed ?_ | refine awp_skip ?_ | refine awp_exit ?_); (simp [go_sem, hcd, hq, hqF, wk, wf]; try (refine ⟨by kernel_rfl, ?_⟩)))))
        try (simp [go_sem, hcd, hq, hqF, wk, wf]; try (refine ⟨by kernel_rfl, ?_⟩))
        refine ⟨j + 1, by omega, by omega, ?_⟩
        rw [hs1, hs3]
        refine sub_of _ [.old 0 ⟨24, 4, (D.set F.length x).map ob⟩, .old 1 ⟨25, 1, [il M]⟩] (by simp [go_sem]) ?_
        simp [go_sem]
      · rw [if_neg (by rw [he]; simp)] at hs1 hs2
        have hs3 : ((L.take (j + 1)).filter p).length = F.length := by rw [hs2]; simp
        (repeat (first | refine awp_seq ?_ | refine awp_block ?_ | ((first | refine awp_runG [0, 1, 4, 5, 6, 7, 12, 19, 29, 1000000, 1000001] hX ?_ | refine awp_drawnG [0, 1, 4, 5, 6, 7, 12, 19, 29, 1000000, 1000001] hX mixed ?_ | refine awp_skip ?_ | refine awp_exit ?_); (simp [go_sem, wk]; try (refine ⟨by kernel_rfl, ?_⟩)))))
        refine ⟨j + 1, by omega, by omega, ?_⟩
        rw [hs1, hs3]
        refine sub_of _ [.old 0 ⟨24, 4, D.map ob⟩, .old 1 ⟨25, 1, [il M]⟩] (by simp [go_sem]) ?_
        simp [go_sem]
    · have : j = L.length := by simp at hd; omega
      subst this
      simp only [List.take_length] at *
      generalize dstB p L L.length = D at *
      generalize L.filter p = F at *
      have hcd : F.length ≤ D.length := by omega
      have hrow : (D.map ob).take F.length = F.map ob := by rw [← List.map_take, hdt]
      have hdn : (D.map ob).drop D.length = [] := List.drop_eq_nil_of_le (by simp)
      (repeat (first | refine awp_seq ?_ | refine awp_block ?_ | ((first | refine awp_runG [0, 1, 4, 5, 6, 7, 12, 19, 29, 1000000, 1000001] hX ?_ | refine awp_drawnG [0, 1, 4, 5, 6, 7, 12, 19, 29, 1000000, 1000001] hX mixed ?_ | refine awp_skip ?_ | refine awp_exit ?_); (simp [go_sem, hcd]; try (refine ⟨by kernel_rfl, ?_⟩)))))
      (repeat refine And.intro (by first | omega | (unfold maxLen; omega) | kernel_rfl | (refine ⟨by first | omega | (unfold maxLen; omega), by first | omega | (unfold maxLen; omega)⟩) | grind) ?_)
      try (repeat (first | refine awp_seq ?_ | refine awp_block ?_ | ((first | refine awp_runG [0, 1, 4, 5, 6, 7, 12, 19, 29, 1000000, 1000001] hX ?_ | refine awp_drawnG [0, 1, 4, 5, 6, 7, 12, 19, 29, 1000000, 1000001] hX mixed ?_ | refine awp_skip ?_ | refine awp_exit ?_); (simp [go_sem, hcd]; try (refine ⟨by kernel_rfl, ?_⟩)))))
      try (repeat refine And.intro (by first | omega | (unfold maxLen; omega) | kernel_rfl | (refine ⟨by first | omega | (unfold maxLen; omega), by first | omega | (unfold maxLen; omega)⟩) | grind) ?_)
      try (repeat (first | refine awp_seq ?_ | refine awp_block ?_ | ((first | refine awp_runG [0, 1, 4, 5, 6, 7, 12, 19, 29, 1000000, 1000001] hX ?_ | refine awp_drawnG [0, 1, 4, 5, 6, 7, 12, 19, 29, 1000000, 1000001] hX mixed ?_ | refine awp_skip ?_ | refine awp_exit ?_); (simp [go_sem, hcd]; try (refine ⟨by kernel_rfl, ?_⟩)))))
      refine awp_ret ?_; (try simp only [thenQ, blkQ, loopQ]); refine retH_ret [(4, .wn 0 4 0 F.length), (1000000, .ow 0), (1000001, .ow 1)] [.old 0 ⟨24, 4, (F ++ List.replicate (L.length - F.length) nobody).map ob⟩, .old 1 ⟨25, 1, [il M]⟩] ?_
      simp [go_sem]
      refine .inl ?_
      rw [hrow, hdn, List.append_nil, hlj]

end Go.Proofs.YtjgkjenbgadacaaDoor
