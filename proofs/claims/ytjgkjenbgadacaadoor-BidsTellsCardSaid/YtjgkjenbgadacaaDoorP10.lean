/-
  Lemmas for the statement at the top.
-/
import Derived.Test.YtjgkjenbgadacaaDoorP6
import Derived.Test.YtjgkjenbgadacaaDoorP9
import Derived.Shelf.Spec.SlicesInsert
import Derived.Shelf.Spec.SlicesInsertGrow
import Derived.Test.YtjgkjenbgadacaaDoorProg
set_option linter.all false
namespace Go.Proofs.YtjgkjenbgadacaaDoor
open Go.RowKit Go.Ab
attribute [local irreducible] AWP Go.Ab.Sub Means MeansH CallK CallG CallT CallGT CallU
def atZ (M : List Int) (x : Int) : Int := if atI M x < M.length then (atI M x : Int) else -1
theorem atZ_mem (M : List Int) (x : Int) : decide (0 ≤ atZ M x) = decide (x ∈ M) := by
  unfold atZ
  by_cases h : x ∈ M
  · obtain ⟨h1, _⟩ := atI_lt h
    simp [h1, h]
  · simp [atI_ge h, h]
theorem atI_eq {M : List Int} {x : Int} {k : Nat} (hk : k < M.length) (h : M[k] = x) (hn : ∀ j (hj : j < k), M[j] ≠ x) : atI M x = k := by
  have h1 : ¬ k < atI M x := fun q => atI_not q hk h
  by_cases h2 : atI M x < k
  · obtain ⟨h3, h4⟩ := atI_lt (show x ∈ M from h ▸ List.getElem_mem hk)
    exact absurd h4 (hn _ h2)
  · omega
set_option maxHeartbeats 400000 in
theorem index_m (M : List Int) (hl : M.length ≤ 9223372036854775807) (x : Int) : Means true Tryd.prog 42 [il M, ii x] (ii (atZ M x)) := by
  refine means_fn true 19 [.tmp 4] Tryd.func42 rfl rfl rfl (by simp) (by decide) rfl fun X hX => ?_
  (repeat (first | refine awp_seq ?_ | refine awp_block ?_ | ((first | refine awp_runG [0, 1, 4, 5, 7, 8, 9, 16] hX ?_ | refine awp_drawnG [0, 1, 4, 5, 7, 8, 9, 16] hX mixed ?_ | refine awp_ret ?_ | refine awp_skip ?_ | refine awp_exit ?_); (simp [go_sem]; try (refine ⟨by kernel_rfl, ?_⟩)))))
  refine awp_loop (fun k : Nat => ⟨mkE [(0, il M), (1, ii x), (4, ii 0), (7, ii M.length), (8, ii k)], []⟩) (fun k => k ≤ M.length ∧ ∀ j (hj : j < M.length), j < k → M[j] ≠ x) (fun k => M.length - k) 0 ?_ ?_ ?_
  · refine sub_of _ [] (by simp [go_sem]) ?_
    simp [go_sem]
  · exact ⟨by omega, by omega⟩
  · rintro k ⟨hk, hn⟩
    (repeat (first | refine awp_seq ?_ | refine awp_block ?_ | ((first | refine awp_runG [0, 1, 4, 5, 7, 8, 9, 16] hX ?_ | refine awp_drawnG [0, 1, 4, 5, 7, 8, 9, 16] hX mixed ?_ | refine awp_ret ?_ | refine awp_skip ?_ | refine awp_exit ?_); (simp [go_sem]; try (refine ⟨by kernel_rfl, ?_⟩)))))
    refine awp_cond (b := decide (k < M.length)) (by simp [go_sem]) (fun hb => ?_) (fun hb => ?_)
    · simp at hb
      have hq := nth_ii hb
      (repeat (first | refine awp_seq ?_ | refine awp_block ?_ | ((first | refine awp_runG [0, 1, 4, 5, 7, 8, 9, 16] hX ?_ | refine awp_drawnG [0, 1, 4, 5, 7, 8, 9, 16] hX mixed ?_ | refine awp_ret ?_ | refine awp_skip ?_ | refine awp_exit ?_); (simp [go_sem, hb, hq]; try (refine ⟨by kernel_rfl, ?_⟩)))))
      refine awp_cond (b := decide (x = M[k])) (by simp [go_sem]) (fun hc => ?_) (fun hc => ?_)
      · simp at hc
        have e : atZ M x = k := by
          have := atI_eq (x := x) hb hc.symm (fun j hj => hn j (by omega) hj)
          unfold atZ
          rw [this, if_pos hb]
        rw [e]
        (repeat (first | refine awp_seq ?_ | refine awp_block ?_ | ((first | refine awp_runG [0, 1, 4, 5, 7, 8, 9, 16] hX ?_ | refine awp_drawnG [0, 1, 4, 5, 7, 8, 9, 16] hX mixed ?_ | refine awp_ret ?_ | refine awp_skip ?_ | refine awp_exit ?_); (simp [go_sem]; try (refine ⟨by kernel_rfl, ?_⟩)))))
      · simp at hc
        (repeat (first | refine awp_seq ?_ | refine awp_block ?_ | ((first | refine awp_runG [0, 1, 4, 5, 7, 8, 9, 16] hX ?_ | refine awp_drawnG [0, 1, 4, 5, 7, 8, 9, 16] hX mixed ?_ | refine awp_ret ?_ | refine awp_skip ?_ | refine awp_exit ?_); (simp [go_sem]; (try simp (disch := omega) only [w64, td, tm]); try (refine ⟨by kernel_rfl, ?_⟩)))))
        refine ⟨k + 1, ⟨by omega, fun j hj hjk => ?_⟩, by omega, ?_⟩
        · by_cases e : j = k
          · subst e; exact fun q => hc q.symm
          · exact hn j hj (by omega)
        · refine sub_of _ [] (by simp [go_sem]) ?_
          simp [go_sem]
    · simp at hb
      have e : atZ M x = -1 := by
        have : x ∉ M := fun h => by
          obtain ⟨h1, h2⟩ := atI_lt h
          exact hn _ h1 (by omega) h2
        unfold atZ
        rw [atI_ge this, if_neg (by omega)]
      rw [e]
      (repeat (first | refine awp_seq ?_ | refine awp_block ?_ | ((first | refine awp_runG [0, 1, 4, 5, 7, 8, 9, 16] hX ?_ | refine awp_drawnG [0, 1, 4, 5, 7, 8, 9, 16] hX mixed ?_ | refine awp_ret ?_ | refine awp_skip ?_ | refine awp_exit ?_); (simp [go_sem]; try (refine ⟨by kernel_rfl, ?_⟩)))))
theorem contains_m (M : List Int) (hl : M.length ≤ 9223372036854775807) (x : Int) : Means true Tryd.prog 41 [il M, ii x] (bb (decide (x ∈ M))) := by
  rw [← atZ_mem]
  refine means_fn true 9 [.tmp 4] Tryd.func41 rfl rfl rfl (by simp) (by decide) rfl fun X hX => ?_
  (repeat (first | refine awp_seq ?_ | refine awp_block ?_ | ((first | refine awp_runG [0, 1, 4] hX ?_ | refine awp_drawnG [0, 1, 4] hX mixed ?_ | refine awp_ret ?_ | refine awp_skip ?_ | refine awp_exit ?_); (simp [go_sem]; try (refine ⟨by kernel_rfl, ?_⟩)))))
  first | refine callK_intro (index_m M hl x) rfl (by simp [go_sem]) rfl ?_ | refine callT_intro (index_m M hl x) rfl (by simp [go_sem]) rfl ?_
  try (simp [go_sem]; try (refine ⟨by kernel_rfl, ?_⟩))
  (repeat (first | refine awp_seq ?_ | refine awp_block ?_ | ((first | refine awp_runG [0, 1, 4] hX ?_ | refine awp_drawnG [0, 1, 4] hX mixed ?_ | refine awp_ret ?_ | refine awp_skip ?_ | refine awp_exit ?_); (simp [go_sem]; try (refine ⟨by kernel_rfl, ?_⟩)))))
abbrev memH (M : List Int) : Cell := .row ⟨25, 1, [il M]⟩
theorem zone_il (M : List Int) : zoneEs (M.map ii) = true := by
  unfold zoneEs
  rw [List.all_eq_true]
  intro a ha
  obtain ⟨b, _, rfl⟩ := List.mem_map.1 ha
  rfl
theorem mem1_m (M : List Int) (hl : M.length ≤ 9223372036854775807) (x : Bd) : MeansH Tryd.prog 40 [memH M] [ob x, .el 0 1 0 0] (bb (!memB M x)) [memH M] := by
  have c1 := contains_m M hl x.w
  have e : memB M x = decide (x.w ∈ M) := rfl
  rw [e]
  refine meansH_fn 1 9 [.tmp 3] Tryd.func40 rfl rfl rfl (by simp) (by decide) rfl fun X hX => ?_
  (repeat (first | refine awp_seq ?_ | refine awp_block ?_ | ((first | refine awp_runG [0, 1, 2, 3, 1000000] hX ?_ | refine awp_drawnG [0, 1, 2, 3, 1000000] hX mixed ?_ | refine awp_skip ?_ | refine awp_exit ?_); (simp [go_sem]; try (refine ⟨by kernel_rfl, ?_⟩)))))
  first | refine callK_intro (c1) rfl (by simp [go_sem]) rfl ?_ | refine callT_intro (c1) rfl (by simp [go_sem]) rfl ?_
  try (simp [go_sem]; try (refine ⟨by kernel_rfl, ?_⟩))
  (repeat (first | refine awp_seq ?_ | refine awp_block ?_ | ((first | refine awp_runG [0, 1, 2, 3, 1000000] hX ?_ | refine awp_drawnG [0, 1, 2, 3, 1000000] hX mixed ?_ | refine awp_skip ?_ | refine awp_exit ?_); (simp [go_sem]; try (refine ⟨by kernel_rfl, ?_⟩)))))
  refine awp_ret ?_; (try simp only [thenQ, blkQ, loopQ]); refine retH_ret [(3, bb (!decide (x.w ∈ M))), (1000000, .ow 0)] [.old 0 ⟨25, 1, [il M]⟩] ?_
  simp [go_sem]
def outZ (L : List Bd) (M : List Int) : Int := if L.findIdx (fun b => !memB M b) < L.length then (L.findIdx (fun b => !memB M b) : Int) else -1
set_option maxHeartbeats 4000000 in
theorem indexO_m (L : List Bd) (M : List Int) (hl : L.length ≤ 100000) (hM : M.length ≤ 100000) : MeansH Tryd.prog 36 [rowB L, memH M] [.ow 0, .fn 40 [] [.el 1 1 0 0]] (ii (outZ L M)) [rowB L, memH M] := by
  have hz := zone_ob L
  unfold outZ
  generalize hp : (fun b => !memB M b) = p
  have hf := fun x => mem1_m M (by omega) x
  have hp2 : ∀ x, (!memB M x) = p x := fun x => by rw [← hp]
  simp only [hp2] at hf
  generalize hZ : (if L.findIdx p < L.length then (L.findIdx p : Int) else -1) = Z
  refine meansH_fn 2 19 [.tmp 4] Tryd.func36 rfl rfl rfl (by simp) (by decide) rfl fun X hX => ?_
  (repeat (first | refine awp_seq ?_ | refine awp_block ?_ | ((first | refine awp_runG [0, 1, 4, 5, 7, 8, 9, 16, 1000000, 1000001] hX ?_ | refine awp_drawnG [0, 1, 4, 5, 7, 8, 9, 16, 1000000, 1000001] hX mixed ?_ | refine awp_skip ?_ | refine awp_exit ?_); (simp [go_sem]; try (refine ⟨by kernel_rfl, ?_⟩)))))
  refine awp_loop (fun n : Nat => ⟨mkE [(0, .ow 0), (1, .fn 40 [] [.el 1 1 0 0]), (7, ii L.length), (8, ii n), (1000000, .ow 0), (1000001, .ow 1)], [rowB L, memH M]⟩) (fun n => n ≤ L.findIdx p ∧ n ≤ L.length) (fun n => L.length - n) 0 ?_ ?_ ?_
  · refine sub_of _ [.old 0 ⟨24, 4, L.map ob⟩, .old 1 ⟨25, 1, [il M]⟩] (by simp [go_sem]) ?_
    simp [go_sem]
  · omega
  · rintro n ⟨hn, hn2⟩
    (repeat (first | refine awp_seq ?_ | refine awp_block ?_ | ((first | refine awp_runG [0, 1, 4, 5, 7, 8, 9, 16, 1000000, 1000001] hX ?_ | refine awp_drawnG [0, 1, 4, 5, 7, 8, 9, 16, 1000000, 1000001] hX mixed ?_ | refine awp_skip ?_ | refine awp_exit ?_); (simp [go_sem]; try (refine ⟨by kernel_rfl, ?_⟩)))))
    refine awp_cond (b := decide (n < L.length)) (by simp [go_sem]) (fun hc => ?_) (fun hc => ?_)
    · simp at hc
      have hq := nth_ob hc
      (repeat (first | refine awp_seq ?_ | refine awp_block ?_ | ((first | refine awp_runG [0, 1, 4, 5, 7, 8, 9, 16, 1000000, 1000001] hX ?_ | refine awp_drawnG [0, 1, 4, 5, 7, 8, 9, 16, 1000000, 1000001] hX mixed ?_ | refine awp_skip ?_ | refine awp_exit ?_); (simp [go_sem, hc, hq]; try (refine ⟨by kernel_rfl, ?_⟩)))))
      first | refine callH_intro [1] (hf L[n]) (by simp [go_sem]) ?_ | refine callTQ_intro [1] (hf L[n]) (by simp [go_sem]) ?_ | refine callTE_intro [1] (hf L[n]) (by simp [go_sem]) ?_
      try (simp [go_sem]; try (refine ⟨by kernel_rfl, ?_⟩))
      refine awp_cond (b := p L[n]) (by simp [go_sem]) (fun hd => ?_) (fun hd => ?_)
      · have e : L.findIdx p = n := by
          have h1 : ¬ n < L.findIdx p := fun h => by have := List.not_of_lt_findIdx h; rw [hd] at this; simp at this
          omega
        rw [if_pos (show L.findIdx p < L.length by omega), e] at hZ
        (repeat (first | refine awp_seq ?_ | refine awp_block ?_ | ((first | refine awp_runG [0, 1, 4, 5, 7, 8, 9, 16, 1000000, 1000001] hX ?_ | refine awp_drawnG [0, 1, 4, 5, 7, 8, 9, 16, 1000000, 1000001] hX mixed ?_ | refine awp_skip ?_ | refine awp_exit ?_); (simp [go_sem]; try (refine ⟨by kernel_rfl, ?_⟩)))))
        refine awp_ret ?_; (try simp only [thenQ, blkQ, loopQ]); refine retH_ret [(4, ii n), (1000000, .ow 0), (1000001, .ow 1)] [.old 0 ⟨24, 4, L.map ob⟩, .old 1 ⟨25, 1, [il M]⟩] ?_
        simp [go_sem, ← hZ]
      · have e : n + 1 ≤ L.findIdx p := by
          by_cases h : L.findIdx p = n
          · have h2 : L.findIdx p < L.length := by omega
            have := List.findIdx_getElem (p := p) (w := h2)
            simp only [h] at this
            rw [hd] at this; cases this
          · omega
        have wk := w64 (x := (n : Int) + 1) (by omega) (by omega)
        (repeat (first | refine awp_seq ?_ | refine awp_block ?_ | ((first | refine awp_runG [0, 1, 4, 5, 7, 8, 9, 16, 1000000, 1000001] hX ?_ | refine awp_drawnG [0, 1, 4, 5, 7, 8, 9, 16, 1000000, 1000001] hX mixed ?_ | refine awp_skip ?_ | refine awp_exit ?_); (simp [go_sem, wk]; try (refine ⟨by kernel_rfl, ?_⟩)))))
        refine ⟨n + 1, ⟨e, by omega⟩, by omega, ?_⟩
        refine sub_of _ [.old 0 ⟨24, 4, L.map ob⟩, .old 1 ⟨25, 1, [il M]⟩] (by simp [go_sem]) ?_
        simp [go_sem]
    · simp at hc
      rw [if_neg (show ¬ L.findIdx p < L.length by omega)] at hZ
      (repeat (first | refine awp_seq ?_ | refine awp_block ?_ | ((first | refine awp_runG [0, 1, 4, 5, 7, 8, 9, 16, 1000000, 1000001] hX ?_ | refine awp_drawnG [0, 1, 4, 5, 7, 8, 9, 16, 1000000, 1000001] hX mixed ?_ | refine awp_skip ?_ | refine awp_exit ?_); (simp [go_sem]; try (refine ⟨by kernel_rfl, ?_⟩)))))
      refine awp_ret ?_; (try simp only [thenQ, blkQ, loopQ]); refine retH_ret [(4, ii (-1)), (1000000, .ow 0), (1000001, .ow 1)] [.old 0 ⟨24, 4, L.map ob⟩, .old 1 ⟨25, 1, [il M]⟩] ?_
      simp [go_sem, ← hZ]
def dstB (p : Bd → Bool) (L : List Bd) : Nat → List Bd
  | 0 => L
  | j + 1 => if p (L.getD j default) then (dstB p L j).set ((L.take j).filter p).length (L.getD j default) else dstB p L j
theorem gB {L : List Bd} {j : Nat} (h : j < L.length) : L.getD j default = L[j] := by rw [List.getD_eq_getElem?_getD, List.getElem?_eq_getElem h]; rfl
theorem dstB_succ (p : Bd → Bool) {L : List Bd} {j : Nat} (h : j < L.length) : dstB p L (j + 1) = if p L[j] then (dstB p L j).set ((L.take j).filter p).length L[j] else dstB p L j := by rw [← gB h]; rfl
theorem dstB_len (p : Bd → Bool) (L : List Bd) (j : Nat) : (dstB p L j).length = L.length := by
  induction j with
  | zero => rfl
  | succ j ih => unfold dstB; split <;> simp [ih]
theorem filt_le (p : Bd → Bool) (L : List Bd) (j : Nat) : ((L.take j).filter p).length ≤ j := by
  have := List.length_filter_le p (L.take j)
  rw [List.length_take] at this
  omega
theorem filt_succ (p : Bd → Bool) {L : List Bd} {j : Nat} (h : j < L.length) : (L.take (j + 1)).filter p = (L.take j).filter p ++ if p L[j] then [L[j]] else [] := by
  rw [List.take_succ_eq_append_getElem h, List.filter_append]
  congr 1
  cases hb : p L[j] <;> simp [hb]
theorem dstB_drop (p : Bd → Bool) (L : List Bd) : ∀ j, j ≤ L.length → (dstB p L j).drop j = L.drop j
  | 0, _ => rfl
  | j + 1, h => by
    have ih := dstB_drop p L j (by omega)
    have hc := filt_le p L j
    have e : (dstB p L (j + 1)).drop (j + 1) = (dstB p L j).drop (j + 1) := by
      rw [dstB_succ p (by omega)]
      split
      · rw [List.drop_set_of_lt (by omega)]
      · rfl
    rw [e, ← List.drop_drop, ih, List.drop_drop]
theorem dstB_take (p : Bd → Bool) (L : List Bd) : ∀ j, j ≤ L.length → (dstB p L j).take ((L.take j).filter p).length = (L.take j).filter p
  | 0, _ => by simp
  | j + 1, h => by
    have hj : j < L.length := by omega
    have ih := dstB_take p L j (by omega)
    have hc := filt_le p L j
    have hl := dstB_len p L j
    rw [filt_succ p hj, dstB_succ p hj]
    cases hb : p L[j] with
    | false => simpa using ih
    | true =>
      simp only [if_true, List.length_append, List.length_singleton]
      rw [List.take_succ_eq_append_getElem (by simp; omega)]
      congr 1
      · rw [List.take_set_of_le (Nat.le_refl _)]; exact ih
      · simp
theorem dstB_at (p : Bd → Bool) {L : List Bd} {j : Nat} (h : j < L.length) : (dstB p L j)[j]'(by rw [dstB_len]; exact h) = L[j] := by
  have := congrArg (fun l => l[0]?) (dstB_drop p L j (by omega))
  have hl := dstB_len p L j
  simpa [h, hl] using this
theorem dstB_same (p : Bd → Bool) (L : List Bd) : ∀ j, j ≤ L.length → (∀ x ∈ L.take j, p x = true) → dstB p L j = L
  | 0, _, _ => rfl
  | j + 1, h, hn => by
    have hj : j < L.length := by omega
    have hm : ∀ x, x ∈ L.take (j + 1) ↔ x ∈ L.take j ∨ x = L[j] := fun x => by rw [List.take_succ_eq_append_getElem hj, List.mem_append, List.mem_singleton]
    have ih := dstB_same p L j (by omega) fun x hx => hn x ((hm x).2 (.inl hx))
    have hb : p L[j] = true := hn _ ((hm _).2 (.inr rfl))
    have hcan : (L.take j).filter p = L.take j := List.filter_eq_self.2 fun x hx => hn x ((hm x).2 (.inl hx))
    rw [dstB_succ p hj, if_pos hb, ih, hcan, List.length_take, Nat.min_eq_left (by omega)]
    simp
abbrev nobody : Bd := ⟨0, 0, 0, false⟩
theorem deleteN_m (L : List Bd) (M : List Int) (hl : L.length ≤ 100000) (hM : M.length ≤ 100000) (hn : ∀ x ∈ L, memB M x = true) : MeansH Tryd.prog 39 [rowB L, memH M] [.ow 0, .fn 40 [] [.el 1 1 0 0]] (.ow 0) [rowB L, memH M] := by
  have hf := indexO_m L M hl hM
  have e : outZ L M = -1 := by
    unfold outZ
    rw [if_neg]
    rw [List.findIdx_lt_length]
    rintro ⟨x, hx, h⟩
    rw [hn x hx] at h; cases h
  rw [e] at hf
  have hz := zone_ob L
  refine meansH_fn 2 42 [.tmp 4] Tryd.func39 rfl rfl rfl (by simp) (by decide) rfl fun X hX => ?_
  (repeat (first | refine awp_seq ?_ | refine awp_block ?_ | ((first | refine awp_runG [0, 1, 4, 5, 6, 7, 12, 19, 29, 1000000, 1000001] hX ?_ | refine awp_drawnG [0, 1, 4, 5, 6, 7, 12, 19, 29, 1000000, 1000001] hX mixed ?_ | refine awp_skip ?_ | refine awp_exit ?_); (simp [go_sem]; try (refine ⟨by kernel_rfl, ?_⟩)))))
  first | refine callH_intro [0, 1] (hf) (by simp [go_sem]) ?_ | refine callTQ_intro [0, 1] (hf) (by simp [go_sem]) ?_ | refine callTE_intro [0, 1] (hf) (by simp [go_sem]) ?_
  try (simp [go_sem]; try (refine ⟨by kernel_rfl, ?_⟩))
  (repeat (first | refine awp_seq ?_ | refine awp_block ?_ | ((first | refine awp_runG [0, 1, 4, 5, 6, 7, 12, 19, 29, 1000000, 1000001] hX ?_ | refine awp_drawnG [0, 1, 4, 5, 6, 7, 12, 19, 29, 1000000, 1000001] hX mixed ?_ | refine awp_skip ?_ | refine awp_exit ?_); (simp [go_sem]; try (refine ⟨by kernel_rfl, ?_⟩)))))
  refine awp_cond (b := true) (by simp [go_sem]) (fun _ => ?_) (fun hb => by cases hb)
  (repeat (first | refine awp_seq ?_ | refine awp_block ?_ | ((first | refine awp_runG [0, 1, 4, 5, 6, 7, 12, 19, 29, 1000000, 1000001] hX ?_ | refine awp_drawnG [0, 1, 4, 5, 6, 7, 12, 19, 29, 1000000, 1000001] hX mixed ?_ | refine awp_skip ?_ | refine awp_exit ?_); (simp [go_sem]; try (refine ⟨by kernel_rfl, ?_⟩)))))
  refine awp_ret ?_; (try simp only [thenQ, blkQ, loopQ]); refine retH_ret [(4, .ow 0), (1000000, .ow 0), (1000001, .ow 1)] [.old 0 ⟨24, 4, L.map ob⟩, .old 1 ⟨25, 1, [il M]⟩] ?_
  simp [go_sem]
set_option maxHeartbeats 8000000 in
set_option maxRecDepth 20000 in
theorem deleteS_m (L : List Bd) (M : List Int) (hl : L.length ≤ 100000) (hM : M.length ≤ 100000) {f : Nat} (hf : f < L.length) (hn : ∀ x ∈ L.take f, memB M x = true) (hb : memB M L[f] = false) :
    MeansH Tryd.prog 39 [rowB L, memH M] [.ow 0, .fn 40 [] [.el 1 1 0 0]] (.wn 0 4 0 (L.filter (memB M)).length) [rowB (L.filter (memB M) ++ List.replicate (L.length - (L.filter (memB M)).length) nobody), memH M] := by
  have hix := indexO_m L M hl hM
  have hcx := fun x => mem1_m M (by omega) x
  have hlm : ∀ x ∈ L.take f, x ∈ L := fun x hx => List.mem_of_mem_take hx
  generalize hp : memB M = p at *
  have hfi : outZ L M = f := by
    have hidx : L.findIdx (fun b => !p b) = f := by
      have h1 : ¬ f < L.findIdx (fun b => !p b) := fun h => by have := List.not_of_lt_findIdx h; rw [hb] at this; simp at this
      by_cases h2 : L.findIdx (fun b => !p b) < f
      · have h3 := List.findIdx_getElem (p := fun b => !p b) (w := (show L.findIdx (fun b => !p b) < L.length by omega))
        have h4 := hn _ (List.mem_take_iff_getElem.2 ⟨L.findIdx (fun b => !p b), by omega, rfl⟩)
        rw [h4] at h3; cases h3
      · omega
    unfold outZ
    rw [hp, hidx, if_pos hf]
  rw [hfi] at hix
  have hne : ¬ ((f : Int) = -1) := by omega
  have hcl : (L.filter p).length ≤ L.length := List.length_filter_le _ _
  have hds := fun j (h : j < L.length) => dstB_succ p h
  have hfs := fun j (h : j < L.length) => filt_succ p h
  have hdl := dstB_len p L
  have hda := fun j (h : j < L.length) => dstB_at p h
  have hfl := filt_le p L
  have hdt := dstB_take p L L.length (Nat.le_refl _)
  have hd1 := dstB_same p L f (by omega) hn
  rw [List.take_length] at hdt
  have e1 : ((L.take (f + 1)).filter p).length = f := by
    rw [hfs f hf, hb]
    have : (L.take f).filter p = L.take f := List.filter_eq_self.2 hn
    simp [this]; omega
  have e2 : dstB p L (f + 1) = L := by rw [hds f hf, hb]; exact hd1
  refine meansH_fn 2 42 [.tmp 4] Tryd.func39 rfl rfl rfl (by simp) (by decide) rfl fun X hX => ?_
  (repeat (first | refine awp_seq ?_ | refine awp_block ?_ | ((first | refine awp_runG [0, 1, 4, 5, 6, 7, 12, 19, 29, 1000000, 1000001] hX ?_ | refine awp_drawnG [0, 1, 4, 5, 6, 7, 12, 19, 29, 1000000, 1000001] hX mixed ?_ | refine awp_skip ?_ | refine awp_exit ?_); (simp [go_sem]; try (refine ⟨by kernel_rfl, ?_⟩)))))
  first | refine callH_intro [0, 1] (hix) (by simp [go_sem]) ?_ | refine callTQ_intro [0, 1] (hix) (by simp [go_sem]) ?_ | refine callTE_intro [0, 1] (hix) (by simp [go_sem]) ?_
  try (simp [go_sem]; try (refine ⟨by kernel_rfl, ?_⟩))
  (repeat (first | refine awp_seq ?_ | refine awp_block ?_ | ((first | refine awp_runG [0, 1, 4, 5, 6, 7, 12, 19, 29, 1000000, 1000001] hX ?_ | refine awp_drawnG [0, 1, 4, 5, 6, 7, 12, 19, 29, 1000000, 1000001] hX mixed ?_ | refine awp_skip ?_ | refine awp_exit ?_); (simp [go_sem]; try (refine ⟨by kernel_rfl, ?_⟩)))))
  refine awp_cond (b := false) (by simp [go_sem, hne]) (fun hb => by cases hb) (fun _ => ?_)
  (repeat (first | refine awp_seq ?_ | refine awp_block ?_ | ((first | refine awp_runG [0, 1, 4, 5, 6, 7, 12, 19, 29, 1000000, 1000001] hX ?_ | refine awp_drawnG [0, 1, 4, 5, 6, 7, 12, 19, 29, 1000000, 1000001] hX mixed ?_ | refine awp_skip ?_ | refine awp_exit ?_); (simp [go_sem]; (try simp (disch := omega) only [w64, td, tm]); try (refine ⟨by kernel_rfl, ?_⟩)))))
  refine awp_loop (fun j : Nat => ⟨mkE [(0, .ow 0), (1, .fn 40 [] [.el 1 1 0 0]), (5, ii ((L.take j).filter p).length), (6, ii j), (1000000, .ow 0), (1000001, .ow 1)], [rowB (dstB p L j), memH M]⟩) (fun j => j ≤ L.length) (fun j => L.length - j) (f + 1) ?_ ?_ ?_
  · rw [e1, e2]
    refine sub_of _ [.old 0 ⟨24, 4, L.map ob⟩, .old 1 ⟨25, 1, [il M]⟩] (by simp [go_sem]) ?_
    simp [go_sem]
  · omega
  · intro j hj
    have hc := hfl j
    have hlj := hdl j
    (repeat (first | refine awp_seq ?_ | refine awp_block ?_ | ((first | refine awp_runG [0, 1, 4, 5, 6, 7, 12, 19, 29, 1000000, 1000001] hX ?_ | refine awp_drawnG [0, 1, 4, 5, 6, 7, 12, 19, 29, 1000000, 1000001] hX mixed ?_ | refine awp_skip ?_ | refine awp_exit ?_); (simp [go_sem]; try (refine ⟨by kernel_rfl, ?_⟩)))))
    refine awp_cond (b := decide (j < L.length)) (by simp [go_sem, hlj]) (fun hd => ?_) (fun hd => ?_)
    · simp at hd
      have hat := hda j hd
      have hq : nth ((dstB p L j).map ob) j = ob L[j] := by rw [nth_ob (by omega), hat]
      have hs1 := hds j hd
      have hs2 := hfs j hd
      have hcq := hcx L[j]
      have wk := w64 (x := (j : Int) + 1) (by omega) (by omega)
      obtain ⟨D, hD⟩ : ∃ D, dstB p L j = D := ⟨_, rfl⟩
      obtain ⟨F, hF⟩ : ∃ F, (L.take j).filter p = F := ⟨_, rfl⟩
      rw [hD] at hq hs1 hlj ⊢
      rw [hF] at hs1 hs2 hc ⊢
      generalize L[j] = x at *
      have hjd : j < D.length := by omega
      have hcd : F.length < D.length := by omega
      have hqF := nth_ob hcd
      have wf := w64 (x := (F.length : Int) + 1) (by omega) (by omega)
      (repeat (first | refine awp_seq ?_ | refine awp_block ?_ | ((first | refine awp_runG [0, 1, 4, 5, 6, 7, 12, 19, 29, 1000000, 1000001] hX ?_ | refine awp_drawnG [0, 1, 4, 5, 6, 7, 12, 19, 29, 1000000, 1000001] hX mixed ?_ | refine awp_skip ?_ | refine awp_exit ?_); (simp [go_sem, hjd, hq]; try (refine ⟨by kernel_rfl, ?_⟩)))))
      first | refine callH_intro [1] (hcq) (by simp [go_sem]) ?_ | refine callTQ_intro [1] (hcq) (by simp [go_sem]) ?_ | refine callTE_intro [1] (hcq) (by simp [go_sem]) ?_
      try (simp [go_sem, hjd, hq]; try (refine ⟨by kernel_rfl, ?_⟩))
      refine awp_cond (b := p x) (by simp [go_sem]) (fun he => ?_) (fun he => ?_)
      · rw [if_pos he] at hs1 hs2
        have hs3 : ((L.take (j + 1)).filter p).length = F.length + 1 := by rw [hs2]; simp
        (repeat (first | refine awp_seq ?_ | refine awp_block ?_ | ((first | refine awp_runG [0, 1, 4, 5, 6, 7, 12, 19, 29, 1000000, 1000001] hX ?_ | refine awp_drawnG [0, 1, 4, 5, 6, 7, 12, 19, 29, 1000000, 1000001] hX mixed ?_ | refine awp_skip ?_ | refine awp_exit ?_); (simp [go_sem, hcd, hq, hqF, wk, wf]; try (refine ⟨by kernel_rfl, ?_⟩)))))
        try (simp [go_sem, hcd, hq, hqF, wk, wf]; try (refine ⟨by kernel_rfl, ?_⟩))
        refine ⟨j + 1, by omega, by omega, ?_⟩
        rw [hs1, hs3]
        refine sub_of _ [.old 0 ⟨24, 4, (D.set F.length x).map ob⟩, .old 1 ⟨25, 1, [il M]⟩] (by simp [go_sem]) ?_
        simp [go_sem]
      · rw [if_neg (by rw [he]; simp)] at hs1 hs2
        have hs3 : ((L.take (j + 1)).filter p).length = F.length := by rw [hs2]; simp
        (repeat (first | refine awp_seq ?_ | refine awp_block ?_ | ((first | refine awp_runG [0, 1, 4, 5, 6, 7, 12, 19, 29, 1000000, 1000001] hX ?_ | refine awp_drawnG [0, 1, 4, 5, 6, 7, 12, 19, 29, 1000000, 1000001] hX mixed ?_ | refine awp_skip ?_ | refine awp_exit ?_); (simp [go_sem, wk]; try (refine ⟨by kernel_rfl, ?_⟩)))))
        refine ⟨j + 1, by omega, by omega, ?_⟩
        rw [hs1, hs3]
        refine sub_of _ [.old 0 ⟨24, 4, D.map ob⟩, .old 1 ⟨25, 1, [il M]⟩] (by simp [go_sem]) ?_
        simp [go_sem]
    · have : j = L.length := by simp at hd; omega
      subst this
      simp only [List.take_length] at *
      generalize dstB p L L.length = D at *
      generalize L.filter p = F at *
      have hcd : F.length ≤ D.length := by omega
      have hrow : (D.map ob).take F.length = F.map ob := by rw [← List.map_take, hdt]
      have hdn : (D.map ob).drop D.length = [] := List.drop_eq_nil_of_le (by simp)
      (repeat (first | refine awp_seq ?_ | refine awp_block ?_ | ((first | refine awp_runG [0, 1, 4, 5, 6, 7, 12, 19, 29, 1000000, 1000001] hX ?_ | refine awp_drawnG [0, 1, 4, 5, 6, 7, 12, 19, 29, 1000000, 1000001] hX mixed ?_ | refine awp_skip ?_ | refine awp_exit ?_); (simp [go_sem, hcd]; try (refine ⟨by kernel_rfl, ?_⟩)))))
      (repeat refine And.intro (by first | omega | (unfold maxLen; omega) | kernel_rfl | (refine ⟨by first | omega | (unfold maxLen; omega), by first | omega | (unfold maxLen; omega)⟩) | grind) ?_)
      try (repeat (first | refine awp_seq ?_ | refine awp_block ?_ | ((first | refine awp_runG [0, 1, 4, 5, 6, 7, 12, 19, 29, 1000000, 1000001] hX ?_ | refine awp_drawnG [0, 1, 4, 5, 6, 7, 12, 19, 29, 1000000, 1000001] hX mixed ?_ | refine awp_skip ?_ | refine awp_exit ?_); (simp [go_sem, hcd]; try (refine ⟨by kernel_rfl, ?_⟩)))))
      try (repeat refine And.intro (by first | omega | (unfold maxLen; omega) | kernel_rfl | (refine ⟨by first | omega | (unfold maxLen; omega), by first | omega | (unfold maxLen; omega)⟩) | grind) ?_)
      try (repeat (first | refine awp_seq ?_ | refine awp_block ?_ | ((first | refine awp_runG [0, 1, 4, 5, 6, 7, 12, 19, 29, 1000000, 1000001] hX ?_ | refine awp_drawnG [0, 1, 4, 5, 6, 7, 12, 19, 29, 1000000, 1000001] hX mixed ?_ | refine awp_skip ?_ | refine awp_exit ?_); (simp [go_sem, hcd]; try (refine ⟨by kernel_rfl, ?_⟩)))))
      refine awp_ret ?_; (try simp only [thenQ, blkQ, loopQ]); refine retH_ret [(4, .wn 0 4 0 F.length), (1000000, .ow 0), (1000001, .ow 1)] [.old 0 ⟨24, 4, (F ++ List.replicate (L.length - F.length) nobody).map ob⟩, .old 1 ⟨25, 1, [il M]⟩] ?_
      simp [go_sem]
      refine .inl ?_
      rw [hrow, hdn, List.append_nil, hlj]
end Go.Proofs.YtjgkjenbgadacaaDoor

namespace Go.Proofs.YtjgkjenbgadacaaDoor
open Go.RowKit Go.Ab
attribute [local irreducible] AWP Go.Ab.Sub Means MeansH CallK CallG CallT CallGT CallU
theorem ints_m (a b : List Int) (hla : a.length ≤ 9223372036854775807) (hlb : b.length ≤ 9223372036854775807) : Means true Tryd.prog 18 [il a, il b] (bb (decide (a = b))) := by
  refine means_fn true 26 [.tmp 4] Tryd.func18 rfl rfl rfl (by simp) (by decide) rfl fun X hX => ?_
  by_cases hl : a.length = b.length
  · (repeat (first | refine awp_seq ?_ | refine awp_block ?_ | ((first | refine awp_runG [0, 1, 4, 5, 10, 14, 25] hX ?_ | refine awp_drawnG [0, 1, 4, 5, 10, 14, 25] hX mixed ?_ | refine awp_ret ?_ | refine awp_skip ?_ | refine awp_exit ?_); (simp [go_sem, hl]; try (refine ⟨by kernel_rfl, ?_⟩)))))
    refine awp_cond (b := false) (by simp [go_sem, hl]) (fun hb => by cases hb) (fun _ => ?_)
    (repeat (first | refine awp_seq ?_ | refine awp_block ?_ | ((first | refine awp_runG [0, 1, 4, 5, 10, 14, 25] hX ?_ | refine awp_drawnG [0, 1, 4, 5, 10, 14, 25] hX mixed ?_ | refine awp_ret ?_ | refine awp_skip ?_ | refine awp_exit ?_); (simp [go_sem]; try (refine ⟨by kernel_rfl, ?_⟩)))))
    refine awp_loop (fun n : Nat => ⟨mkE [(0, il a), (1, il b), (5, ii n)], []⟩) (fun n => n ≤ a.length ∧ a.take n = b.take n) (fun n => a.length - n) 0 ?_ ?_ ?_
    · refine sub_of _ [] (by simp [go_sem]) ?_
      simp [go_sem]
    · exact ⟨Nat.zero_le _, by simp⟩
    · rintro n ⟨hn, he⟩
      (repeat (first | refine awp_seq ?_ | refine awp_block ?_ | ((first | refine awp_runG [0, 1, 4, 5, 10, 14, 25] hX ?_ | refine awp_drawnG [0, 1, 4, 5, 10, 14, 25] hX mixed ?_ | refine awp_ret ?_ | refine awp_skip ?_ | refine awp_exit ?_); (simp [go_sem]; try (refine ⟨by kernel_rfl, ?_⟩)))))
      refine awp_cond (b := decide (n < a.length)) (by simp [go_sem]) (fun hd2 => ?_) (fun hd2 => ?_)
      · simp at hd2
        have h2 : n < b.length := by omega
        (repeat (first | refine awp_seq ?_ | refine awp_block ?_ | ((first | refine awp_runG [0, 1, 4, 5, 10, 14, 25] hX ?_ | refine awp_drawnG [0, 1, 4, 5, 10, 14, 25] hX mixed ?_ | refine awp_ret ?_ | refine awp_skip ?_ | refine awp_exit ?_); (simp [go_sem, hd2, h2]; (try simp (disch := omega) only [w64, td, tm]); try (refine ⟨by kernel_rfl, ?_⟩)))))
        (repeat refine And.intro (by first | omega | (unfold maxLen; omega) | kernel_rfl | (refine ⟨by first | omega | (unfold maxLen; omega), by first | omega | (unfold maxLen; omega)⟩) | grind) ?_)
        try (simp [go_sem, hd2, h2]; try (refine ⟨by kernel_rfl, ?_⟩))
        refine awp_cond (b := decide (a[n] ≠ b[n])) (by simp [go_sem, hd2, h2]; try omega) (fun hc => ?_) (fun hc => ?_)
        · simp only [decide_eq_true_eq] at hc
          have hne : ¬ a = b := fun e => hc (by simp only [e])
          (repeat (first | refine awp_seq ?_ | refine awp_block ?_ | ((first | refine awp_runG [0, 1, 4, 5, 10, 14, 25] hX ?_ | refine awp_drawnG [0, 1, 4, 5, 10, 14, 25] hX mixed ?_ | refine awp_ret ?_ | refine awp_skip ?_ | refine awp_exit ?_); (simp [go_sem, hne]; try (refine ⟨by kernel_rfl, ?_⟩)))))
        · simp at hc
          (repeat (first | refine awp_seq ?_ | refine awp_block ?_ | ((first | refine awp_runG [0, 1, 4, 5, 10, 14, 25] hX ?_ | refine awp_drawnG [0, 1, 4, 5, 10, 14, 25] hX mixed ?_ | refine awp_ret ?_ | refine awp_skip ?_ | refine awp_exit ?_); (simp [go_sem]; (try simp (disch := omega) only [w64, td, tm]); try (refine ⟨by kernel_rfl, ?_⟩)))))
          refine ⟨n + 1, ⟨by omega, ?_⟩, by omega, ?_⟩
          · rw [List.take_succ_eq_append_getElem hd2, List.take_succ_eq_append_getElem h2, he, hc]
          · refine sub_of _ [] (by simp [go_sem]) ?_
            simp [go_sem]
      · have hnl : n = a.length := by simp at hd2; omega
        subst hnl
        have hab : a = b := by rwa [List.take_length, hl, List.take_length] at he
        (repeat (first | refine awp_seq ?_ | refine awp_block ?_ | ((first | refine awp_runG [0, 1, 4, 5, 10, 14, 25] hX ?_ | refine awp_drawnG [0, 1, 4, 5, 10, 14, 25] hX mixed ?_ | refine awp_ret ?_ | refine awp_skip ?_ | refine awp_exit ?_); (simp [go_sem, hab]; try (refine ⟨by kernel_rfl, ?_⟩)))))
  · have hne : ¬ a = b := fun e => hl (by rw [e])
    (repeat (first | refine awp_seq ?_ | refine awp_block ?_ | ((first | refine awp_runG [0, 1, 4, 5, 10, 14, 25] hX ?_ | refine awp_drawnG [0, 1, 4, 5, 10, 14, 25] hX mixed ?_ | refine awp_ret ?_ | refine awp_skip ?_ | refine awp_exit ?_); (simp [go_sem, hl]; try (refine ⟨by kernel_rfl, ?_⟩)))))
    refine awp_cond (b := true) (by simp [go_sem, hl]; try omega) (fun _ => ?_) (fun hb => by cases hb)
    (repeat (first | refine awp_seq ?_ | refine awp_block ?_ | ((first | refine awp_runG [0, 1, 4, 5, 10, 14, 25] hX ?_ | refine awp_drawnG [0, 1, 4, 5, 10, 14, 25] hX mixed ?_ | refine awp_ret ?_ | refine awp_skip ?_ | refine awp_exit ?_); (simp [go_sem, hne]; try (refine ⟨by kernel_rfl, ?_⟩)))))
theorem ints_t (a : List Int) (hla : a.length ≤ 9223372036854775807) : Means true Tryd.prog 18 [il a, il a] (bb true) := by
  have := ints_m a a hla hla
  rwa [decide_eq_true rfl] at this
theorem wsum_m (W : List Int) (hl : W.length ≤ 9223372036854775807) : Means true Tryd.prog 63 [il W] (ii (wsum W)) := by
  refine means_fn true 28 [.tmp 2] Tryd.func63 rfl rfl rfl (by simp) (by decide) rfl fun X hX => ?_
  (repeat (first | refine awp_seq ?_ | refine awp_block ?_ | ((first | refine awp_runG [0, 2, 3, 5, 6, 7, 8, 9, 22] hX ?_ | refine awp_drawnG [0, 2, 3, 5, 6, 7, 8, 9, 22] hX mixed ?_ | refine awp_ret ?_ | refine awp_skip ?_ | refine awp_exit ?_); (simp [go_sem]; try (refine ⟨by kernel_rfl, ?_⟩)))))
  refine awp_loop (fun n : Nat => ⟨mkE [(0, il W), (3, ii (sumL (W.take n))), (6, il W), (7, ii W.length), (8, ii n)], []⟩) (fun n => n ≤ W.length ∧ (W.take n).all inW = true ∧ (0 < n → W.length ≤ 60)) (fun n => W.length - n) 0 ?_ ?_ ?_
  · refine sub_of _ [] (by simp [go_sem]) ?_
    simp [go_sem]
  · simp
  · rintro n ⟨hn, hk, h60⟩
    have hsb := sumW_bd hk
    have htl : (W.take n).length = n := by rw [List.length_take]; omega
    rw [htl] at hsb
    (repeat (first | refine awp_seq ?_ | refine awp_block ?_ | ((first | refine awp_runG [0, 2, 3, 5, 6, 7, 8, 9, 22] hX ?_ | refine awp_drawnG [0, 2, 3, 5, 6, 7, 8, 9, 22] hX mixed ?_ | refine awp_ret ?_ | refine awp_skip ?_ | refine awp_exit ?_); (simp [go_sem]; try (refine ⟨by kernel_rfl, ?_⟩)))))
    refine awp_cond (b := decide (n < W.length)) (by simp [go_sem]) (fun hc => ?_) (fun hc => ?_)
    · simp at hc
      (repeat (first | refine awp_seq ?_ | refine awp_block ?_ | ((first | refine awp_runG [0, 2, 3, 5, 6, 7, 8, 9, 22] hX ?_ | refine awp_drawnG [0, 2, 3, 5, 6, 7, 8, 9, 22] hX mixed ?_ | refine awp_ret ?_ | refine awp_skip ?_ | refine awp_exit ?_); (simp [go_sem, hc]; try (refine ⟨by kernel_rfl, ?_⟩)))))
      refine awp_cond (b := !inW W[n] || decide (60 < W.length)) (by simp [go_sem, inW]; rw [Bool.eq_iff_iff]; simp; try omega) (fun hd => ?_) (fun hd => ?_)
      · have e : wsum W = 0 := by
          simp at hd
          rcases hd with hd | hd
          · exact okW_bad hc hd
          · unfold wsum; rw [if_neg]; intro q; have := okW_len q; omega
        rw [e]
        (repeat (first | refine awp_seq ?_ | refine awp_block ?_ | ((first | refine awp_runG [0, 2, 3, 5, 6, 7, 8, 9, 22] hX ?_ | refine awp_drawnG [0, 2, 3, 5, 6, 7, 8, 9, 22] hX mixed ?_ | refine awp_ret ?_ | refine awp_skip ?_ | refine awp_exit ?_); (simp [go_sem]; try (refine ⟨by kernel_rfl, ?_⟩)))))
      · simp at hd
        have hwb := inW_iff.1 hd.1
        have e := sumL_succ hc
        have hw := w64 (x := sumL (W.take n) + W[n]) (by omega) (by omega)
        (repeat (first | refine awp_seq ?_ | refine awp_block ?_ | ((first | refine awp_runG [0, 2, 3, 5, 6, 7, 8, 9, 22] hX ?_ | refine awp_drawnG [0, 2, 3, 5, 6, 7, 8, 9, 22] hX mixed ?_ | refine awp_ret ?_ | refine awp_skip ?_ | refine awp_exit ?_); (simp [go_sem, hw]; try (refine ⟨by kernel_rfl, ?_⟩)))))
        have hwn := w64 (x := (n : Int) + 1) (by omega) (by omega)
        try (simp [go_sem, hwn]; try (refine ⟨by kernel_rfl, ?_⟩))
        refine ⟨n + 1, ⟨by omega, List.all_eq_true.1 (all_succ hc hk hd.1), fun _ => hd.2⟩, by omega, ?_⟩
        rw [e]
        refine sub_of _ [] (by simp [go_sem]) ?_
        simp [go_sem, hwn]
    · have : n = W.length := by simp at hc; omega
      subst this
      rw [List.take_length] at hk ⊢
      have e : wsum W = sumL W := by
        unfold wsum
        by_cases hl60 : W.length ≤ 60
        · rw [if_pos]; simp [okW, hk, hl60]
        · exfalso; have := h60 (by omega); omega
      rw [e]
      (repeat (first | refine awp_seq ?_ | refine awp_block ?_ | ((first | refine awp_runG [0, 2, 3, 5, 6, 7, 8, 9, 22] hX ?_ | refine awp_drawnG [0, 2, 3, 5, 6, 7, 8, 9, 22] hX mixed ?_ | refine awp_ret ?_ | refine awp_skip ?_ | refine awp_exit ?_); (simp [go_sem]; try (refine ⟨by kernel_rfl, ?_⟩)))))
theorem rsum_m (W : List Int) (hl : W.length ≤ 9223372036854775807) : Means true Tryd.prog 70 [il W] (ii (wsum W)) := by
  refine means_fn true 34 [.tmp 2] Tryd.func70 rfl rfl rfl (by simp) (by decide) rfl fun X hX => ?_
  (repeat (first | refine awp_seq ?_ | refine awp_block ?_ | ((first | refine awp_runG [0, 2, 3, 4, 8, 26] hX ?_ | refine awp_drawnG [0, 2, 3, 4, 8, 26] hX mixed ?_ | refine awp_ret ?_ | refine awp_skip ?_ | refine awp_exit ?_); (simp [go_sem]; try (refine ⟨by kernel_rfl, ?_⟩)))))
  refine awp_loop (fun n : Nat => ⟨mkE [(0, il W), (3, ii (sumL (W.take n))), (4, ii n)], []⟩) (fun n => n ≤ W.length ∧ (W.take n).all inW = true ∧ n ≤ 60) (fun n => W.length - n) 0 ?_ ?_ ?_
  · refine sub_of _ [] (by simp [go_sem]) ?_
    simp [go_sem]
  · simp
  · rintro n ⟨hn, hk, h60⟩
    have hsb := sumW_bd hk
    have htl : (W.take n).length = n := by rw [List.length_take]; omega
    rw [htl] at hsb
    (repeat (first | refine awp_seq ?_ | refine awp_block ?_ | ((first | refine awp_runG [0, 2, 3, 4, 8, 26] hX ?_ | refine awp_drawnG [0, 2, 3, 4, 8, 26] hX mixed ?_ | refine awp_ret ?_ | refine awp_skip ?_ | refine awp_exit ?_); (simp [go_sem]; try (refine ⟨by kernel_rfl, ?_⟩)))))
    refine awp_cond (b := decide (n < W.length)) (by simp [go_sem]) (fun hc => ?_) (fun hc => ?_)
    · simp at hc
      (repeat (first | refine awp_seq ?_ | refine awp_block ?_ | ((first | refine awp_runG [0, 2, 3, 4, 8, 26] hX ?_ | refine awp_drawnG [0, 2, 3, 4, 8, 26] hX mixed ?_ | refine awp_ret ?_ | refine awp_skip ?_ | refine awp_exit ?_); (simp [go_sem, hc]; try (refine ⟨by kernel_rfl, ?_⟩)))))
      refine awp_cond (b := !inW W[n] || decide (60 ≤ n)) (by simp [go_sem, inW, hc]; rw [Bool.eq_iff_iff]; simp; try omega) (fun hd => ?_) (fun hd => ?_)
      · have e : wsum W = 0 := by
          simp at hd
          rcases hd with hd | hd
          · exact okW_bad hc hd
          · unfold wsum; rw [if_neg]; intro q; have := okW_len q; omega
        rw [e]
        (repeat (first | refine awp_seq ?_ | refine awp_block ?_ | ((first | refine awp_runG [0, 2, 3, 4, 8, 26] hX ?_ | refine awp_drawnG [0, 2, 3, 4, 8, 26] hX mixed ?_ | refine awp_ret ?_ | refine awp_skip ?_ | refine awp_exit ?_); (simp [go_sem]; try (refine ⟨by kernel_rfl, ?_⟩)))))
      · simp at hd
        have hwb := inW_iff.1 hd.1
        have e := sumL_succ hc
        have hw := w64 (x := sumL (W.take n) + W[n]) (by omega) (by omega)
        have hwn := w64 (x := (n : Int) + 1) (by omega) (by omega)
        (repeat (first | refine awp_seq ?_ | refine awp_block ?_ | ((first | refine awp_runG [0, 2, 3, 4, 8, 26] hX ?_ | refine awp_drawnG [0, 2, 3, 4, 8, 26] hX mixed ?_ | refine awp_ret ?_ | refine awp_skip ?_ | refine awp_exit ?_); (simp [go_sem, hc, hw, hwn]; try (refine ⟨by kernel_rfl, ?_⟩)))))
        refine ⟨n + 1, ⟨by omega, List.all_eq_true.1 (all_succ hc hk hd.1), by omega⟩, by omega, ?_⟩
        rw [e]
        refine sub_of _ [] (by simp [go_sem]) ?_
        simp [go_sem]
    · have : n = W.length := by simp at hc; omega
      subst this
      rw [List.take_length] at hk ⊢
      have e : wsum W = sumL W := by
        unfold wsum
        rw [if_pos]; simp [okW, hk, h60]
      rw [e]
      (repeat (first | refine awp_seq ?_ | refine awp_block ?_ | ((first | refine awp_runG [0, 2, 3, 4, 8, 26] hX ?_ | refine awp_drawnG [0, 2, 3, 4, 8, 26] hX mixed ?_ | refine awp_ret ?_ | refine awp_skip ?_ | refine awp_exit ?_); (simp [go_sem]; try (refine ⟨by kernel_rfl, ?_⟩)))))
theorem amount_m (n : Int) : Means true Tryd.prog 64 [ii n] (bb (isAm n)) := by
  refine means_fn true 9 [.tmp 2] Tryd.func64 rfl rfl rfl (by simp) (by decide) rfl fun X hX => ?_
  (repeat (first | refine awp_seq ?_ | refine awp_block ?_ | ((first | refine awp_runG [0, 2] hX ?_ | refine awp_drawnG [0, 2] hX mixed ?_ | refine awp_ret ?_ | refine awp_skip ?_ | refine awp_exit ?_); (simp [go_sem]; try (refine ⟨by kernel_rfl, ?_⟩)))))
  simp [isAm]
theorem ramount_m (n : Int) : Means true Tryd.prog 71 [ii n] (bb (isAm n)) := by
  refine means_fn true 9 [.tmp 2] Tryd.func71 rfl rfl rfl (by simp) (by decide) rfl fun X hX => ?_
  (repeat (first | refine awp_seq ?_ | refine awp_block ?_ | ((first | refine awp_runG [0, 2] hX ?_ | refine awp_drawnG [0, 2] hX mixed ?_ | refine awp_ret ?_ | refine awp_skip ?_ | refine awp_exit ?_); (simp [go_sem]; try (refine ⟨by kernel_rfl, ?_⟩)))))
  simp [isAm]
theorem quota_m (n w s : Int) (hn : 0 ≤ n ∧ n ≤ 1099511627776) (hw : 0 ≤ w ∧ w ≤ 1048576) (hs : 0 < s ∧ s ≤ 62914560) : Means true Tryd.prog 65 [ii n, ii w, ii s] (.tup [ii (n * w / s), ii (n * w % s)]) := by
  obtain ⟨a1, a2, a3, a4, a5, a6, a7, a8, a9, a10⟩ := quo_bd hn hw hs
  obtain ⟨e1, e2⟩ := quo_split (n := n) (w := w) hs.1
  have t1 : n.tdiv s = n / s := Int.tdiv_eq_ediv_of_nonneg hn.1
  have t2 : n.tmod s = n % s := Int.tmod_eq_emod_of_nonneg hn.1
  have t3 : (n % s * w).tdiv s = n % s * w / s := Int.tdiv_eq_ediv_of_nonneg a7
  have t4 : (n % s * w).tmod s = n % s * w % s := Int.tmod_eq_emod_of_nonneg a7
  have m1 := Int.emod_nonneg (n % s * w) (show s ≠ 0 by omega)
  have m2 := Int.emod_lt_of_pos (n % s * w) hs.1
  rw [← e1, ← e2]
  have hs0 : s ≠ 0 := by omega
  have w1 := w64 (x := n / s) (by omega) (by omega)
  have w2 := w64 (x := n % s) (by omega) (by omega)
  have w3 := w64 (x := n / s * w) (by omega) (by omega)
  have w4 := w64 (x := n % s * w) (by omega) (by omega)
  have w5 := w64 (x := n % s * w / s) (by omega) (by omega)
  have w6 := w64 (x := n % s * w % s) (by omega) (by omega)
  have w7 := w64 (x := n / s * w + n % s * w / s) (by omega) (by omega)
  refine means_fn true 30 [.tmp 6, .tmp 7] Tryd.func65 rfl rfl rfl (by simp) (by decide) rfl fun X hX => ?_
  (repeat (first | refine awp_seq ?_ | refine awp_block ?_ | ((first | refine awp_runG [0, 1, 2, 6, 7, 8, 9] hX ?_ | refine awp_drawnG [0, 1, 2, 6, 7, 8, 9] hX mixed ?_ | refine awp_ret ?_ | refine awp_skip ?_ | refine awp_exit ?_); (simp [go_sem, t1, t2, t3, t4, hs0, w1, w2, w3, w4, w5, w6, w7]; try (refine ⟨by kernel_rfl, ?_⟩)))))
theorem rfloor_m (n w s : Int) (hn : 0 ≤ n ∧ n ≤ 1099511627776) (hw : 0 ≤ w ∧ w ≤ 1048576) (hs : 0 < s ∧ s ≤ 62914560) : Means true Tryd.prog 72 [ii n, ii w, ii s] (ii (n * w / s)) := by
  obtain ⟨a1, a2, a3, a4, a5, a6, a7, a8, a9, a10⟩ := quo_bd hn hw hs
  obtain ⟨e1, e2⟩ := quo_split (n := n) (w := w) hs.1
  have t1 : n.tdiv s = n / s := Int.tdiv_eq_ediv_of_nonneg hn.1
  have t2 : n.tmod s = n % s := Int.tmod_eq_emod_of_nonneg hn.1
  have t3 : (n % s * w).tdiv s = n % s * w / s := Int.tdiv_eq_ediv_of_nonneg a7
  rw [← e1]
  have hs0 : s ≠ 0 := by omega
  have w1 := w64 (x := n / s) (by omega) (by omega)
  have w2 := w64 (x := n % s) (by omega) (by omega)
  have w3 := w64 (x := n / s * w) (by omega) (by omega)
  have w4 := w64 (x := n % s * w) (by omega) (by omega)
  have w5 := w64 (x := n % s * w / s) (by omega) (by omega)
  have w7 := w64 (x := n / s * w + n % s * w / s) (by omega) (by omega)
  refine means_fn true 20 [.tmp 6] Tryd.func72 rfl rfl rfl (by simp) (by decide) rfl fun X hX => ?_
  (repeat (first | refine awp_seq ?_ | refine awp_block ?_ | ((first | refine awp_runG [0, 1, 2, 6] hX ?_ | refine awp_drawnG [0, 1, 2, 6] hX mixed ?_ | refine awp_ret ?_ | refine awp_skip ?_ | refine awp_exit ?_); (simp [go_sem, t1, t2, t3, hs0, w1, w2, w3, w4, w5, w7]; try (refine ⟨by kernel_rfl, ?_⟩)))))
theorem rrest_m (n w s : Int) (hn : 0 ≤ n ∧ n ≤ 1099511627776) (hw : 0 ≤ w ∧ w ≤ 1048576) (hs : 0 < s ∧ s ≤ 62914560) : Means true Tryd.prog 73 [ii n, ii w, ii s] (ii (n * w % s)) := by
  obtain ⟨a1, a2, a3, a4, a5, a6, a7, a8, a9, a10⟩ := quo_bd hn hw hs
  obtain ⟨e1, e2⟩ := quo_split (n := n) (w := w) hs.1
  have t2 : n.tmod s = n % s := Int.tmod_eq_emod_of_nonneg hn.1
  have t4 : (n % s * w).tmod s = n % s * w % s := Int.tmod_eq_emod_of_nonneg a7
  have m1 := Int.emod_nonneg (n % s * w) (show s ≠ 0 by omega)
  have m2 := Int.emod_lt_of_pos (n % s * w) hs.1
  rw [← e2]
  have hs0 : s ≠ 0 := by omega
  have w2 := w64 (x := n % s) (by omega) (by omega)
  have w4 := w64 (x := n % s * w) (by omega) (by omega)
  have w6 := w64 (x := n % s * w % s) (by omega) (by omega)
  refine means_fn true 14 [.tmp 6] Tryd.func73 rfl rfl rfl (by simp) (by decide) rfl fun X hX => ?_
  (repeat (first | refine awp_seq ?_ | refine awp_block ?_ | ((first | refine awp_runG [0, 1, 2, 6] hX ?_ | refine awp_drawnG [0, 1, 2, 6] hX mixed ?_ | refine awp_ret ?_ | refine awp_skip ?_ | refine awp_exit ?_); (simp [go_sem, t2, t4, hs0, w2, w4, w6]; try (refine ⟨by kernel_rfl, ?_⟩)))))
end Go.Proofs.YtjgkjenbgadacaaDoor

namespace Go.Proofs.YtjgkjenbgadacaaDoor
open Go.RowKit Go.Ab
attribute [local irreducible] AWP Go.Ab.Sub Means MeansH CallK CallG CallT CallGT CallU
theorem mergeAt (R : List Int) (hR : R.length ≤ 100000) (hok : okR R) {l : List Int} (hlt : allLt l) (hr : ∀ x ∈ l, 0 ≤ x ∧ x < R.length) (hl : l.length ≤ 1000) {s a m b : Nat} (hs : 0 < s) (hm : a + s = m) (h1 : m < l.length) (hb : b = min (m + s) l.length) :
    MeansH Tryd.prog 75 (sH (half (kf R) s l a) R) [.ow 0, ii a, ii m, ii b, clo] (.tup [])
      (sH (r3 (bsort (kf R) (2 * s) (l.take a)) (srt (kf R) (srt (kf R) ((l.drop a).take s) ++ srt (kf R) ((l.drop (a + s)).take s))) (bsort (kf R) s (l.drop (a + s + s)))) R) := by
  have lA : ((l.drop a).take s).length = s := by simp; omega
  have lB : ((l.drop (a + s)).take s).length = b - m := by simp; omega
  have lQ : (bsort (kf R) (2 * s) (l.take a)).length = a := by rw [bsort_len _ (by omega) _ _ (Nat.le_refl _)]; simp; omega
  have lT : (bsort (kf R) s (l.drop (a + s + s))).length = l.length - (a + s + s) := by rw [bsort_len _ (by omega) _ _ (Nat.le_refl _)]; simp
  have mA : ∀ x, x ∈ srt (kf R) ((l.drop a).take s) → x ∈ (l.drop a).take s := fun x hx => (srt_perm _ _).mem_iff.1 hx
  have mB : ∀ x, x ∈ srt (kf R) ((l.drop (a + s)).take s) → x ∈ (l.drop (a + s)).take s := fun x hx => (srt_perm _ _).mem_iff.1 hx
  have h := sym_m R hR hok (s + s) (bsort (kf R) (2 * s) (l.take a)) (srt (kf R) ((l.drop a).take s)) (srt (kf R) ((l.drop (a + s)).take s)) (bsort (kf R) s (l.drop (a + s + s)))
    (by rw [srt_len, srt_len, lA, lB]; omega) (by rw [srt_len, lA]; omega) (by rw [srt_len, lB]; omega) (srt_sorted (lt_nodup (lt_take (lt_drop hlt a) s))) (srt_sorted (lt_nodup (lt_take (lt_drop hlt (a + s)) s)))
    (fun x hx y hy => lt_split (lt_drop hlt a) s x (mA x hx) y (by rw [List.drop_drop]; exact List.mem_of_mem_take (mB y hy)))
    (fun x hx => hr x (List.mem_of_mem_drop (List.mem_of_mem_take (mA x hx)))) (fun x hx => hr x (List.mem_of_mem_drop (List.mem_of_mem_take (mB x hx))))
    (by rw [lQ, lT, srt_len, srt_len, lA, lB]; omega)
  rw [lQ, srt_len, srt_len, lA, lB, ← half_cut hs, hm, show m + (b - m) = b by omega] at h
  rw [hm]
  exact h
theorem insAt (R : List Int) (hR : R.length ≤ 100000) (hok : okR R) {l : List Int} (hlt : allLt l) (hr : ∀ x ∈ l, 0 ≤ x ∧ x < R.length) (hl : l.length ≤ 1000) (t : Nat) {c b : Nat} (hc : c ≤ 20) (h : t * 20 + c = b) (hb : b ≤ l.length) :
    MeansH Tryd.prog 74 (sH (twen (kf R) l (t * 20)) R) [.ow 0, ii (t * 20 : Nat), ii b, clo] (.tup []) (sH (twen (kf R) l b) R) := by
  have lM : ((l.drop (t * 20)).take c).length = c := by simp; omega
  have lQ : (bsort (kf R) 20 (l.take (t * 20))).length = t * 20 := by rw [bsort_len _ (by omega) _ _ (Nat.le_refl _)]; simp; omega
  have hM := lt_take (lt_drop hlt (t * 20)) c
  have h1 := insSort_m (bsort (kf R) 20 (l.take (t * 20))) ((l.drop (t * 20)).take c) (l.drop (t * 20 + c)) R (lt_nodup hM) (fun i j hi hj hij => List.pairwise_iff_getElem.1 hM i j hi hj hij)
    (fun x hx => hr x (List.mem_of_mem_drop (List.mem_of_mem_take hx))) (by rw [lQ, lM, List.length_drop]; omega) hR hok
  rw [← twen_cut, twen_step _ t c hc (by omega), lQ, lM, h] at h1
  exact h1
set_option maxHeartbeats 8000000 in
set_option maxRecDepth 20000 in
theorem stableG_m (l R : List Int) (hlt : allLt l) (hr : ∀ x ∈ l, 0 ≤ x ∧ x < R.length) (hl : l.length ≤ 1000) (hR : R.length ≤ 100000) (hok : okR R) :
    MeansH Tryd.prog 60 (sH l R) [.ow 0, ii l.length, clo] (.tup []) (sH (srt (kf R) l) R) := by
  have hnd := lt_nodup hlt
  obtain ⟨n, hn⟩ : ∃ n, l.length = n := ⟨_, rfl⟩
  rw [hn]
  refine meansH_fn 3 63 [] Tryd.func60 rfl rfl rfl (by simp) (by decide) rfl fun X hX => ?_
  (repeat (first | refine awp_seq ?_ | refine awp_block ?_ | ((first | refine awp_runG [0, 1, 2, 6, 7, 8, 9, 13, 30, 35, 54, 1000000, 1000001, 1000002] hX ?_ | refine awp_drawnG [0, 1, 2, 6, 7, 8, 9, 13, 30, 35, 54, 1000000, 1000001, 1000002] hX mixed ?_ | refine awp_skip ?_ | refine awp_exit ?_); (simp [go_sem]; (try simp (disch := omega) only [w64, td, tm]); try (refine ⟨by kernel_rfl, ?_⟩)))))
  refine awp_loop (fun t : Nat => ⟨mkE [(0, .ow 0), (1, ii n), (2, clo), (6, ii 20), (7, ii (t * 20 : Nat)), (8, ii (t * 20 + 20 : Nat)), (1000000, .ow 0), (1000001, .ow 1), (1000002, .ow 2)], sH (twen (kf R) l (t * 20)) R⟩) (fun t => t * 20 ≤ n) (fun t => n - t * 20) 0 ?_ ?_ ?_
  · rw [Nat.zero_mul, twen_zero]
    refine sub_of _ [.old 0 ⟨3, 1, l.map ii⟩, .old 1 ⟨25, 1, [.ow 2]⟩, .old 2 ⟨3, 1, R.map ii⟩] (by simp [go_sem]) ?_
    simp [go_sem]
  · omega
  · intro t ht
    obtain ⟨a, ha⟩ : ∃ a, t * 20 = a := ⟨_, rfl⟩
    obtain ⟨b, hb⟩ : ∃ b, a + 20 = b := ⟨_, rfl⟩
    have ht1 : (t + 1) * 20 = b := by omega
    rw [ha] at ht
    rw [ha, hb]
    (repeat (first | refine awp_seq ?_ | refine awp_block ?_ | ((first | refine awp_runG [0, 1, 2, 6, 7, 8, 9, 13, 30, 35, 54, 1000000, 1000001, 1000002] hX ?_ | refine awp_drawnG [0, 1, 2, 6, 7, 8, 9, 13, 30, 35, 54, 1000000, 1000001, 1000002] hX mixed ?_ | refine awp_skip ?_ | refine awp_exit ?_); (simp [go_sem]; try (refine ⟨by kernel_rfl, ?_⟩)))))
    refine awp_cond (b := decide (b ≤ n)) (by simp [go_sem]; try omega) (fun hc => ?_) (fun hc => ?_)
    · simp at hc
      have hi := insAt R hR hok hlt hr hl t (c := 20) (b := b) (by omega) (by omega) (by omega)
      rw [ha] at hi
      (repeat (first | refine awp_seq ?_ | refine awp_block ?_ | ((first | refine awp_runG [0, 1, 2, 6, 7, 8, 9, 13, 30, 35, 54, 1000000, 1000001, 1000002] hX ?_ | refine awp_drawnG [0, 1, 2, 6, 7, 8, 9, 13, 30, 35, 54, 1000000, 1000001, 1000002] hX mixed ?_ | refine awp_skip ?_ | refine awp_exit ?_); (simp [go_sem]; try (refine ⟨by kernel_rfl, ?_⟩)))))
      first | refine callH_intro [0, 1, 2] (hi) (by simp [go_sem]) ?_ | refine callTQ_intro [0, 1, 2] (hi) (by simp [go_sem]) ?_ | refine callTE_intro [0, 1, 2] (hi) (by simp [go_sem]) ?_
      try (simp [go_sem]; try (refine ⟨by kernel_rfl, ?_⟩))
      (repeat (first | refine awp_seq ?_ | refine awp_block ?_ | ((first | refine awp_runG [0, 1, 2, 6, 7, 8, 9, 13, 30, 35, 54, 1000000, 1000001, 1000002] hX ?_ | refine awp_drawnG [0, 1, 2, 6, 7, 8, 9, 13, 30, 35, 54, 1000000, 1000001, 1000002] hX mixed ?_ | refine awp_skip ?_ | refine awp_exit ?_); (simp [go_sem]; (try simp (disch := omega) only [w64, td, tm]); try (refine ⟨by kernel_rfl, ?_⟩)))))
      refine ⟨t + 1, by omega, by omega, ?_⟩
      rw [ht1]
      refine sub_of _ [.old 0 ⟨3, 1, (twen (kf R) l b).map ii⟩, .old 1 ⟨25, 1, [.ow 2]⟩, .old 2 ⟨3, 1, R.map ii⟩] (by simp [go_sem]) ?_
      simp [go_sem]
      try omega
    · simp at hc
      have hi := insAt R hR hok hlt hr hl t (c := n - a) (b := n) (by omega) (by omega) (by omega)
      have hfu := twen_full (kf R) l (a := n) (by omega)
      rw [ha, hfu] at hi
      (repeat (first | refine awp_seq ?_ | refine awp_block ?_ | ((first | refine awp_runG [0, 1, 2, 6, 7, 8, 9, 13, 30, 35, 54, 1000000, 1000001, 1000002] hX ?_ | refine awp_drawnG [0, 1, 2, 6, 7, 8, 9, 13, 30, 35, 54, 1000000, 1000001, 1000002] hX mixed ?_ | refine awp_skip ?_ | refine awp_exit ?_); (simp [go_sem]; try (refine ⟨by kernel_rfl, ?_⟩)))))
      first | refine callH_intro [0, 1, 2] (hi) (by simp [go_sem]) ?_ | refine callTQ_intro [0, 1, 2] (hi) (by simp [go_sem]) ?_ | refine callTE_intro [0, 1, 2] (hi) (by simp [go_sem]) ?_
      try (simp [go_sem]; try (refine ⟨by kernel_rfl, ?_⟩))
      (repeat (first | refine awp_seq ?_ | refine awp_block ?_ | ((first | refine awp_runG [0, 1, 2, 6, 7, 8, 9, 13, 30, 35, 54, 1000000, 1000001, 1000002] hX ?_ | refine awp_drawnG [0, 1, 2, 6, 7, 8, 9, 13, 30, 35, 54, 1000000, 1000001, 1000002] hX mixed ?_ | refine awp_skip ?_ | refine awp_exit ?_); (simp [go_sem]; try (refine ⟨by kernel_rfl, ?_⟩)))))
      refine awp_loop (fun s : Nat => ⟨mkE [(0, .ow 0), (1, ii n), (2, clo), (6, ii s), (1000000, .ow 0), (1000001, .ow 1), (1000002, .ow 2)], sH (bsort (kf R) s l) R⟩) (fun s => 0 < s ∧ s ≤ 2 * n + 20) (fun s => n - s) 20 ?_ ?_ ?_
      · refine sub_of _ [.old 0 ⟨3, 1, (bsort (kf R) 20 l).map ii⟩, .old 1 ⟨25, 1, [.ow 2]⟩, .old 2 ⟨3, 1, R.map ii⟩] (by simp [go_sem]) ?_
        simp [go_sem]
      · omega
      · rintro s ⟨hs0, hs1⟩
        (repeat (first | refine awp_seq ?_ | refine awp_block ?_ | ((first | refine awp_runG [0, 1, 2, 6, 7, 8, 9, 13, 30, 35, 54, 1000000, 1000001, 1000002] hX ?_ | refine awp_drawnG [0, 1, 2, 6, 7, 8, 9, 13, 30, 35, 54, 1000000, 1000001, 1000002] hX mixed ?_ | refine awp_skip ?_ | refine awp_exit ?_); (simp [go_sem]; try (refine ⟨by kernel_rfl, ?_⟩)))))
        refine awp_cond (b := decide (s < n)) (by simp [go_sem]; try omega) (fun hd => ?_) (fun hd => ?_)
        · simp at hd
          have hw2 := w64 (x := 2 * (s : Int)) (by omega) (by omega)
          have hw3 := w64 (x := (s : Int) * 2) (by omega) (by omega)
          (repeat (first | refine awp_seq ?_ | refine awp_block ?_ | ((first | refine awp_runG [0, 1, 2, 6, 7, 8, 9, 13, 30, 35, 54, 1000000, 1000001, 1000002] hX ?_ | refine awp_drawnG [0, 1, 2, 6, 7, 8, 9, 13, 30, 35, 54, 1000000, 1000001, 1000002] hX mixed ?_ | refine awp_skip ?_ | refine awp_exit ?_); (simp [go_sem, hw2]; try (refine ⟨by kernel_rfl, ?_⟩)))))
          refine awp_loop (fun z : Nat × Nat => ⟨mkE [(0, .ow 0), (1, ii n), (2, clo), (6, ii s), (7, ii z.2), (8, ii (z.2 + 2 * s : Nat)), (1000000, .ow 0), (1000001, .ow 1), (1000002, .ow 2)], sH (half (kf R) s l z.2) R⟩) (fun z => z.2 = z.1 * (2 * s) ∧ z.2 ≤ n) (fun z => n - z.2) (0, 0) ?_ ?_ ?_
          · simp only [half_zero]
            refine sub_of _ [.old 0 ⟨3, 1, (bsort (kf R) s l).map ii⟩, .old 1 ⟨25, 1, [.ow 2]⟩, .old 2 ⟨3, 1, R.map ii⟩] (by simp [go_sem]) ?_
            simp [go_sem]
          · simp
          · rintro ⟨t, a⟩ ⟨hta, han⟩
            simp only [] at hta han
            obtain ⟨b, hb⟩ : ∃ b, a + 2 * s = b := ⟨_, rfl⟩
            obtain ⟨m, hm⟩ : ∃ m, a + s = m := ⟨_, rfl⟩
            have hma : (a : Int) + s = m := by omega
            have hwm := w64 (x := (m : Int)) (by omega) (by omega)
            have ht1 : (t + 1) * (2 * s) = b := by rw [Nat.add_mul, Nat.one_mul, ← hta]; exact hb
            simp only [hb]
            (repeat (first | refine awp_seq ?_ | refine awp_block ?_ | ((first | refine awp_runG [0, 1, 2, 6, 7, 8, 9, 13, 30, 35, 54, 1000000, 1000001, 1000002] hX ?_ | refine awp_drawnG [0, 1, 2, 6, 7, 8, 9, 13, 30, 35, 54, 1000000, 1000001, 1000002] hX mixed ?_ | refine awp_skip ?_ | refine awp_exit ?_); (simp [go_sem]; try (refine ⟨by kernel_rfl, ?_⟩)))))
            refine awp_cond (b := decide (b ≤ n)) (by simp [go_sem]; try omega) (fun he => ?_) (fun he => ?_)
            · simp at he
              have hme := mergeAt R hR hok hlt hr hl (s := s) (a := a) (m := m) (b := b) hs0 hm (by omega) (by omega)
              have hst := half_step (K := kf R) hs0 hnd t (by rw [← hta]; omega)
              rw [← hta] at hst
              rw [hst, hb] at hme
              have hwb := w64 (x := (b : Int) + 2 * s) (by omega) (by omega)
              (repeat (first | refine awp_seq ?_ | refine awp_block ?_ | ((first | refine awp_runG [0, 1, 2, 6, 7, 8, 9, 13, 30, 35, 54, 1000000, 1000001, 1000002] hX ?_ | refine awp_drawnG [0, 1, 2, 6, 7, 8, 9, 13, 30, 35, 54, 1000000, 1000001, 1000002] hX mixed ?_ | refine awp_skip ?_ | refine awp_exit ?_); (simp [go_sem, hma, hwm]; try (refine ⟨by kernel_rfl, ?_⟩)))))
              first | refine callH_intro [0, 1, 2] (hme) (by simp [go_sem]) ?_ | refine callTQ_intro [0, 1, 2] (hme) (by simp [go_sem]) ?_ | refine callTE_intro [0, 1, 2] (hme) (by simp [go_sem]) ?_
              try (simp [go_sem, hw2, hwb]; try (refine ⟨by kernel_rfl, ?_⟩))
              (repeat (first | refine awp_seq ?_ | refine awp_block ?_ | ((first | refine awp_runG [0, 1, 2, 6, 7, 8, 9, 13, 30, 35, 54, 1000000, 1000001, 1000002] hX ?_ | refine awp_drawnG [0, 1, 2, 6, 7, 8, 9, 13, 30, 35, 54, 1000000, 1000001, 1000002] hX mixed ?_ | refine awp_skip ?_ | refine awp_exit ?_); (simp [go_sem, hw2, hwb]; try (refine ⟨by kernel_rfl, ?_⟩)))))
              refine ⟨t + 1, b, ⟨ht1.symm, he⟩, by omega, ?_⟩
              refine sub_of _ [.old 0 ⟨3, 1, (half (kf R) s l b).map ii⟩, .old 1 ⟨25, 1, [.ow 2]⟩, .old 2 ⟨3, 1, R.map ii⟩] (by simp [go_sem]) ?_
              simp [go_sem]
            · simp at he
              (repeat (first | refine awp_seq ?_ | refine awp_block ?_ | ((first | refine awp_runG [0, 1, 2, 6, 7, 8, 9, 13, 30, 35, 54, 1000000, 1000001, 1000002] hX ?_ | refine awp_drawnG [0, 1, 2, 6, 7, 8, 9, 13, 30, 35, 54, 1000000, 1000001, 1000002] hX mixed ?_ | refine awp_skip ?_ | refine awp_exit ?_); (simp [go_sem, hma, hwm]; try (refine ⟨by kernel_rfl, ?_⟩)))))
              refine awp_cut ⟨mkE [(0, .ow 0), (1, ii n), (2, clo), (6, ii s), (1000000, .ow 0), (1000001, .ow 1), (1000002, .ow 2)], sH (bsort (kf R) (2 * s) l) R⟩ ?_ ?_
              · refine awp_cond (b := decide (m < n)) (by simp [go_sem]; try omega) (fun hf => ?_) (fun hf => ?_)
                · simp at hf
                  have hme := mergeAt R hR hok hlt hr hl (s := s) (a := a) (m := m) (b := n) hs0 hm (by omega) (by omega)
                  have hst := half_last (K := kf R) hs0 hnd t (by rw [← hta]; omega) (by rw [← hta]; omega)
                  rw [← hta] at hst
                  rw [hst] at hme
                  (repeat (first | refine awp_seq ?_ | refine awp_block ?_ | ((first | refine awp_runG [0, 1, 2, 6, 7, 8, 9, 13, 30, 35, 54, 1000000, 1000001, 1000002] hX ?_ | refine awp_drawnG [0, 1, 2, 6, 7, 8, 9, 13, 30, 35, 54, 1000000, 1000001, 1000002] hX mixed ?_ | refine awp_skip ?_ | refine awp_exit ?_); (simp [go_sem]; try (refine ⟨by kernel_rfl, ?_⟩)))))
                  first | refine callH_intro [0, 1, 2] (hme) (by simp [go_sem]) ?_ | refine callTQ_intro [0, 1, 2] (hme) (by simp [go_sem]) ?_ | refine callTE_intro [0, 1, 2] (hme) (by simp [go_sem]) ?_
                  try (simp [go_sem]; try (refine ⟨by kernel_rfl, ?_⟩))
                  refine sub_of _ [.old 0 ⟨3, 1, (bsort (kf R) (2 * s) l).map ii⟩, .old 1 ⟨25, 1, [.ow 2]⟩, .old 2 ⟨3, 1, R.map ii⟩] (by simp [go_sem]) ?_
                  simp [go_sem]
                · simp at hf
                  have hst := half_done (K := kf R) hs0 (l := l) t (by rw [← hta]; omega) (by rw [← hta]; omega)
                  rw [← hta] at hst
                  rw [hst]
                  (repeat (first | refine awp_seq ?_ | refine awp_block ?_ | ((first | refine awp_runG [0, 1, 2, 6, 7, 8, 9, 13, 30, 35, 54, 1000000, 1000001, 1000002] hX ?_ | refine awp_drawnG [0, 1, 2, 6, 7, 8, 9, 13, 30, 35, 54, 1000000, 1000001, 1000002] hX mixed ?_ | refine awp_skip ?_ | refine awp_exit ?_); (simp [go_sem]; try (refine ⟨by kernel_rfl, ?_⟩)))))
                  refine sub_of _ [.old 0 ⟨3, 1, (bsort (kf R) (2 * s) l).map ii⟩, .old 1 ⟨25, 1, [.ow 2]⟩, .old 2 ⟨3, 1, R.map ii⟩] (by simp [go_sem]) ?_
                  simp [go_sem]
              · (repeat (first | refine awp_seq ?_ | refine awp_block ?_ | ((first | refine awp_runG [0, 1, 2, 6, 7, 8, 9, 13, 30, 35, 54, 1000000, 1000001, 1000002] hX ?_ | refine awp_drawnG [0, 1, 2, 6, 7, 8, 9, 13, 30, 35, 54, 1000000, 1000001, 1000002] hX mixed ?_ | refine awp_skip ?_ | refine awp_exit ?_); (simp [go_sem, hw3]; try (refine ⟨by kernel_rfl, ?_⟩)))))
                refine ⟨2 * s, by omega, by omega, ?_⟩
                refine sub_of _ [.old 0 ⟨3, 1, (bsort (kf R) (2 * s) l).map ii⟩, .old 1 ⟨25, 1, [.ow 2]⟩, .old 2 ⟨3, 1, R.map ii⟩] (by simp [go_sem]) ?_
                simp [go_sem]
                try omega
        · simp at hd
          rw [bsort_few (by omega)]
          (repeat (first | refine awp_seq ?_ | refine awp_block ?_ | ((first | refine awp_runG [0, 1, 2, 6, 7, 8, 9, 13, 30, 35, 54, 1000000, 1000001, 1000002] hX ?_ | refine awp_drawnG [0, 1, 2, 6, 7, 8, 9, 13, 30, 35, 54, 1000000, 1000001, 1000002] hX mixed ?_ | refine awp_skip ?_ | refine awp_exit ?_); (simp [go_sem]; try (refine ⟨by kernel_rfl, ?_⟩)))))
          (try refine awp_ret ?_); (try simp only [thenQ, blkQ, loopQ]); refine retH_normal [(1000000, .ow 0), (1000001, .ow 1), (1000002, .ow 2)] [.old 0 ⟨3, 1, (srt (kf R) l).map ii⟩, .old 1 ⟨25, 1, [.ow 2]⟩, .old 2 ⟨3, 1, R.map ii⟩] ?_
          simp [go_sem]
set_option maxHeartbeats 4000000 in
set_option maxRecDepth 20000 in
theorem sortG_m (l R : List Int) (hlt : allLt l) (hr : ∀ x ∈ l, 0 ≤ x ∧ x < R.length) (hl : l.length ≤ 1000) (hR : R.length ≤ 100000) (hok : okR R) :
    MeansH Tryd.prog 46 (sH l R) [.ow 0, clo] (.tup []) (sH (srt (kf R) l) R) := by
  refine meansH_fn 3 9 [] Tryd.func46 rfl rfl rfl (by simp) (by decide) rfl fun X hX => ?_
  (repeat (first | refine awp_seq ?_ | refine awp_block ?_ | ((first | refine awp_runG [0, 1, 1000000, 1000001, 1000002] hX ?_ | refine awp_drawnG [0, 1, 1000000, 1000001, 1000002] hX mixed ?_ | refine awp_skip ?_ | refine awp_exit ?_); (simp [go_sem]; try (refine ⟨by kernel_rfl, ?_⟩)))))
  first | refine callH_intro [0, 1, 2] (stableG_m l R hlt hr hl hR hok) (by simp [go_sem]) ?_ | refine callTQ_intro [0, 1, 2] (stableG_m l R hlt hr hl hR hok) (by simp [go_sem]) ?_ | refine callTE_intro [0, 1, 2] (stableG_m l R hlt hr hl hR hok) (by simp [go_sem]) ?_
  try (simp [go_sem]; try (refine ⟨by kernel_rfl, ?_⟩))
  (repeat (first | refine awp_seq ?_ | refine awp_block ?_ | ((first | refine awp_runG [0, 1, 1000000, 1000001, 1000002] hX ?_ | refine awp_drawnG [0, 1, 1000000, 1000001, 1000002] hX mixed ?_ | refine awp_skip ?_ | refine awp_exit ?_); (simp [go_sem]; try (refine ⟨by kernel_rfl, ?_⟩)))))
  (try refine awp_ret ?_); (try simp only [thenQ, blkQ, loopQ]); refine retH_normal [(1000000, .ow 0), (1000001, .ow 1), (1000002, .ow 2)] [.old 0 ⟨3, 1, (srt (kf R) l).map ii⟩, .old 1 ⟨25, 1, [.ow 2]⟩, .old 2 ⟨3, 1, R.map ii⟩] ?_
  simp [go_sem]
end Go.Proofs.YtjgkjenbgadacaaDoor

namespace Go.Proofs.YtjgkjenbgadacaaDoor
open Go.RowKit Go.Ab
attribute [local irreducible] AWP Go.Ab.Sub Means MeansH CallK CallG CallT CallGT CallU
def part (L : List Int) (k : Nat) : List Int := L.take k ++ List.replicate (L.length - k) 0
theorem part_len {L : List Int} {k : Nat} (h : k ≤ L.length) : (part L k).length = L.length := by simp [part]; omega
theorem part_zero (L : List Int) : part L 0 = List.replicate L.length 0 := by simp [part]
theorem part_full (L : List Int) : part L L.length = L := by simp [part]
theorem part_set {L : List Int} {k : Nat} (h : k < L.length) : (part L k).set k L[k] = part L (k + 1) := by
  unfold part
  rw [List.set_append_right _ _ (by rw [List.length_take]; omega), List.length_take, Nat.min_eq_left (by omega), Nat.sub_self]
  rw [show L.length - k = (L.length - (k + 1)) + 1 by omega, List.replicate_succ, List.set_cons_zero, List.take_succ_eq_append_getElem h, List.append_assoc]
  rfl
theorem nth_set_ii {L : List Int} {k : Nat} {v : Int} (h : k < L.length) : nth ((L.map ii).set k (ii v)) k = ii v := by
  have e : (L.map ii).set k (ii v) = (L.set k v).map ii := by rw [List.map_set]
  rw [e, nth_ii (by simpa using h)]
  simp
theorem rF_okR {h s : Int} (hs : 0 < s ∧ s ≤ 4611686018427387904) (C : List Int) : okR (rF h s C) := by
  intro r hr
  simp only [rF, List.mem_map] at hr
  obtain ⟨c, _, rfl⟩ := hr
  have h1 := Int.emod_nonneg (h * c) (show s ≠ 0 by omega)
  have h2 := Int.emod_lt_of_pos (h * c) hs.1
  omega
theorem left_m {q : List Int} {B : Int} (h : ∀ x ∈ q, 0 ≤ x ∧ x ≤ B) (hB : 0 ≤ B) (k : Nat) (hk : k ≤ 60) : 0 ≤ sumL (q.take k) ∧ sumL (q.take k) ≤ 60 * B := by
  have : ∀ l : List Int, (∀ x ∈ l, 0 ≤ x ∧ x ≤ B) → 0 ≤ sumL l ∧ sumL l ≤ l.length * B := by
    intro l
    induction l with
    | nil => intro _; simp
    | cons a l ih =>
      intro h
      have h1 := h a (by simp)
      have h2 := ih fun x hx => h x (List.mem_cons_of_mem _ hx)
      simp only [sumL_cons, List.length_cons]; push_cast; rw [Int.add_mul]; omega
  have h1 := this (q.take k) fun x hx => h x (List.mem_of_mem_take hx)
  have h2 : ((q.take k).length : Int) * B ≤ 60 * B := Int.mul_le_mul_of_nonneg_right (by rw [List.length_take]; omega) hB
  omega
end Go.Proofs.YtjgkjenbgadacaaDoor

namespace Go.Proofs.YtjgkjenbgadacaaDoor
open Go.RowKit Go.Ab
attribute [local irreducible] AWP Go.Ab.Sub Means MeansH CallK CallG CallT CallGT CallU
theorem wu {x : Int} (h1 : 0 ≤ x) (h2 : x < 18446744073709551616) : IntKind.u64.wrap x = x := by
  unfold IntKind.wrap
  simp [IntKind.bits, IntKind.signed]
  omega
theorem and32 {x : Int} (h1 : 0 ≤ x) (h2 : x < 4294967296) : andI .u64 x 4294967295 = x := by
  have hm : ∀ n : Nat, n &&& 4294967295 = n % 4294967296 := fun n => Nat.and_two_pow_sub_one_eq_mod n 32
  unfold andI
  rw [BitVec.toNat_and, BitVec.toNat_ofInt, BitVec.toNat_ofInt]
  show IntKind.u64.wrap (((x % (2 ^ 64 : Nat)).toNat &&& ((4294967295 : Int) % (2 ^ 64 : Nat)).toNat : Nat) : Int) = _
  rw [show ((4294967295 : Int) % (2 ^ 64 : Nat)).toNat = 4294967295 by decide, hm, wu (by omega) (by omega)]
  omega
theorem mul64_m (k : Int) (h : 0 ≤ k ∧ k ≤ 60) : Means true Tryd.prog 80 [uu 1, uu k] (.tup [uu 0, uu k]) := by
  have a0 := and32 (x := 0) (by omega) (by omega)
  have a1 := and32 (x := 1) (by omega) (by omega)
  have a2 := and32 (x := k) (by omega) (by omega)
  have w0 := wu (x := 0) (by omega) (by omega)
  have w1 := wu (x := 1) (by omega) (by omega)
  have w2 := wu (x := k) (by omega) (by omega)
  have d : k.fdiv 4294967296 = 0 := by rw [Int.fdiv_eq_ediv_of_nonneg _ (by omega)]; omega
  refine means_fn true 51 [.tmp 4, .tmp 5] Tryd.func80 rfl rfl rfl (by simp) (by decide) rfl fun X hX => ?_
  (repeat (first | refine awp_seq ?_ | refine awp_block ?_ | ((first | refine awp_runG [0, 1, 4, 5, 6, 7, 8, 9, 10, 11, 12, 13] hX ?_ | refine awp_drawnG [0, 1, 4, 5, 6, 7, 8, 9, 10, 11, 12, 13] hX mixed ?_ | refine awp_ret ?_ | refine awp_skip ?_ | refine awp_exit ?_); (simp [go_sem, a0, a1, a2, w0, w1, w2, d]; try (refine ⟨by kernel_rfl, ?_⟩)))))
theorem mul_m (k : Int) (h : 0 ≤ k ∧ k ≤ 60) : Means true Tryd.prog 68 [uu 1, uu k] (.tup [uu 0, uu k]) := by
  refine means_fn true 30 [.tmp 4, .tmp 5] Tryd.func68 rfl rfl rfl (by simp) (by decide) rfl fun X hX => ?_
  (repeat (first | refine awp_seq ?_ | refine awp_block ?_ | ((first | refine awp_runG [0, 1, 4, 5, 6, 7, 8, 9] hX ?_ | refine awp_drawnG [0, 1, 4, 5, 6, 7, 8, 9] hX mixed ?_ | refine awp_ret ?_ | refine awp_skip ?_ | refine awp_exit ?_); (simp [go_sem]; try (refine ⟨by kernel_rfl, ?_⟩)))))
  refine awp_cond (b := false) (by simp [go_sem]) (fun hb => by cases hb) (fun _ => ?_)
  (repeat (first | refine awp_seq ?_ | refine awp_block ?_ | ((first | refine awp_runG [0, 1, 4, 5, 6, 7, 8, 9] hX ?_ | refine awp_drawnG [0, 1, 4, 5, 6, 7, 8, 9] hX mixed ?_ | refine awp_ret ?_ | refine awp_skip ?_ | refine awp_exit ?_); (simp [go_sem]; try (refine ⟨by kernel_rfl, ?_⟩)))))
  first | refine callK_intro (mul64_m k h) rfl (by simp [go_sem]) rfl ?_ | refine callT_intro (mul64_m k h) rfl (by simp [go_sem]) rfl ?_
  try (simp [go_sem]; try (refine ⟨by kernel_rfl, ?_⟩))
  (repeat (first | refine awp_seq ?_ | refine awp_block ?_ | ((first | refine awp_runG [0, 1, 4, 5, 6, 7, 8, 9] hX ?_ | refine awp_drawnG [0, 1, 4, 5, 6, 7, 8, 9] hX mixed ?_ | refine awp_ret ?_ | refine awp_skip ?_ | refine awp_exit ?_); (simp [go_sem]; try (refine ⟨by kernel_rfl, ?_⟩)))))
def ones (k n : Nat) : List Int := List.replicate n 1 ++ List.replicate (k - n) 0
theorem ones_len {k n : Nat} (h : n ≤ k) : (ones k n).length = k := by simp [ones]; omega
theorem ones_all (k : Nat) : ones k k = List.replicate k 1 := by simp [ones]
theorem ones_copy {k n m : Nat} (h1 : m ≤ n) (h2 : n + m ≤ k) : (ones k n).take n ++ ((ones k n).take n).take m ++ (ones k n).drop (n + m) = ones k (n + m) := by
  have e : (ones k n).take n = List.replicate n 1 := by unfold ones; rw [List.take_left' (by simp)]
  rw [e, List.take_replicate, Nat.min_eq_left h1]
  unfold ones
  rw [List.drop_append, List.drop_of_length_le (by simp), List.nil_append, List.drop_replicate, List.length_replicate]
  rw [show k - n - (n + m - n) = k - (n + m) by omega, ← List.replicate_append_replicate]
set_option maxHeartbeats 4000000 in
set_option maxRecDepth 20000 in
theorem repeat_m (k : Nat) (h : 1 ≤ k ∧ k ≤ 60) : Means true Tryd.prog 56 [il [1], ii k] (il (List.replicate k 1)) := by
  have w1 := wu (x := 1) (by omega) (by omega)
  have w2 := wu (x := (k : Int)) (by omega) (by omega)
  have w3 := w64 (x := (k : Int)) (by omega) (by omega)
  refine means_fn true 48 [.tmp 4] Tryd.func56 rfl rfl rfl (by simp) (by decide) rfl fun X hX => ?_
  (repeat (first | refine awp_seq ?_ | refine awp_block ?_ | ((first | refine awp_runG [0, 1, 4, 5, 6, 7, 8, 10, 26, 37] hX ?_ | refine awp_drawnG [0, 1, 4, 5, 6, 7, 8, 10, 26, 37] hX mixed ?_ | refine awp_ret ?_ | refine awp_skip ?_ | refine awp_exit ?_); (simp [go_sem]; try (refine ⟨by kernel_rfl, ?_⟩)))))
  refine awp_cond (b := false) (by simp [go_sem]) (fun hb => by cases hb) (fun _ => ?_)
  (repeat (first | refine awp_seq ?_ | refine awp_block ?_ | ((first | refine awp_runG [0, 1, 4, 5, 6, 7, 8, 10, 26, 37] hX ?_ | refine awp_drawnG [0, 1, 4, 5, 6, 7, 8, 10, 26, 37] hX mixed ?_ | refine awp_ret ?_ | refine awp_skip ?_ | refine awp_exit ?_); (simp [go_sem, w1, w2]; try (refine ⟨by kernel_rfl, ?_⟩)))))
  first | refine callK_intro (mul_m k (by omega)) rfl (by simp [go_sem]) rfl ?_ | refine callT_intro (mul_m k (by omega)) rfl (by simp [go_sem]) rfl ?_
  try (simp [go_sem]; try (refine ⟨by kernel_rfl, ?_⟩))
  (repeat (first | refine awp_seq ?_ | refine awp_block ?_ | ((first | refine awp_runG [0, 1, 4, 5, 6, 7, 8, 10, 26, 37] hX ?_ | refine awp_drawnG [0, 1, 4, 5, 6, 7, 8, 10, 26, 37] hX mixed ?_ | refine awp_ret ?_ | refine awp_skip ?_ | refine awp_exit ?_); (simp [go_sem]; try (refine ⟨by kernel_rfl, ?_⟩)))))
  refine awp_cond (b := false) (by simp [go_sem]; try omega) (fun hb => by cases hb) (fun _ => ?_)
  (repeat (first | refine awp_seq ?_ | refine awp_block ?_ | ((first | refine awp_runG [0, 1, 4, 5, 6, 7, 8, 10, 26, 37] hX ?_ | refine awp_drawnG [0, 1, 4, 5, 6, 7, 8, 10, 26, 37] hX mixed ?_ | refine awp_ret ?_ | refine awp_skip ?_ | refine awp_exit ?_); (simp [go_sem, w3]; try (refine ⟨by kernel_rfl, ?_⟩)))))
  (repeat refine And.intro (by first | omega | (unfold maxLen; omega) | kernel_rfl | (refine ⟨by first | omega | (unfold maxLen; omega), by first | omega | (unfold maxLen; omega)⟩) | grind) ?_)
  have h1m : min 1 k = 1 := by omega
  (repeat (first | refine awp_seq ?_ | refine awp_block ?_ | ((first | refine awp_runG [0, 1, 4, 5, 6, 7, 8, 10, 26, 37] hX ?_ | refine awp_drawnG [0, 1, 4, 5, 6, 7, 8, 10, 26, 37] hX mixed ?_ | refine awp_ret ?_ | refine awp_skip ?_ | refine awp_exit ?_); (simp [go_sem, h1m]; try (refine ⟨by kernel_rfl, ?_⟩)))))
  refine awp_loop (fun n : Nat => ⟨mkE [(7, .ow 0), (8, ii n)], [rowI (ones k n)]⟩) (fun n => 1 ≤ n ∧ n ≤ k) (fun n => k - n) 1 ?_ ?_ ?_
  · refine sub_of _ [.old 0 ⟨3, 1, (ones k 1).map ii⟩] (by simp [go_sem, ones, h1m, List.map_replicate]) ?_
    simp [go_sem, h1m]
  · omega
  · rintro n ⟨h1, h2⟩
    have hlen := ones_len h2
    obtain ⟨m, hm⟩ : ∃ m, min n (k - n) = m := ⟨_, rfl⟩
    have hcp := ones_copy (k := k) (n := n) (m := m) (by omega) (by omega)
    generalize hR : ones k n = R at *
    have hmi : min n k = n := by omega
    have hw := w64 (x := (n : Int) + m) (by omega) (by omega)
    (repeat (first | refine awp_seq ?_ | refine awp_block ?_ | ((first | refine awp_runG [0, 1, 4, 5, 6, 7, 8, 10, 26, 37] hX ?_ | refine awp_drawnG [0, 1, 4, 5, 6, 7, 8, 10, 26, 37] hX mixed ?_ | refine awp_ret ?_ | refine awp_skip ?_ | refine awp_exit ?_); (simp [go_sem, hlen]; try (refine ⟨by kernel_rfl, ?_⟩)))))
    refine awp_cond (b := decide (n < k)) (by simp [go_sem, hlen]) (fun hc => ?_) (fun hc => ?_)
    · simp at hc
      (repeat (first | refine awp_seq ?_ | refine awp_block ?_ | ((first | refine awp_runG [0, 1, 4, 5, 6, 7, 8, 10, 26, 37] hX ?_ | refine awp_skip ?_ | refine awp_exit ?_); (simp [go_sem, hlen]; try (refine ⟨by kernel_rfl, ?_⟩)))))
      refine awp_drawUG [0, 1, 4, 5, 6, 7, 8, 10, 26, 37] 0 hX mixed ?_; (simp [go_sem, hlen, h2, hmi, hm, hw]; try (refine ⟨by kernel_rfl, ?_⟩))
      have hcpm : (ones k (n + m)).map ii = (R.map ii).take n ++ (((R.map ii).take n).take m ++ (R.map ii).drop (n + m)) := by rw [← hcp]; simp
      refine ⟨fun a ha => ?_, ⟨by kernel_rfl, by kernel_rfl⟩, n + m, by omega, by omega, ?_⟩
      · obtain ⟨x, _, rfl⟩ := List.mem_map.1 (List.mem_of_mem_take ha)
        exact ⟨rfl, rfl⟩
      · rw [← hcpm]
        refine sub_of _ [.old 0 ⟨3, 1, (ones k (n + m)).map ii⟩] (by simp [go_sem]) ?_
        simp [go_sem]
    · have e : n = k := by simp at hc; omega
      subst e
      rw [← hR, ones_all]
      (repeat (first | refine awp_seq ?_ | refine awp_block ?_ | ((first | refine awp_runG [0, 1, 4, 5, 6, 7, 8, 10, 26, 37] hX ?_ | refine awp_drawnG [0, 1, 4, 5, 6, 7, 8, 10, 26, 37] hX mixed ?_ | refine awp_ret ?_ | refine awp_skip ?_ | refine awp_exit ?_); (simp [go_sem]; try (refine ⟨by kernel_rfl, ?_⟩)))))
end Go.Proofs.YtjgkjenbgadacaaDoor

namespace Go.Proofs
open Go.Shelf
def Tryd.laysTwo21_ren : Go.Shelf.Ren := ⟨fun | 21 => 44 | 27 => 57 | 28 => 58 | 35 => 69 | 39 => 81 | n => n, fun | 22 => 25 | 3 => 3 | 4 => 4 | 0 => 0 | n => n, fun | n => n⟩
theorem Tryd.laysTwo21 : Go.Proofs.Lays2.n21 Tryd.prog Tryd.laysTwo21_ren := {
  mixed := by kernel_rfl
  f21 := Tryd.func44.trans (congrArg some (by kernel_rfl))
  f27 := Tryd.func57.trans (congrArg some (by kernel_rfl))
  f28 := Tryd.func58.trans (congrArg some (by kernel_rfl))
  f35 := Tryd.func69.trans (congrArg some (by kernel_rfl))
  f39 := Tryd.func81.trans (congrArg some (by kernel_rfl))
  t0 := Tryd.underlying0
  a0 := Tryd.isAgg0
  z0 := Tryd.sizeOf0
  v0 := Tryd.zeroValue0
  t3 := Tryd.underlying3
  a3 := Tryd.isAgg3
  z3 := Tryd.sizeOf3
  v3 := Tryd.zeroValue3
  t4 := Tryd.underlying4
  a4 := Tryd.isAgg4
  z4 := Tryd.sizeOf4
  v4 := Tryd.zeroValue4
  t22 := Tryd.underlying25
  a22 := Tryd.isAgg25
  z22 := Tryd.sizeOf25
  v22 := Tryd.zeroValue25
  i3 := by kernel_rfl }
theorem Tryd.slices_Insert_int_shift (b off n c i vb voff m vc : Nat) (cs vs : List Value) (w : World) (hi : i < n) (hm : 0 < m) (hroom : n + m ≤ c) (hc63 : c ≤ 9223372036854775807) (hvb : vb ≠ b)
    (hcl : cs.length = n) (hvl : vs.length = m)
    (hcs : ∀ j v, cs[j]? = some v → w.cell? ⟨b, off + j, none⟩ = some v) (hsp : ∀ j, j < n + m → (w.cell? ⟨b, off + j, none⟩).isSome = true) (hfz : ∀ j, j < n + m → w.frozen? ⟨b, off + j, none⟩ = false)
    (hvs : ∀ j v, vs[j]? = some v → w.cell? ⟨vb, voff + j, none⟩ = some v) (h1c : ∀ v ∈ cs, v.oneCell' = true) (h1v : ∀ v ∈ vs, v.oneCell' = true)
    (tA tB : TypeId) (kA kB : Nat) (hsa : w.shape? vb = some (tA, kA)) (hsb : w.shape? b = some (tB, kB)) (hkB : kB ≠ 0) (hfa : w.frozen? ⟨vb, voff, none⟩ = false) (hfe : w.frozen? ⟨vb, kA, none⟩ = false) :
    Calls Tryd.prog 44 #[.slice (some ⟨b, off, none⟩) n c, .int .i64 i, .slice (some ⟨vb, voff, none⟩) m vc] w fun e w' =>
      e = .returned (.slice (some ⟨b, off, none⟩) (n + m) c) ∧ w' = (w.drew.setCells b (off + (i + m)) (cs.drop i)).setCells b (off + i) vs := Any2.slices_Insert_int_shift Tryd.laysTwo21 b off n c i vb voff m vc cs vs w hi hm hroom hc63 hvb hcl hvl hcs hsp hfz hvs h1c h1v tA tB kA kB hsa hsb hkB hfa hfe
theorem Tryd.slices_Insert_int_end_room (b off n c vb voff m vc : Nat) (vs : List Value) (w : World) (hm : 0 < m) (hroom : n + m ≤ c) (hc63 : c ≤ 9223372036854775807)
    (hvl : vs.length = m) (hsp : ∀ j, j < m → (w.cell? ⟨b, off + n + j, none⟩).isSome = true) (hfz : ∀ j, j < m → w.frozen? ⟨b, off + n + j, none⟩ = false)
    (hvs : ∀ j v, vs[j]? = some v → w.cell? ⟨vb, voff + j, none⟩ = some v) (h1v : ∀ v ∈ vs, v.oneCell' = true) :
    Calls Tryd.prog 44 #[.slice (some ⟨b, off, none⟩) n c, .int .i64 n, .slice (some ⟨vb, voff, none⟩) m vc] w fun e w' =>
      e = .returned (.slice (some ⟨b, off, none⟩) (n + m) c) ∧ w' = w.setCells b (off + n) vs := Any2.slices_Insert_int_end_room Tryd.laysTwo21 b off n c vb voff m vc vs w hm hroom hc63 hvl hsp hfz hvs h1v
theorem Tryd.slices_Insert_int_end_grow (base : Option Addr) (n c vb voff m vc : Nat) (cs vs : List Value) (w : World) (hm : 0 < m) (hnc : n ≤ c) (hroom : c < n + m) (hbig : (n + m) * 8 ≤ 140737488355328)
    (hcl : cs.length = n) (hvl : vs.length = m) (hnil : base = none → n = 0)
    (hcs : ∀ a, base = some a → ∀ j v, cs[j]? = some v → w.cell? (a.add j) = some v)
    (hvs : ∀ j v, vs[j]? = some v → w.cell? ⟨vb, voff + j, none⟩ = some v) (h1v : ∀ v ∈ vs, v.oneCell' = true) :
    Calls Tryd.prog 44 #[.slice base n c, .int .i64 n, .slice (some ⟨vb, voff, none⟩) m vc] w fun e w' =>
      e = .returned (.slice (some ⟨w.heap.size, 0, none⟩) (n + m) (grownCap w (n + m) c 3)) ∧
      w' = w.drew.alloc (.cells ((cs ++ vs).toArray ++ Builtin.zeroCells (Value.int .i64 0).cells (grownCap w (n + m) c 3 - (n + m))) 3) := Any2.slices_Insert_int_end_grow Tryd.laysTwo21 base n c vb voff m vc cs vs w hm hnc hroom hbig hcl hvl hnil hcs hvs h1v
theorem Tryd.slices_Insert_int_grow (b off n c i vb voff m vc : Nat) (cs vs : List Value) (w : World) (hi : i < n) (hm : 0 < m) (hnc : n ≤ c) (hroom : c < n + m) (hbig : (n + m) * 8 ≤ 140737488355328)
    (hcl : cs.length = n) (hvl : vs.length = m)
    (hcs : ∀ j v, cs[j]? = some v → w.cell? ⟨b, off + j, none⟩ = some v)
    (hvs : ∀ j v, vs[j]? = some v → w.cell? ⟨vb, voff + j, none⟩ = some v) (h1c : ∀ v ∈ cs, v.oneCell' = true) (h1v : ∀ v ∈ vs, v.oneCell' = true) :
    Calls Tryd.prog 44 #[.slice (some ⟨b, off, none⟩) n c, .int .i64 i, .slice (some ⟨vb, voff, none⟩) m vc] w fun e w' =>
      e = .returned (.slice (some ⟨w.heap.size, 0, none⟩) (n + m) (grownCap w (n + m) c 3)) ∧
      w' = (((w.alloc (.cells ((cs.take i).toArray ++ Builtin.zeroCells (Value.int .i64 0).cells (n + m - i) ++ Builtin.zeroCells (Value.int .i64 0).cells (grownCap w (n + m) c 3 - (n + m))) 3)).drew.setCells w.heap.size i vs).drew).setCells w.heap.size (i + m) (cs.drop i) := Any2.slices_Insert_int_grow Tryd.laysTwo21 b off n c i vb voff m vc cs vs w hi hm hnc hroom hbig hcl hvl hcs hvs h1c h1v
end Go.Proofs

