/-
  Layer 18: equal parts.
-/
import Derived.Test.YtjgkjenbgadacaaDoorSplB
set_option linter.all false
namespace Go.Proofs.YtjgkjenbgadacaaDoor
open Go.RowKit Go.Ab
attribute [local irreducible] AWP Go.Ab.Sub Means MeansH CallK CallG CallT CallGT CallU

theorem wu {x : Int} (h1 : 0 ≤ x) (h2 : x < 18446744073709551616) : IntKind.u64.wrap x = x := by
  unfold IntKind.wrap
  simp [IntKind.bits, IntKind.signed]
  omega
theorem and32 {x : Int} (h1 : 0 ≤ x) (h2 : x < 4294967296) : andI .u64 x 4294967295 = x := by
  have hm : ∀ n : Nat, n &&& 4294967295 = n % 4294967296 := fun n => Nat.and_two_pow_sub_one_eq_mod n 32
  unfold andI
  rw [BitVec.toNat_and, BitVec.toNat_ofInt, BitVec.toNat_ofInt]
  show IntKind.u64.wrap (((x % (2 ^ 64 : Nat)).toNat &&& ((4294967295 : Int) % (2 ^ 64 : Nat)).toNat : Nat) : Int) = _
  rw [show ((4294967295 : Int) % (2 ^ 64 : Nat)).toNat = 4294967295 by decide, hm, wu (by omega) (by omega)]
  omega
theorem mul64_m (k : Int) (h : 0 ≤ k ∧ k ≤ 60) : Means true Tryd.prog 80 [uu 1, uu k] (.tup [uu 0, uu k]) := by
  have a0 := and32 (x := 0) (by omega) (by omega)
  have a1 := and32 (x := 1) (by omega) (by omega)
  have a2 := and32 (x := k) (by omega) (by omega)
  have w0 := wu (x := 0) (by omega) (by omega)
  have w1 := wu (x := 1) (by omega) (by omega)
  have w2 := wu (x := k) (by omega) (by omega)
  have d : k.fdiv 4294967296 = 0 := by rw [Int.fdiv_eq_ediv_of_nonneg _ (by omega)]; omega
  refine means_fn true 51 [.tmp 4, .tmp 5] Tryd.func80 rfl rfl rfl (by simp) (by decide) rfl fun X hX => ?_
  (repeat (first | refine awp_seq ?_ | refine awp_block ?_ | ((first | refine awp_runG [0, 1, 4, 5, 6, 7, 8, 9, 10, 11, 12, 13] hX ?_ | refine awp_drawnG [0, 1, 4, 5, 6, 7, 8, 9, 10, 11, 12, 13] hX mixed ?_ | refine awp_ret ?_ | refine awp_skip ?_ | refine awp_exit ?_); (simp [go_sem, a0, a1, a2, w0, w1, w2, d]; try (refine ⟨by kernel_rfl, ?_⟩)))))
theorem mul_m (k : Int) (h : 0 ≤ k ∧ k ≤ 60) : Means true Tryd.prog 68 [uu 1, uu k] (.tup [uu 0, uu k]) := by
  refine means_fn true 30 [.tmp 4, .tmp 5] Tryd.func68 rfl rfl rfl (by simp) (by decide) rfl fun X hX => ?_
  (repeat (first | refine awp_seq ?_ | refine awp_block ?_ | ((first | refine awp_runG [0, 1, 4, 5, 6, 7, 8, 9] hX ?_ | refine awp_drawnG [0, 1, 4, 5, 6, 7, 8, 9] hX mixed ?_ | refine awp_ret ?_ | refine awp_skip ?_ | refine awp_exit ?_); (simp [go_sem]; try (refine ⟨by kernel_rfl, ?_⟩)))))
  refine awp_cond (b := false) (by simp [go_sem]) (fun hb => by cases hb) (fun _ => ?_)
  (repeat (first | refine awp_seq ?_ | refine awp_block ?_ | ((first | refine awp_runG [0, 1, 4, 5, 6, 7, 8, 9] hX ?_ | refine awp_drawnG [0, 1, 4, 5, 6, 7, 8, 9] hX mixed ?_ | refine awp_ret ?_ | refine awp_skip ?_ | refine awp_exit ?_); (simp [go_sem]; try (refine ⟨by kernel_rfl, ?_⟩)))))
  first | refine callK_intro (mul64_m k h) rfl (by simp [go_sem]) rfl ?_ | refine callT_intro (mul64_m k h) rfl (by simp [go_sem]) rfl ?_
  try (simp [go_sem]; try (refine ⟨by kernel_rfl, ?_⟩))
  (repeat (first | refine awp_seq ?_ | refine awp_block ?_ | ((first | refine awp_runG [0, 1, 4, 5, 6, 7, 8, 9] hX ?_ | refine awp_drawnG [0, 1, 4, 5, 6, 7, 8, 9] hX mixed ?_ | refine awp_ret ?_ | refine awp_skip ?_ | refine awp_exit ?_); (simp [go_sem]; try (refine ⟨by kernel_rfl, ?_⟩)))))

/-- Ones, and zeros behind them. -/
def ones (k n : Nat) : List Int := List.replicate n 1 ++ List.replicate (k - n) 0
theorem ones_len {k n : Nat} (h : n ≤ k) : (ones k n).length = k := by simp [ones]; omega
theorem ones_all (k : Nat) : ones k k = List.replicate k 1 := by simp [ones]
theorem ones_copy {k n m : Nat} (h1 : m ≤ n) (h2 : n + m ≤ k) : (ones k n).take n ++ ((ones k n).take n).take m ++ (ones k n).drop (n + m) = ones k (n + m) := by
  have e : (ones k n).take n = List.replicate n 1 := by unfold ones; rw [List.take_left' (by simp)]
  rw [e, List.take_replicate, Nat.min_eq_left h1]
  unfold ones
  rw [List.drop_append, List.drop_of_length_le (by simp), List.nil_append, List.drop_replicate, List.length_replicate]
  rw [show k - n - (n + m - n) = k - (n + m) by omega, ← List.replicate_append_replicate]

set_option maxHeartbeats 4000000 in
set_option maxRecDepth 20000 in
theorem repeat_m (k : Nat) (h : 1 ≤ k ∧ k ≤ 60) : Means true Tryd.prog 56 [il [1], ii k] (il (List.replicate k 1)) := by
  have w1 := wu (x := 1) (by omega) (by omega)
  have w2 := wu (x := (k : Int)) (by omega) (by omega)
  have w3 := w64 (x := (k : Int)) (by omega) (by omega)
  refine means_fn true 48 [.tmp 4] Tryd.func56 rfl rfl rfl (by simp) (by decide) rfl fun X hX => ?_
  (repeat (first | refine awp_seq ?_ | refine awp_block ?_ | ((first | refine awp_runG [0, 1, 4, 5, 6, 7, 8, 10, 26, 37] hX ?_ | refine awp_drawnG [0, 1, 4, 5, 6, 7, 8, 10, 26, 37] hX mixed ?_ | refine awp_ret ?_ | refine awp_skip ?_ | refine awp_exit ?_); (simp [go_sem]; try (refine ⟨by kernel_rfl, ?_⟩)))))
  refine awp_cond (b := false) (by simp [go_sem]) (fun hb => by cases hb) (fun _ => ?_)
  (repeat (first | refine awp_seq ?_ | refine awp_block ?_ | ((first | refine awp_runG [0, 1, 4, 5, 6, 7, 8, 10, 26, 37] hX ?_ | refine awp_drawnG [0, 1, 4, 5, 6, 7, 8, 10, 26, 37] hX mixed ?_ | refine awp_ret ?_ | refine awp_skip ?_ | refine awp_exit ?_); (simp [go_sem, w1, w2]; try (refine ⟨by kernel_rfl, ?_⟩)))))
  first | refine callK_intro (mul_m k (by omega)) rfl (by simp [go_sem]) rfl ?_ | refine callT_intro (mul_m k (by omega)) rfl (by simp [go_sem]) rfl ?_
  try (simp [go_sem]; try (refine ⟨by kernel_rfl, ?_⟩))
  (repeat (first | refine awp_seq ?_ | refine awp_block ?_ | ((first | refine awp_runG [0, 1, 4, 5, 6, 7, 8, 10, 26, 37] hX ?_ | refine awp_drawnG [0, 1, 4, 5, 6, 7, 8, 10, 26, 37] hX mixed ?_ | refine awp_ret ?_ | refine awp_skip ?_ | refine awp_exit ?_); (simp [go_sem]; try (refine ⟨by kernel_rfl, ?_⟩)))))
  refine awp_cond (b := false) (by simp [go_sem]; try omega) (fun hb => by cases hb) (fun _ => ?_)
  (repeat (first | refine awp_seq ?_ | refine awp_block ?_ | ((first | refine awp_runG [0, 1, 4, 5, 6, 7, 8, 10, 26, 37] hX ?_ | refine awp_drawnG [0, 1, 4, 5, 6, 7, 8, 10, 26, 37] hX mixed ?_ | refine awp_ret ?_ | refine awp_skip ?_ | refine awp_exit ?_); (simp [go_sem, w3]; try (refine ⟨by kernel_rfl, ?_⟩)))))
  (repeat refine And.intro (by first | omega | (unfold maxLen; omega) | kernel_rfl | (refine ⟨by first | omega | (unfold maxLen; omega), by first | omega | (unfold maxLen; omega)⟩) | grind) ?_)
  have h1m : min 1 k = 1 := by omega
  (repeat (first | refine awp_seq ?_ | refine awp_block ?_ | ((first | refine awp_runG [0, 1, 4, 5, 6, 7, 8, 10, 26, 37] hX ?_ | refine awp_drawnG [0, 1, 4, 5, 6, 7, 8, 10, 26, 37] hX mixed ?_ | refine awp_ret ?_ | refine awp_skip ?_ | refine awp_exit ?_); (simp [go_sem, h1m]; try (refine ⟨by kernel_rfl, ?_⟩)))))
  refine awp_loop (fun n : Nat => ⟨mkE [(7, .ow 0), (8, ii n)], [rowI (ones k n)]⟩) (fun n => 1 ≤ n ∧ n ≤ k) (fun n => k - n) 1 ?_ ?_ ?_
  · refine sub_of _ [.old 0 ⟨3, 1, (ones k 1).map ii⟩] (by simp [go_sem, ones, h1m, List.map_replicate]) ?_
    simp [go_sem, h1m]
  · omega
  · rintro n ⟨h1, h2⟩
    have hlen := ones_len h2
    obtain ⟨m, hm⟩ : ∃ m, min n (k - n) = m := ⟨_, rfl⟩
    have hcp := ones_copy (k := k) (n := n) (m := m) (by omega) (by omega)
    generalize hR : ones k n = R at *
    have hmi : min n k = n := by omega
    have hw := w64 (x := (n : Int) + m) (by omega) (by omega)
    (repeat (first | refine awp_seq ?_ | refine awp_block ?_ | ((first | refine awp_runG [0, 1, 4, 5, 6, 7, 8, 10, 26, 37] hX ?_ | refine awp_drawnG [0, 1, 4, 5, 6, 7, 8, 10, 26, 37] hX mixed ?_ | refine awp_ret ?_ | refine awp_skip ?_ | refine awp_exit ?_); (simp [go_sem, hlen]; try (refine ⟨by kernel_rfl, ?_⟩)))))
    refine awp_cond (b := decide (n < k)) (by simp [go_sem, hlen]) (fun hc => ?_) (fun hc => ?_)
    · simp at hc
      (repeat (first | refine awp_seq ?_ | refine awp_block ?_ | ((first | refine awp_runG [0, 1, 4, 5, 6, 7, 8, 10, 26, 37] hX ?_ | refine awp_skip ?_ | refine awp_exit ?_); (simp [go_sem, hlen]; try (refine ⟨by kernel_rfl, ?_⟩)))))
      refine awp_drawUG [0, 1, 4, 5, 6, 7, 8, 10, 26, 37] 0 hX mixed ?_; (simp [go_sem, hlen, h2, hmi, hm, hw]; try (refine ⟨by kernel_rfl, ?_⟩))
      have hcpm : (ones k (n + m)).map ii = (R.map ii).take n ++ (((R.map ii).take n).take m ++ (R.map ii).drop (n + m)) := by rw [← hcp]; simp
      refine ⟨fun a ha => ?_, ⟨by kernel_rfl, by kernel_rfl⟩, n + m, by omega, by omega, ?_⟩
      · obtain ⟨x, _, rfl⟩ := List.mem_map.1 (List.mem_of_mem_take ha)
        exact ⟨rfl, rfl⟩
      · rw [← hcpm]
        refine sub_of _ [.old 0 ⟨3, 1, (ones k (n + m)).map ii⟩] (by simp [go_sem]) ?_
        simp [go_sem]
    · have e : n = k := by simp at hc; omega
      subst e
      rw [← hR, ones_all]
      (repeat (first | refine awp_seq ?_ | refine awp_block ?_ | ((first | refine awp_runG [0, 1, 4, 5, 6, 7, 8, 10, 26, 37] hX ?_ | refine awp_drawnG [0, 1, 4, 5, 6, 7, 8, 10, 26, 37] hX mixed ?_ | refine awp_ret ?_ | refine awp_skip ?_ | refine awp_exit ?_); (simp [go_sem]; try (refine ⟨by kernel_rfl, ?_⟩)))))

set_option maxHeartbeats 4000000 in
theorem even_m (n p : Int) : Means false Tryd.prog 43 [ii n, ii p] (.tup [il (if isAm n = true ∧ 1 ≤ p ∧ p ≤ 60 then wtd (List.replicate p.toNat 1) n else []), ii (if isAm n = true ∧ 1 ≤ p ∧ p ≤ 60 then 0 else 1)]) := by
  by_cases h : 1 ≤ p ∧ p ≤ 60
  · obtain ⟨k, rfl⟩ := Int.eq_ofNat_of_zero_le (show 0 ≤ p by omega)
    have hR := repeat_m k (by omega)
    have hW := weighted_m n (List.replicate k 1) (by simp; omega)
    have hs : wsum (List.replicate k 1) ≠ 0 := by
      have hk : okW (List.replicate k 1) = true := by
        simp only [okW, Bool.and_eq_true, List.all_eq_true, decide_eq_true_eq, List.length_replicate]
        exact ⟨fun x hx => by rw [List.eq_of_mem_replicate hx]; rfl, by omega⟩
      have : ∀ q : Nat, sumL (List.replicate q 1) = q := fun q => by
        induction q with
        | zero => rfl
        | succ q ih => rw [List.replicate_succ, sumL_cons, ih]; push_cast; omega
      unfold wsum
      rw [if_pos hk, this]; omega
    have e : (isAm n = true ∧ wsum (List.replicate k 1) ≠ 0) = (isAm n = true ∧ 1 ≤ (k : Int) ∧ (k : Int) ≤ 60) := by
      rw [eq_true hs, eq_true h]
    simp only [e] at hW
    rw [Int.toNat_natCast]
    generalize (if isAm n = true ∧ 1 ≤ (k : Int) ∧ (k : Int) ≤ 60 then wtd (List.replicate k 1) n else []) = A at *
    generalize (if isAm n = true ∧ 1 ≤ (k : Int) ∧ (k : Int) ≤ 60 then (0 : Int) else 1) = E at *
    generalize List.replicate k (1 : Int) = L at *
    refine means_fn false 19 [.tmp 4, .tmp 5] Tryd.func43 rfl rfl rfl (by simp) (by decide) rfl fun X hX => ?_
    (repeat (first | refine awp_seq ?_ | refine awp_block ?_ | ((first | refine awp_runG [0, 1, 4, 5, 11] hX ?_ | refine awp_drawnG [0, 1, 4, 5, 11] hX mixed ?_ | refine awp_ret ?_ | refine awp_skip ?_ | refine awp_exit ?_); (simp [go_sem]; try (refine ⟨by kernel_rfl, ?_⟩)))))
    refine awp_cond (b := false) (by simp [go_sem]; try omega) (fun hb => by cases hb) (fun _ => ?_)
    (repeat (first | refine awp_seq ?_ | refine awp_block ?_ | ((first | refine awp_runG [0, 1, 4, 5, 11] hX ?_ | refine awp_drawnG [0, 1, 4, 5, 11] hX mixed ?_ | refine awp_ret ?_ | refine awp_skip ?_ | refine awp_exit ?_); (simp [go_sem]; try (refine ⟨by kernel_rfl, ?_⟩)))))
    first | refine callK_intro (hR) rfl (by simp [go_sem]) rfl ?_ | refine callT_intro (hR) rfl (by simp [go_sem]) rfl ?_
    try (simp [go_sem]; try (refine ⟨by kernel_rfl, ?_⟩))
    first | refine callK_intro (hW) rfl (by simp [go_sem]) rfl ?_ | refine callT_intro (hW) rfl (by simp [go_sem]) rfl ?_
    try (simp [go_sem]; try (refine ⟨by kernel_rfl, ?_⟩))
    (repeat (first | refine awp_seq ?_ | refine awp_block ?_ | ((first | refine awp_runG [0, 1, 4, 5, 11] hX ?_ | refine awp_drawnG [0, 1, 4, 5, 11] hX mixed ?_ | refine awp_ret ?_ | refine awp_skip ?_ | refine awp_exit ?_); (simp [go_sem]; try (refine ⟨by kernel_rfl, ?_⟩)))))
  · rw [if_neg (fun q => h q.2), if_neg (fun q => h q.2)]
    refine means_fn false 19 [.tmp 4, .tmp 5] Tryd.func43 rfl rfl rfl (by simp) (by decide) rfl fun X hX => ?_
    (repeat (first | refine awp_seq ?_ | refine awp_block ?_ | ((first | refine awp_runG [0, 1, 4, 5, 11] hX ?_ | refine awp_drawnG [0, 1, 4, 5, 11] hX mixed ?_ | refine awp_ret ?_ | refine awp_skip ?_ | refine awp_exit ?_); (simp [go_sem]; try (refine ⟨by kernel_rfl, ?_⟩)))))
    refine awp_cond (b := true) (by simp [go_sem]; try omega) (fun _ => ?_) (fun hb => by cases hb)
    (repeat (first | refine awp_seq ?_ | refine awp_block ?_ | ((first | refine awp_runG [0, 1, 4, 5, 11] hX ?_ | refine awp_drawnG [0, 1, 4, 5, 11] hX mixed ?_ | refine awp_ret ?_ | refine awp_skip ?_ | refine awp_exit ?_); (simp [go_sem]; try (refine ⟨by kernel_rfl, ?_⟩)))))

end Go.Proofs.YtjgkjenbgadacaaDoor
