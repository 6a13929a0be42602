/-
  Lemmas for the statement at the top.
-/
import Derived.Test.YthibhamepjhfjaaGreatDoorSvP8
set_option linter.all false
namespace Go.Proofs.YthibhamepjhfjaaGreatDoor
open Go.RowKit Go.Ab
attribute [local irreducible] AWP Go.Ab.Sub Means MeansH CallK CallG CallT CallGT
theorem wu {x : Int} (h1 : 0 ≤ x) (h2 : x < 18446744073709551616) : IntKind.u64.wrap x = x := by
  unfold IntKind.wrap
  simp [IntKind.bits, IntKind.signed]
  omega
theorem wun {n : Int} (h1 : -9223372036854775808 ≤ n) (h2 : n < 0) : IntKind.u64.wrap (-(IntKind.u64.wrap n)) = -n := by
  unfold IntKind.wrap
  simp [IntKind.bits, IntKind.signed]
  omega
theorem and_mask_u {x : Int} (h1 : 0 ≤ x) (h2 : x < 18446744073709551616) : andI .u64 x 1048575 = x % 1048576 := by
  unfold andI
  rw [BitVec.toNat_and, BitVec.toNat_ofInt, BitVec.toNat_ofInt]
  show IntKind.u64.wrap (((x % (2 ^ 64 : Nat)).toNat &&& ((1048575 : Int) % (2 ^ 64 : Nat)).toNat : Nat) : Int) = _
  rw [show ((1048575 : Int) % (2 ^ 64 : Nat)).toNat = 1048575 by decide, nat_mask, wu (by omega) (by omega)]
  omega
set_option maxHeartbeats 4000000 in
set_option maxRecDepth 20000 in
theorem Of_m (n : Int) (hn : -9223372036854775808 ≤ n ∧ n ≤ 9223372036854775807) : Means false Tryz.prog 57 [ii n] (bigZ n) := by
  have hab := ab_nonneg n
  have hlo : (dg (ab n)).length ≤ 4 := by
    rw [dg_len_iff]
    have : ab n ≤ 9223372036854775808 := by unfold ab; split <;> omega
    have : (1048576 : Int) ^ 4 = 1208925819614629174706176 := by decide
    omega
  refine means_fn false 25 [.cell 2 39] Tryz.func57 rfl rfl rfl (by simp) (by decide) rfl fun X hX => ?_
  (repeat (first | refine awp_seq ?_ | refine awp_block ?_ | ((first | refine awp_runG [0, 2, 3, 4, 5, 9, 13] hX ?_ | refine awp_drawnG [0, 2, 3, 4, 5, 9, 13] hX mixed ?_ | refine awp_ret ?_ | refine awp_skip ?_ | refine awp_exit ?_); (simp [go_sem]; try (refine ⟨by kernel_rfl, ?_⟩)))))
  refine awp_cut ⟨mkE [(2, .el 0 2 0 0), (3, ii (if n < 0 then -1 else 1)), (4, uu (ab n))], [.row ⟨39, 2, [.agg [ii 0, .nil]]⟩]⟩ ?_ ?_
  · refine awp_cond (b := decide (n < 0)) (by simp [go_sem]) (fun hd => ?_) (fun hd => ?_)
    · simp only [decide_eq_true_eq] at hd
      have hw := wun hn.1 hd
      have hae : ab n = -n := by unfold ab; rw [if_pos hd]
      (repeat (first | refine awp_seq ?_ | refine awp_block ?_ | ((first | refine awp_runG [0, 2, 3, 4, 5, 9, 13] hX ?_ | refine awp_drawnG [0, 2, 3, 4, 5, 9, 13] hX mixed ?_ | refine awp_ret ?_ | refine awp_skip ?_ | refine awp_exit ?_); (simp [go_sem, hw, hd, hae]; try (refine ⟨by kernel_rfl, ?_⟩)))))
      refine sub_of _ [.old 0 ⟨39, 2, [.agg [ii 0, .nil]]⟩] (by simp [go_sem]) ?_
      simp [go_sem, hw, hd, hae]
    · simp only [decide_eq_false_iff_not] at hd
      have hae : ab n = n := by unfold ab; rw [if_neg hd]
      have hw := wu (x := n) (by omega) (by omega)
      (repeat (first | refine awp_seq ?_ | refine awp_block ?_ | ((first | refine awp_runG [0, 2, 3, 4, 5, 9, 13] hX ?_ | refine awp_drawnG [0, 2, 3, 4, 5, 9, 13] hX mixed ?_ | refine awp_ret ?_ | refine awp_skip ?_ | refine awp_exit ?_); (simp [go_sem, hd, hae, hw]; try (refine ⟨by kernel_rfl, ?_⟩)))))
      refine sub_of _ [.old 0 ⟨39, 2, [.agg [ii 0, .nil]]⟩] (by simp [go_sem]) ?_
      simp [go_sem, hd, hae, hw]
  · try (simp [go_sem]; try (refine ⟨by kernel_rfl, ?_⟩))
    (repeat (first | refine awp_seq ?_ | refine awp_block ?_ | ((first | refine awp_runG [0, 2, 3, 4, 5, 9, 13] hX ?_ | refine awp_drawnG [0, 2, 3, 4, 5, 9, 13] hX mixed ?_ | refine awp_ret ?_ | refine awp_skip ?_ | refine awp_exit ?_); (simp [go_sem]; try (refine ⟨by kernel_rfl, ?_⟩)))))
    refine awp_loop (fun x : Int × List Int => ⟨mkE [(2, .el 0 2 0 0), (3, ii (if n < 0 then -1 else 1)), (4, uu x.1), (5, .ow 1)], [.row ⟨39, 2, [.agg [ii 0, .nil]]⟩, .row ⟨3, 1, x.2.map ii⟩]⟩)
      (fun x => 0 ≤ x.1 ∧ x.1 ≤ 9223372036854775808 ∧ x.2 ++ dg x.1 = dg (ab n)) (fun x => x.1.toNat) (ab n, []) ?_ ?_ ?_
    · refine sub_of _ [.old 0 ⟨39, 2, [.agg [ii 0, .nil]]⟩, .birth 3 1] (by simp [go_sem]) ?_
      simp [go_sem]
    · exact ⟨hab, by show ab n ≤ _; unfold ab; split <;> omega, by simp⟩
    · rintro ⟨u, L⟩ ⟨hu, hu2, hE⟩
      simp only [] at hu hu2 hE
      (repeat (first | refine awp_seq ?_ | refine awp_block ?_ | ((first | refine awp_runG [0, 2, 3, 4, 5, 9, 13] hX ?_ | refine awp_drawnG [0, 2, 3, 4, 5, 9, 13] hX mixed ?_ | refine awp_ret ?_ | refine awp_skip ?_ | refine awp_exit ?_); (simp [go_sem]; try (refine ⟨by kernel_rfl, ?_⟩)))))
      refine awp_cond (b := decide (0 < u)) (by simp [go_sem]) (fun hd => ?_) (fun hd => ?_)
      · simp only [decide_eq_true_eq] at hd
        have ham := and_mask_u hu (by omega)
        have hLl : L.length ≤ 4 := by have := congrArg List.length hE; simp at this; omega
        (repeat (first | refine awp_seq ?_ | refine awp_block ?_ | ((first | refine awp_runG [0, 2, 3, 4, 5, 9, 13] hX ?_ | refine awp_drawnG [0, 2, 3, 4, 5, 9, 13] hX mixed ?_ | refine awp_ret ?_ | refine awp_skip ?_ | refine awp_exit ?_); (simp [go_sem, ham]; (try simp (disch := omega) only [w64, td, tm]); try (refine ⟨by kernel_rfl, ?_⟩)))))
        refine ⟨⟨by omega, by unfold maxLen; omega⟩, ?_⟩
        (repeat (first | refine awp_seq ?_ | refine awp_block ?_ | ((first | refine awp_runG [0, 2, 3, 4, 5, 9, 13] hX ?_ | refine awp_drawnG [0, 2, 3, 4, 5, 9, 13] hX mixed ?_ | refine awp_ret ?_ | refine awp_skip ?_ | refine awp_exit ?_); (simp [go_sem]; (try simp (disch := omega) only [w64, td, tm]); try (refine ⟨by kernel_rfl, ?_⟩)))))
        refine ⟨u / 1048576, L ++ [u % 1048576], ⟨by omega, by omega, by rw [← hE, dg_pos hd]; simp⟩, by omega, ?_⟩
        refine sub_of _ [.old 0 ⟨39, 2, [.agg [ii 0, .nil]]⟩, .old 3 ⟨3, 1, (L ++ [u % 1048576]).map ii⟩] (by simp [go_sem]) ?_
        simp [go_sem]
      · simp only [decide_eq_false_iff_not] at hd
        have hu0 : u = 0 := by omega
        subst hu0
        rw [dg_zero, List.append_nil] at hE
        subst hE
        refine awp_sub (st0 := ⟨mkE [(2, .el 0 2 0 0), (3, ii (if n < 0 then -1 else 1)), (5, il (dg (ab n)))], [.row ⟨39, 2, [.agg [ii 0, .nil]]⟩]⟩) ?_ ?_
        · refine sub_of _ [.old 0 ⟨39, 2, [.agg [ii 0, .nil]]⟩] (by simp [go_sem]) ?_
          simp [go_sem]
        · have hsgn := signed_m (if n < 0 then -1 else 1) (dg (ab n)) n (by omega) (okD_dg _) (by rw [val_ab]) (fun h => by rw [val_ab] at h; unfold ab at h; unfold sg; split <;> split at h <;> first | rfl | omega | (rw [if_pos (by omega)]))
          (repeat (first | refine awp_seq ?_ | refine awp_block ?_ | ((first | refine awp_runG [0, 2, 3, 4, 5, 9, 13] hX ?_ | refine awp_drawnG [0, 2, 3, 4, 5, 9, 13] hX mixed ?_ | refine awp_ret ?_ | refine awp_skip ?_ | refine awp_exit ?_); (simp [go_sem]; (try simp (disch := omega) only [w64, td, tm]); try (refine ⟨by kernel_rfl, ?_⟩)))))
          first | refine callK_intro (hsgn) rfl (by simp [go_sem]) rfl ?_ | refine callT_intro (hsgn) rfl (by simp [go_sem]) rfl ?_
          try (simp [go_sem]; try (refine ⟨by kernel_rfl, ?_⟩))
          (repeat (first | refine awp_seq ?_ | refine awp_block ?_ | ((first | refine awp_runG [0, 2, 3, 4, 5, 9, 13] hX ?_ | refine awp_drawnG [0, 2, 3, 4, 5, 9, 13] hX mixed ?_ | refine awp_ret ?_ | refine awp_skip ?_ | refine awp_exit ?_); (simp [go_sem]; try (refine ⟨by kernel_rfl, ?_⟩)))))
theorem or_u (k : Nat) {u d : Int} (h1 : 0 ≤ u) (h2 : u < 2 ^ k) (h3 : 0 ≤ d) (h4 : d * 2 ^ k + u < 18446744073709551616) : orI .u64 u (d * 2 ^ k) = u + d * 2 ^ k := by
  obtain ⟨m, rfl⟩ := Int.eq_ofNat_of_zero_le h1
  obtain ⟨n, rfl⟩ := Int.eq_ofNat_of_zero_le h3
  have hm : m < 2 ^ k := by
    have : ((m : Nat) : Int) < ((2 ^ k : Nat) : Int) := by simpa using h2
    omega
  have hnn : (n : Int) * 2 ^ k = ((n * 2 ^ k : Nat) : Int) := by simp
  rw [hnn] at h4 ⊢
  unfold orI
  rw [BitVec.toNat_or, BitVec.toNat_ofInt, BitVec.toNat_ofInt]
  show IntKind.u64.wrap (((((m : Nat) : Int) % (2 ^ 64 : Nat)).toNat ||| ((((n * 2 ^ k : Nat) : Int)) % (2 ^ 64 : Nat)).toNat : Nat) : Int) = _
  rw [show (((n * 2 ^ k : Nat) : Int) % (2 ^ 64 : Nat)).toNat = n <<< k by rw [Nat.shiftLeft_eq]; omega, show (((m : Nat) : Int) % (2 ^ 64 : Nat)).toNat = m by omega,
    Nat.or_comm, ← Nat.shiftLeft_add_eq_or_of_lt hm, Nat.shiftLeft_eq, wu (by omega) (by omega)]
  omega
theorem val_take_succ {L : List Int} {i : Nat} (h : i < L.length) : val (L.take (i + 1)) = val (L.take i) + 1048576 ^ i * L[i] := by
  rw [List.take_succ_eq_append_getElem h, val_app, List.length_take, Nat.min_eq_left (by omega)]
  simp [val]
def inI (z : Int) : Bool := decide (-9223372036854775808 ≤ z ∧ z ≤ 9223372036854775807)
set_option maxHeartbeats 4000000 in
set_option maxRecDepth 20000 in
theorem Int_m (z : Int) (hz : rz z) : Means false Tryz.prog 42 [bigZ z] (.tup [ii (if inI z then z else 0), bb (inI z)]) := by
  have hlz := len60 hz
  have hab := ab_nonneg z
  have hva := val_ab z
  have hok := okD_dg (ab z)
  refine means_fn false 59 [.tmp 2, .tmp 3] Tryz.func42 rfl rfl rfl (by simp) (by decide) rfl fun X hX => ?_
  (repeat (first | refine awp_seq ?_ | refine awp_block ?_ | ((first | refine awp_runG [0, 1, 2, 3, 4, 5, 6, 15, 17, 18, 19, 20, 29, 38, 49] hX ?_ | refine awp_drawnG [0, 1, 2, 3, 4, 5, 6, 15, 17, 18, 19, 20, 29, 38, 49] hX mixed ?_ | refine awp_ret ?_ | refine awp_skip ?_ | refine awp_exit ?_); (simp [go_sem]; try (refine ⟨by kernel_rfl, ?_⟩)))))
  first | refine callK_intro (right_t z hz) rfl (by simp [go_sem]) rfl ?_ | refine callT_intro (right_t z hz) rfl (by simp [go_sem]) rfl ?_
  try (simp [go_sem]; try (refine ⟨by kernel_rfl, ?_⟩))
  (repeat (first | refine awp_seq ?_ | refine awp_block ?_ | ((first | refine awp_runG [0, 1, 2, 3, 4, 5, 6, 15, 17, 18, 19, 20, 29, 38, 49] hX ?_ | refine awp_drawnG [0, 1, 2, 3, 4, 5, 6, 15, 17, 18, 19, 20, 29, 38, 49] hX mixed ?_ | refine awp_ret ?_ | refine awp_skip ?_ | refine awp_exit ?_); (simp [go_sem]; try (refine ⟨by kernel_rfl, ?_⟩)))))
  refine awp_cond (b := decide (4 < (dg (ab z)).length)) (by simp [go_sem]; try omega) (fun hd => ?_) (fun hd => ?_)
  · simp only [decide_eq_true_eq] at hd
    have : ¬ (dg (ab z)).length ≤ 4 := by omega
    rw [dg_len_iff] at this
    have h4 : (1048576 : Int) ^ 4 = 1208925819614629174706176 := by decide
    have hin : inI z = false := by
      unfold inI
      rcases sg_cases z with h | h | h <;> simp <;> omega
    (repeat (first | refine awp_seq ?_ | refine awp_block ?_ | ((first | refine awp_runG [0, 1, 2, 3, 4, 5, 6, 15, 17, 18, 19, 20, 29, 38, 49] hX ?_ | refine awp_drawnG [0, 1, 2, 3, 4, 5, 6, 15, 17, 18, 19, 20, 29, 38, 49] hX mixed ?_ | refine awp_ret ?_ | refine awp_skip ?_ | refine awp_exit ?_); (simp [go_sem, hin]; try (refine ⟨by kernel_rfl, ?_⟩)))))
  · simp only [decide_eq_false_iff_not] at hd
    generalize hL : dg (ab z) = L at *
    (repeat (first | refine awp_seq ?_ | refine awp_block ?_ | ((first | refine awp_runG [0, 1, 2, 3, 4, 5, 6, 15, 17, 18, 19, 20, 29, 38, 49] hX ?_ | refine awp_drawnG [0, 1, 2, 3, 4, 5, 6, 15, 17, 18, 19, 20, 29, 38, 49] hX mixed ?_ | refine awp_ret ?_ | refine awp_skip ?_ | refine awp_exit ?_); (simp [go_sem]; try (refine ⟨by kernel_rfl, ?_⟩)))))
    refine awp_loop (fun x : Nat => ⟨mkE [(1, .el 0 2 0 0), (4, uu (val (L.take x))), (17, il L), (18, ii L.length), (19, ii x)], [.row ⟨39, 2, [big2 (sg z) L]⟩]⟩)
      (fun x => x ≤ L.length ∧ (x = 4 → ab z < 10376293541461622784)) (fun x => L.length - x) 0 ?_ ?_ ?_
    · refine sub_of _ [.old 0 ⟨39, 2, [big2 (sg z) L]⟩] (by simp [go_sem, hL]) ?_
      simp [go_sem, val, hL]
    · exact ⟨Nat.zero_le _, fun h => by omega⟩
    · rintro i ⟨hi, hi4⟩
      (repeat (first | refine awp_seq ?_ | refine awp_block ?_ | ((first | refine awp_runG [0, 1, 2, 3, 4, 5, 6, 15, 17, 18, 19, 20, 29, 38, 49] hX ?_ | refine awp_drawnG [0, 1, 2, 3, 4, 5, 6, 15, 17, 18, 19, 20, 29, 38, 49] hX mixed ?_ | refine awp_ret ?_ | refine awp_skip ?_ | refine awp_exit ?_); (simp [go_sem]; try (refine ⟨by kernel_rfl, ?_⟩)))))
      refine awp_cond (b := decide (i < L.length)) (by simp [go_sem]) (fun hd2 => ?_) (fun hd2 => ?_)
      · simp at hd2
        have hx := okD_at hok hd2
        have hlt := val_lt (okD_take hok i)
        have hge := val_nonneg (okD_take hok i)
        rw [List.length_take, Nat.min_eq_left hi] at hlt
        have hvs := val_take_succ hd2
        have hpw : (1048576 : Int) ^ i = 2 ^ (20 * i) := by rw [Int.pow_mul]; rfl
        have hvs2 : val (L.take (i + 1)) = val (L.take i) + L[i] * 2 ^ (20 * i) := by rw [hvs, hpw, Int.mul_comm]
        have hw1 := wu (x := L[i]) (by omega) (by omega)
        have hw2 := w64 (x := 20 * (i : Int)) (by omega) (by omega)
        have hmin : min (20 * (i : Int)).toNat 64 = 20 * i := by omega
        have hpos : (0 : Int) ≤ 20 * i := by omega
        have hgo : (L[i] * 2 ^ (20 * i) + val (L.take i) < 18446744073709551616) →
            True := fun _ => trivial
        clear hgo
        have hsmall : i ≤ 2 → L[i] * 2 ^ (20 * i) + val (L.take i) < 18446744073709551616 ∧ L[i] * 2 ^ (20 * i) < 18446744073709551616 := by
          intro h
          have : i = 0 ∨ i = 1 ∨ i = 2 := by omega
          rcases this with rfl | rfl | rfl <;> simp at hlt ⊢ <;> omega
        by_cases h3 : i = 3
        · have h3i : (i : Int) = 3 := by omega
          have e1 := eq_true h3
          have e2 := eq_true h3i
          have hp60 : (2 : Int) ^ (20 * i) = 1152921504606846976 := by rw [h3]; decide
          rw [hpw, hp60] at hlt
          have hLv : val (L.take (i + 1)) = ab z := by rw [← hva, List.take_of_length_le (by omega)]
          rw [hp60] at hvs2
          by_cases h8 : 8 < L[i]
          · have hin : inI z = false := by
              unfold inI
              rcases sg_cases z with h | h | h <;> simp <;> omega
            (repeat (first | refine awp_seq ?_ | refine awp_block ?_ | ((first | refine awp_runG [0, 1, 2, 3, 4, 5, 6, 15, 17, 18, 19, 20, 29, 38, 49] hX ?_ | refine awp_drawnG [0, 1, 2, 3, 4, 5, 6, 15, 17, 18, 19, 20, 29, 38, 49] hX mixed ?_ | refine awp_ret ?_ | refine awp_skip ?_ | refine awp_exit ?_); (simp [go_sem, hd2, e1, e2, h8]; try (refine ⟨by kernel_rfl, ?_⟩)))))
            try (simp [go_sem, hd2, e1, e2, h8]; try (refine ⟨by kernel_rfl, ?_⟩))
            (repeat (first | refine awp_seq ?_ | refine awp_block ?_ | ((first | refine awp_runG [0, 1, 2, 3, 4, 5, 6, 15, 17, 18, 19, 20, 29, 38, 49] hX ?_ | refine awp_drawnG [0, 1, 2, 3, 4, 5, 6, 15, 17, 18, 19, 20, 29, 38, 49] hX mixed ?_ | refine awp_ret ?_ | refine awp_skip ?_ | refine awp_exit ?_); (simp [go_sem, e1, e2, h8]; (try simp (disch := omega) only [w64, td, tm]); try (refine ⟨by kernel_rfl, ?_⟩)))))
            try (simp [go_sem, e1, e2, h8]; try (refine ⟨by kernel_rfl, ?_⟩))
            refine awp_cond (b := true) (by simp [go_sem]) (fun _ => ?_) (fun h => by cases h)
            (repeat (first | refine awp_seq ?_ | refine awp_block ?_ | ((first | refine awp_runG [0, 1, 2, 3, 4, 5, 6, 15, 17, 18, 19, 20, 29, 38, 49] hX ?_ | refine awp_drawnG [0, 1, 2, 3, 4, 5, 6, 15, 17, 18, 19, 20, 29, 38, 49] hX mixed ?_ | refine awp_ret ?_ | refine awp_skip ?_ | refine awp_exit ?_); (simp [go_sem, hin]; try (refine ⟨by kernel_rfl, ?_⟩)))))
          · have hp2 : (0 : Int) ≤ L[i] * 2 ^ (20 * i) := Int.mul_nonneg hx.1 (Int.le_of_lt (Int.pow_pos (by decide)))
            have hor := or_u (20 * i) (u := val (L.take i)) (d := L[i]) hge (by rw [hp60]; exact hlt) hx.1 (by rw [hp60]; omega)
            have hw3 := wu (x := L[i] * 2 ^ (20 * i)) hp2 (by rw [hp60]; omega)
            (repeat (first | refine awp_seq ?_ | refine awp_block ?_ | ((first | refine awp_runG [0, 1, 2, 3, 4, 5, 6, 15, 17, 18, 19, 20, 29, 38, 49] hX ?_ | refine awp_drawnG [0, 1, 2, 3, 4, 5, 6, 15, 17, 18, 19, 20, 29, 38, 49] hX mixed ?_ | refine awp_ret ?_ | refine awp_skip ?_ | refine awp_exit ?_); (simp [go_sem, hd2, e1, e2, h8]; try (refine ⟨by kernel_rfl, ?_⟩)))))
            try (simp [go_sem, hd2, e1, e2, h8]; try (refine ⟨by kernel_rfl, ?_⟩))
            (repeat (first | refine awp_seq ?_ | refine awp_block ?_ | ((first | refine awp_runG [0, 1, 2, 3, 4, 5, 6, 15, 17, 18, 19, 20, 29, 38, 49] hX ?_ | refine awp_drawnG [0, 1, 2, 3, 4, 5, 6, 15, 17, 18, 19, 20, 29, 38, 49] hX mixed ?_ | refine awp_ret ?_ | refine awp_skip ?_ | refine awp_exit ?_); (simp [go_sem, e1, e2, h8]; (try simp (disch := omega) only [w64, td, tm]); try (refine ⟨by kernel_rfl, ?_⟩)))))
            try (simp [go_sem, e1, e2, h8]; try (refine ⟨by kernel_rfl, ?_⟩))
            refine awp_cond (b := false) (by simp [go_sem]) (fun h => by cases h) (fun _ => ?_)
            (repeat (first | refine awp_seq ?_ | refine awp_block ?_ | ((first | refine awp_runG [0, 1, 2, 3, 4, 5, 6, 15, 17, 18, 19, 20, 29, 38, 49] hX ?_ | refine awp_drawnG [0, 1, 2, 3, 4, 5, 6, 15, 17, 18, 19, 20, 29, 38, 49] hX mixed ?_ | refine awp_ret ?_ | refine awp_skip ?_ | refine awp_exit ?_); (simp [go_sem, hw1, hw2, hmin, hpos, hw3, hor]; (try simp (disch := omega) only [w64, td, tm]); try (refine ⟨by kernel_rfl, ?_⟩)))))
            try (simp [go_sem, hw1, hw2, hmin, hpos, hw3, hor]; try (refine ⟨by kernel_rfl, ?_⟩))
            refine ⟨i + 1, ⟨by omega, fun _ => by omega⟩, by omega, ?_⟩
            rw [← hp60] at hvs2
            refine sub_of _ [.old 0 ⟨39, 2, [big2 (sg z) L]⟩] (by simp [go_sem, hL]) ?_
            simp [go_sem, hvs2, hL]
        · have h3i : ¬ (i : Int) = 3 := by omega
          obtain ⟨hs1, hs2⟩ := hsmall (by omega)
          have hp2 : (0 : Int) ≤ L[i] * 2 ^ (20 * i) := Int.mul_nonneg hx.1 (Int.le_of_lt (Int.pow_pos (by decide)))
          have hor := or_u (20 * i) (u := val (L.take i)) (d := L[i]) hge (by rw [← hpw]; exact hlt) hx.1 hs1
          have hw3 := wu (x := L[i] * 2 ^ (20 * i)) hp2 hs2
          (repeat (first | refine awp_seq ?_ | refine awp_block ?_ | ((first | refine awp_runG [0, 1, 2, 3, 4, 5, 6, 15, 17, 18, 19, 20, 29, 38, 49] hX ?_ | refine awp_drawnG [0, 1, 2, 3, 4, 5, 6, 15, 17, 18, 19, 20, 29, 38, 49] hX mixed ?_ | refine awp_ret ?_ | refine awp_skip ?_ | refine awp_exit ?_); (simp [go_sem, hd2, h3i]; try (refine ⟨by kernel_rfl, ?_⟩)))))
          try (simp [go_sem, hd2, h3i]; try (refine ⟨by kernel_rfl, ?_⟩))
          (repeat (first | refine awp_seq ?_ | refine awp_block ?_ | ((first | refine awp_runG [0, 1, 2, 3, 4, 5, 6, 15, 17, 18, 19, 20, 29, 38, 49] hX ?_ | refine awp_drawnG [0, 1, 2, 3, 4, 5, 6, 15, 17, 18, 19, 20, 29, 38, 49] hX mixed ?_ | refine awp_ret ?_ | refine awp_skip ?_ | refine awp_exit ?_); (simp [go_sem]; (try simp (disch := omega) only [w64, td, tm]); try (refine ⟨by kernel_rfl, ?_⟩)))))
          refine awp_cond (b := false) (by simp [go_sem]) (fun h => by cases h) (fun _ => ?_)
          (repeat (first | refine awp_seq ?_ | refine awp_block ?_ | ((first | refine awp_runG [0, 1, 2, 3, 4, 5, 6, 15, 17, 18, 19, 20, 29, 38, 49] hX ?_ | refine awp_drawnG [0, 1, 2, 3, 4, 5, 6, 15, 17, 18, 19, 20, 29, 38, 49] hX mixed ?_ | refine awp_ret ?_ | refine awp_skip ?_ | refine awp_exit ?_); (simp [go_sem, hw1, hw2, hmin, hpos, hw3, hor]; (try simp (disch := omega) only [w64, td, tm]); try (refine ⟨by kernel_rfl, ?_⟩)))))
          try (simp [go_sem, hw1, hw2, hmin, hpos, hw3, hor]; try (refine ⟨by kernel_rfl, ?_⟩))
          refine ⟨i + 1, ⟨by omega, fun h => by omega⟩, by omega, ?_⟩
          refine sub_of _ [.old 0 ⟨39, 2, [big2 (sg z) L]⟩] (by simp [go_sem, hL]) ?_
          simp [go_sem, hvs2, hL]
      · have hil : i = L.length := by simp at hd2; omega
        subst hil
        rw [List.take_length, hva]
        have hbd : ab z < 10376293541461622784 := by
          by_cases h4 : L.length = 4
          · exact hi4 h4
          · have := val_lt hok
            rw [hva] at this
            have hle : (1048576 : Int) ^ L.length ≤ 1048576 ^ 3 := by
              have : L.length = 0 ∨ L.length = 1 ∨ L.length = 2 ∨ L.length = 3 := by omega
              rcases this with h | h | h | h <;> rw [h] <;> decide
            have h3 : (1048576 : Int) ^ 3 = 1152921504606846976 := by decide
            omega
        have hwn : 0 ≤ ab z → ab z ≤ 9223372036854775808 → sg z < 0 → IntKind.i64.wrap (IntKind.u64.wrap (-ab z)) = z := by
          intro _ h1 h2
          have : ab z = -z := by rcases sg_cases z with h | h | h <;> omega
          unfold IntKind.wrap
          simp [IntKind.bits, IntKind.signed]
          omega
        by_cases hs : sg z < 0
        · have hz0 : ab z = -z := by rcases sg_cases z with h | h | h <;> omega
          by_cases hle : ab z ≤ 9223372036854775808
          · have hw := hwn hab hle hs
            have hin : inI z = true := by unfold inI; simp; omega
            (repeat (first | refine awp_seq ?_ | refine awp_block ?_ | ((first | refine awp_runG [0, 1, 2, 3, 4, 5, 6, 15, 17, 18, 19, 20, 29, 38, 49] hX ?_ | refine awp_drawnG [0, 1, 2, 3, 4, 5, 6, 15, 17, 18, 19, 20, 29, 38, 49] hX mixed ?_ | refine awp_ret ?_ | refine awp_skip ?_ | refine awp_exit ?_); (simp [go_sem, hs, hle]; try (refine ⟨by kernel_rfl, ?_⟩)))))
            refine awp_cond (b := true) (by simp [go_sem]) (fun _ => ?_) (fun h => by cases h)
            (repeat (first | refine awp_seq ?_ | refine awp_block ?_ | ((first | refine awp_runG [0, 1, 2, 3, 4, 5, 6, 15, 17, 18, 19, 20, 29, 38, 49] hX ?_ | refine awp_drawnG [0, 1, 2, 3, 4, 5, 6, 15, 17, 18, 19, 20, 29, 38, 49] hX mixed ?_ | refine awp_ret ?_ | refine awp_skip ?_ | refine awp_exit ?_); (simp [go_sem, hw, hin]; try (refine ⟨by kernel_rfl, ?_⟩)))))
          · have hin : inI z = false := by unfold inI; simp; omega
            have hs2 : ¬ 0 ≤ sg z := by omega
            (repeat (first | refine awp_seq ?_ | refine awp_block ?_ | ((first | refine awp_runG [0, 1, 2, 3, 4, 5, 6, 15, 17, 18, 19, 20, 29, 38, 49] hX ?_ | refine awp_drawnG [0, 1, 2, 3, 4, 5, 6, 15, 17, 18, 19, 20, 29, 38, 49] hX mixed ?_ | refine awp_ret ?_ | refine awp_skip ?_ | refine awp_exit ?_); (simp [go_sem, hs, hle]; try (refine ⟨by kernel_rfl, ?_⟩)))))
            refine awp_cond (b := false) (by simp [go_sem]) (fun h => by cases h) (fun _ => ?_)
            (repeat (first | refine awp_seq ?_ | refine awp_block ?_ | ((first | refine awp_runG [0, 1, 2, 3, 4, 5, 6, 15, 17, 18, 19, 20, 29, 38, 49] hX ?_ | refine awp_drawnG [0, 1, 2, 3, 4, 5, 6, 15, 17, 18, 19, 20, 29, 38, 49] hX mixed ?_ | refine awp_ret ?_ | refine awp_skip ?_ | refine awp_exit ?_); (simp [go_sem, hs2]; try (refine ⟨by kernel_rfl, ?_⟩)))))
            refine awp_cond (b := false) (by simp [go_sem]) (fun h => by cases h) (fun _ => ?_)
            (repeat (first | refine awp_seq ?_ | refine awp_block ?_ | ((first | refine awp_runG [0, 1, 2, 3, 4, 5, 6, 15, 17, 18, 19, 20, 29, 38, 49] hX ?_ | refine awp_drawnG [0, 1, 2, 3, 4, 5, 6, 15, 17, 18, 19, 20, 29, 38, 49] hX mixed ?_ | refine awp_ret ?_ | refine awp_skip ?_ | refine awp_exit ?_); (simp [go_sem, hin]; try (refine ⟨by kernel_rfl, ?_⟩)))))
        · have hz0 : ab z = z := by rcases sg_cases z with h | h | h <;> omega
          have hs2 : 0 ≤ sg z := by omega
          by_cases hle : ab z < 9223372036854775808
          · have hw := w64 (x := ab z) (by omega) (by omega)
            rw [hz0] at hw
            have hin : inI z = true := by unfold inI; simp; omega
            (repeat (first | refine awp_seq ?_ | refine awp_block ?_ | ((first | refine awp_runG [0, 1, 2, 3, 4, 5, 6, 15, 17, 18, 19, 20, 29, 38, 49] hX ?_ | refine awp_drawnG [0, 1, 2, 3, 4, 5, 6, 15, 17, 18, 19, 20, 29, 38, 49] hX mixed ?_ | refine awp_ret ?_ | refine awp_skip ?_ | refine awp_exit ?_); (simp [go_sem, hs]; try (refine ⟨by kernel_rfl, ?_⟩)))))
            refine awp_cond (b := false) (by simp [go_sem]) (fun h => by cases h) (fun _ => ?_)
            (repeat (first | refine awp_seq ?_ | refine awp_block ?_ | ((first | refine awp_runG [0, 1, 2, 3, 4, 5, 6, 15, 17, 18, 19, 20, 29, 38, 49] hX ?_ | refine awp_drawnG [0, 1, 2, 3, 4, 5, 6, 15, 17, 18, 19, 20, 29, 38, 49] hX mixed ?_ | refine awp_ret ?_ | refine awp_skip ?_ | refine awp_exit ?_); (simp [go_sem, hs2, hle]; try (refine ⟨by kernel_rfl, ?_⟩)))))
            refine awp_cond (b := true) (by simp [go_sem]) (fun _ => ?_) (fun h => by cases h)
            (repeat (first | refine awp_seq ?_ | refine awp_block ?_ | ((first | refine awp_runG [0, 1, 2, 3, 4, 5, 6, 15, 17, 18, 19, 20, 29, 38, 49] hX ?_ | refine awp_drawnG [0, 1, 2, 3, 4, 5, 6, 15, 17, 18, 19, 20, 29, 38, 49] hX mixed ?_ | refine awp_ret ?_ | refine awp_skip ?_ | refine awp_exit ?_); (simp [go_sem, hz0, hw, hin]; try (refine ⟨by kernel_rfl, ?_⟩)))))
          · have hin : inI z = false := by unfold inI; simp; omega
            (repeat (first | refine awp_seq ?_ | refine awp_block ?_ | ((first | refine awp_runG [0, 1, 2, 3, 4, 5, 6, 15, 17, 18, 19, 20, 29, 38, 49] hX ?_ | refine awp_drawnG [0, 1, 2, 3, 4, 5, 6, 15, 17, 18, 19, 20, 29, 38, 49] hX mixed ?_ | refine awp_ret ?_ | refine awp_skip ?_ | refine awp_exit ?_); (simp [go_sem, hs]; try (refine ⟨by kernel_rfl, ?_⟩)))))
            refine awp_cond (b := false) (by simp [go_sem]) (fun h => by cases h) (fun _ => ?_)
            (repeat (first | refine awp_seq ?_ | refine awp_block ?_ | ((first | refine awp_runG [0, 1, 2, 3, 4, 5, 6, 15, 17, 18, 19, 20, 29, 38, 49] hX ?_ | refine awp_drawnG [0, 1, 2, 3, 4, 5, 6, 15, 17, 18, 19, 20, 29, 38, 49] hX mixed ?_ | refine awp_ret ?_ | refine awp_skip ?_ | refine awp_exit ?_); (simp [go_sem, hs2, hle]; try (refine ⟨by kernel_rfl, ?_⟩)))))
            refine awp_cond (b := false) (by simp [go_sem]) (fun h => by cases h) (fun _ => ?_)
            (repeat (first | refine awp_seq ?_ | refine awp_block ?_ | ((first | refine awp_runG [0, 1, 2, 3, 4, 5, 6, 15, 17, 18, 19, 20, 29, 38, 49] hX ?_ | refine awp_drawnG [0, 1, 2, 3, 4, 5, 6, 15, 17, 18, 19, 20, 29, 38, 49] hX mixed ?_ | refine awp_ret ?_ | refine awp_skip ?_ | refine awp_exit ?_); (simp [go_sem, hin]; try (refine ⟨by kernel_rfl, ?_⟩)))))
end Go.Proofs.YthibhamepjhfjaaGreatDoor

namespace Go.Proofs.YthibhamepjhfjaaGreatDoor
open Go.RowKit Go.Ab
attribute [local irreducible] AWP Go.Ab.Sub Means MeansH CallK CallG CallT CallGT
theorem rz_c {z : Int} (h : ab z < 100000000000000000000000000000000) : rz z := by
  unfold rz
  have : (100000000000000000000000000000000 : Int) < 1048576 ^ 60 := by decide
  omega
theorem rz_i {z : Int} (h : -9223372036854775808 ≤ z ∧ z ≤ 9223372036854775807) : rz z := rz_c (by unfold ab; split <;> omega)
theorem Mul_ok {z w p : Int} (hz : rz z) (hw : rz w) (hp : rz p) (e : z * w = p) : Means false Tryz.prog 64 [bigZ z, bigZ w] (.tup [bigZ p, ii 0]) := by
  have := Mul_m z w hz hw
  rwa [res, e, r60_of hp, e60_of hp] at this
theorem Div_ok {z w q r : Int} (hz : rz z) (hw : rz w) (h0 : w ≠ 0) (hq : dq z w = q) (hr : dr z w = r) : Means false Tryz.prog 58 [bigZ z, bigZ w] (.tup [bigZ q, bigZ r, ii 0]) := by
  have := Div_m z w hz hw h0
  rwa [hq, hr] at this
theorem Gcd_ok {z w g : Int} (hz : rz z) (hw : rz w) (hg : (Int.gcd z w : Int) = g) : Means false Tryz.prog 63 [bigZ z, bigZ w] (.tup [bigZ g, ii 0]) := by
  have := Gcd_m z w hz hw
  rwa [hg] at this
theorem Int_i {z : Int} (h : -9223372036854775808 ≤ z ∧ z ≤ 9223372036854775807) : Means false Tryz.prog 42 [bigZ z] (.tup [ii z, bb true]) := by
  have := Int_m z (rz_i h)
  have e : inI z = true := by unfold inI; simpa using h
  rwa [e, if_pos rfl] at this
theorem cmpI_bd (a b : Int) : -1 ≤ cmpI a b ∧ cmpI a b ≤ 1 := by unfold cmpI; split <;> (try split) <;> omega
theorem cmpI_zero (a b : Int) : cmpI a b = 0 ↔ a = b := by unfold cmpI; split <;> (try split) <;> omega
theorem cmpI_sg (a b : Int) : sg (a - b) = cmpI a b := by unfold cmpI sg; split <;> (try split) <;> (try split) <;> (try split) <;> omega
theorem dq_bd {z w : Int} (h : w ≠ 0) : ab (dq z w) ≤ ab z := by
  have hD : 0 < ab w := by rcases sg_cases w with h | h | h <;> omega
  unfold dq
  have e : ab (sg w * z) = ab z := by
    rcases sg_cases w with ⟨a1, _, _⟩ | ⟨a1, a2, _⟩ | ⟨a1, _, _⟩
    · rw [a1, Int.neg_one_mul, ab_neg]
    · exact absurd a2 h
    · rw [a1, Int.one_mul]
  rw [← e]
  generalize sg w * z = x
  generalize ab w = D at *
  have h0 := Int.mul_ediv_add_emod x D
  have h1 := Int.emod_nonneg x (show D ≠ 0 by omega)
  have h2 := Int.emod_lt_of_pos x hD
  generalize x / D = q at *
  generalize x % D = r at *
  rcases sg_cases q with ⟨_, a2, a3⟩ | ⟨_, a2, a3⟩ | ⟨_, a2, a3⟩
  · have : D * q ≤ 1 * q := Int.mul_le_mul_of_nonpos_right (by omega) (by omega)
    have : x < 0 := by
      have : D * q ≤ D * (-1) := Int.mul_le_mul_of_nonneg_left (by omega) (by omega)
      omega
    have hx : ab x = -x := by unfold ab; rw [if_pos this]
    rw [a3, hx]
    have : (D - 1) * (q + 1) ≤ 0 := Int.mul_nonpos_of_nonneg_of_nonpos (by omega) (by omega)
    rw [Int.sub_mul, Int.mul_add] at this
    omega
  · rw [a3]; exact ab_nonneg x
  · have : 1 * q ≤ D * q := Int.mul_le_mul_of_nonneg_right (by omega) (by omega)
    have hx : ab x = x := by unfold ab; rw [if_neg (by omega)]
    rw [a3, hx]
    omega
theorem gcd_bd {a b : Int} {k : Nat} (h1 : ab a < 1048576 ^ k) (h2 : ab b < 1048576 ^ k) : ab (Int.gcd a b : Int) < 1048576 ^ k := by
  have e : ab (Int.gcd a b : Int) = Int.gcd a b := by unfold ab; rw [if_neg (by omega)]
  rw [e]
  by_cases ha : a = 0
  · subst ha
    rw [Int.gcd_zero_left, ← ab_nat]; exact h2
  · have hd := Int.gcd_dvd_left a b
    have : (Int.gcd a b : Int) ≤ ab a := by
      rw [ab_nat]
      have := Int.natAbs_dvd_natAbs.2 hd
      rw [Int.natAbs_natCast] at this
      have := Nat.le_of_dvd (by omega) this
      omega
    omega
end Go.Proofs.YthibhamepjhfjaaGreatDoor

namespace Go.Proofs.YthibhamepjhfjaaGreatDoor
open Go.RowKit Go.Ab
def rf (p q : Int) : Prop := rz p ∧ rz q ∧ 0 < q ∧ Int.gcd p q = 1
def np (p q : Int) : Int := sg q * p / (Int.gcd p q : Int)
def nq (p q : Int) : Int := ab q / (Int.gcd p q : Int)
theorem cop_dvd {a b c : Int} (h : Int.gcd a b = 1) (hd : a ∣ b * c) : a ∣ c := by
  rw [← Int.natAbs_dvd_natAbs] at hd ⊢
  rw [Int.natAbs_mul] at hd
  exact Nat.Coprime.dvd_of_dvd_mul_left h hd
theorem low_uniq {x y u v : Int} (hy : 0 < y) (h1 : Int.gcd x y = 1) (hv : 0 < v) (h2 : Int.gcd u v = 1) (h : x * v = u * y) : x = u ∧ y = v := by
  have d1 : y ∣ v := cop_dvd (b := x) (by rw [Int.gcd_comm]; exact h1) ⟨u, by rw [h, Int.mul_comm]⟩
  have d2 : v ∣ y := cop_dvd (b := u) (by rw [Int.gcd_comm]; exact h2) ⟨x, by rw [← h, Int.mul_comm]⟩
  have e : y = v := Int.dvd_antisymm (by omega) (by omega) d1 d2
  subst e
  exact ⟨Int.eq_of_mul_eq_mul_right (by omega) h, rfl⟩
theorem gcd_pos {p q : Int} (hq : q ≠ 0) : 0 < (Int.gcd p q : Int) := by
  have : Int.gcd p q ≠ 0 := fun e => hq (Int.gcd_eq_zero_iff.1 e).2
  omega
theorem gcd_sg {p q : Int} (hq : q ≠ 0) : Int.gcd (sg q * p) (ab q) = Int.gcd p q := by
  rcases sg_cases q with ⟨h, _, h2⟩ | ⟨_, h, _⟩ | ⟨h, _, h2⟩
  · rw [h, h2, Int.neg_one_mul, Int.neg_gcd, Int.gcd_neg]
  · exact absurd h hq
  · rw [h, h2, Int.one_mul]
theorem low_spec {p q : Int} (hq : q ≠ 0) : 0 < nq p q ∧ Int.gcd (np p q) (nq p q) = 1 ∧ np p q * q = p * nq p q ∧ ab (np p q) ≤ ab p ∧ nq p q ≤ ab q ∧ np p q * (Int.gcd p q : Int) = sg q * p ∧ nq p q * (Int.gcd p q : Int) = ab q := by
  have hg := gcd_pos (p := p) hq
  have d1 : (Int.gcd p q : Int) ∣ sg q * p := Int.dvd_trans (Int.gcd_dvd_left p q) ⟨sg q, by rw [Int.mul_comm]⟩
  have d2 : (Int.gcd p q : Int) ∣ ab q := by
    have := Int.gcd_dvd_right p q
    rcases sg_cases q with ⟨h, _, h2⟩ | ⟨_, h, h2⟩ | ⟨h, _, h2⟩ <;> rw [h2]
    · exact Int.dvd_neg.2 this
    · exact ⟨0, by simp⟩
    · exact this
  have e1 : np p q * (Int.gcd p q : Int) = sg q * p := Int.ediv_mul_cancel d1
  have e2 : nq p q * (Int.gcd p q : Int) = ab q := Int.ediv_mul_cancel d2
  have hgs := gcd_sg (p := p) hq
  have hc : Int.gcd (np p q) (nq p q) = 1 := by
    have := @Int.gcd_ediv_gcd_ediv_gcd (sg q * p) (ab q) (by rw [hgs]; omega)
    rwa [hgs] at this
  have haq : 0 < ab q := by rcases sg_cases q with h | h | h <;> omega
  have h0 : 0 < nq p q := by
    refine Decidable.byContradiction fun hn => ?_
    have := Int.mul_le_mul_of_nonneg_right (show nq p q ≤ 0 by omega) (show 0 ≤ (Int.gcd p q : Int) by omega)
    omega
  refine ⟨h0, hc, ?_, ?_, ?_, e1, e2⟩
  · have hqs : q = sg q * ab q := (sg_ab q).symm
    rw [show np p q * q = np p q * (sg q * ab q) by rw [← hqs], ← e2]
    rw [show np p q * (sg q * (nq p q * (Int.gcd p q : Int))) = sg q * nq p q * (np p q * (Int.gcd p q : Int)) by grind, e1]
    rcases sg_cases q with ⟨h, _, h2⟩ | ⟨_, h, _⟩ | ⟨h, _, h2⟩
    · rw [h]; grind
    · exact absurd h hq
    · rw [h]; grind
  · have e3 : ab (np p q) * (Int.gcd p q : Int) = ab p := by
      have e4 : ab (Int.gcd p q : Int) = (Int.gcd p q : Int) := by unfold ab; rw [if_neg (by omega)]
      have := congrArg ab e1
      rw [ab_mul, e4, ab_mul] at this
      rw [this]
      have : ab (sg q) = 1 := by
        rcases sg_cases q with ⟨h, _, h2⟩ | ⟨_, h, _⟩ | ⟨h, _, h2⟩
        · rw [h]; rfl
        · exact absurd h hq
        · rw [h]; rfl
      rw [this, Int.one_mul]
    have := Int.mul_le_mul_of_nonneg_left (show 1 ≤ (Int.gcd p q : Int) by omega) (ab_nonneg (np p q))
    omega
  · have := Int.mul_le_mul_of_nonneg_left (show 1 ≤ (Int.gcd p q : Int) by omega) (show 0 ≤ nq p q by omega)
    omega
end Go.Proofs.YthibhamepjhfjaaGreatDoor

