import Derived.Test.YtebinaffldlihaaGreatDoorBigJ
set_option linter.all false
namespace Go.Proofs.YtebinaffldlihaaGreatDoor
open Go.RowKit Go.Ab
attribute [local irreducible] AWP Go.Ab.Sub Means MeansH CallK CallG CallT CallGT
theorem wu {x : Int} (h1 : 0 ≤ x) (h2 : x < 18446744073709551616) : IntKind.u64.wrap x = x := by
  unfold IntKind.wrap
  simp [IntKind.bits, IntKind.signed]
  omega
theorem wun {n : Int} (h1 : -9223372036854775808 ≤ n) (h2 : n < 0) : IntKind.u64.wrap (-(IntKind.u64.wrap n)) = -n := by
  unfold IntKind.wrap
  simp [IntKind.bits, IntKind.signed]
  omega
theorem pP {x : Int} (h1 : 0 ≤ x) (h2 : x < 18446744073709551616) : andI .u64 x 1048575 = x % 1048576 := by
  unfold andI
  rw [BitVec.toNat_and, BitVec.toNat_ofInt, BitVec.toNat_ofInt]
  show IntKind.u64.wrap (((x % (2 ^ 64 : Nat)).toNat &&& ((1048575 : Int) % (2 ^ 64 : Nat)).toNat : Nat) : Int) = _
  rw [show ((1048575 : Int) % (2 ^ 64 : Nat)).toNat = 1048575 by decide, nQ, wu (by omega) (by omega)]
  omega
set_option maxHeartbeats 4000000 in
set_option maxRecDepth 20000 in
theorem l0 (n : Int) (hn : -9223372036854775808 ≤ n ∧ n ≤ 9223372036854775807) : Means false Tryz.prog 31 [ii n] (bigZ n) := by
  have hab := aV n
  have hlo : (dg (ab n)).length ≤ 4 := by
    rw [aP]
    have : ab n ≤ 9223372036854775808 := by unfold ab; split <;> omega
    have : (1048576 : Int) ^ 4 = 1208925819614629174706176 := by decide
    omega
  refine aK false 25 [.cell 2 24] Tryz.func31 rfl rfl rfl (by simp) (by decide) rfl fun X hX => ?_
  (repeat (first | refine aC ?_ | refine a7 ?_ | ((first | refine a8 [0, 2, 3, 4, 5, 9, 13] hX ?_ | refine a6 [0, 2, 3, 4, 5, 9, 13] hX mixed ?_ | refine aD ?_ | refine aA ?_ | refine aB ?_); (simp [go_sem]; try (refine ⟨by kernel_rfl, ?_⟩)))))
  refine eL ⟨mkE [(2, .el 0 2 0 0), (3, ii (if n < 0 then -1 else 1)), (4, uu (ab n))], [.row ⟨24, 2, [.agg [ii 0, .nil]]⟩]⟩ ?_ ?_
  · refine aG (b := decide (n < 0)) (by simp [go_sem]) (fun hd => ?_) (fun hd => ?_)
    · simp only [decide_eq_true_eq] at hd
      have hw := wun hn.1 hd
      have hae : ab n = -n := by unfold ab; rw [if_pos hd]
      (repeat (first | refine aC ?_ | refine a7 ?_ | ((first | refine a8 [0, 2, 3, 4, 5, 9, 13] hX ?_ | refine a6 [0, 2, 3, 4, 5, 9, 13] hX mixed ?_ | refine aD ?_ | refine aA ?_ | refine aB ?_); (simp [go_sem, hw, hd, hae]; try (refine ⟨by kernel_rfl, ?_⟩)))))
      refine aL _ [.old 0 ⟨24, 2, [.agg [ii 0, .nil]]⟩] (by simp [go_sem]) ?_
      simp [go_sem, hw, hd, hae]
    · simp only [decide_eq_false_iff_not] at hd
      have hae : ab n = n := by unfold ab; rw [if_neg hd]
      have hw := wu (x := n) (by omega) (by omega)
      (repeat (first | refine aC ?_ | refine a7 ?_ | ((first | refine a8 [0, 2, 3, 4, 5, 9, 13] hX ?_ | refine a6 [0, 2, 3, 4, 5, 9, 13] hX mixed ?_ | refine aD ?_ | refine aA ?_ | refine aB ?_); (simp [go_sem, hd, hae, hw]; try (refine ⟨by kernel_rfl, ?_⟩)))))
      refine aL _ [.old 0 ⟨24, 2, [.agg [ii 0, .nil]]⟩] (by simp [go_sem]) ?_
      simp [go_sem, hd, hae, hw]
  · try (simp [go_sem]; try (refine ⟨by kernel_rfl, ?_⟩))
    (repeat (first | refine aC ?_ | refine a7 ?_ | ((first | refine a8 [0, 2, 3, 4, 5, 9, 13] hX ?_ | refine a6 [0, 2, 3, 4, 5, 9, 13] hX mixed ?_ | refine aD ?_ | refine aA ?_ | refine aB ?_); (simp [go_sem]; try (refine ⟨by kernel_rfl, ?_⟩)))))
    refine aQ (fun x : Int × List Int => ⟨mkE [(2, .el 0 2 0 0), (3, ii (if n < 0 then -1 else 1)), (4, uu x.1), (5, .ow 1)], [.row ⟨24, 2, [.agg [ii 0, .nil]]⟩, .row ⟨3, 1, x.2.map ii⟩]⟩)
      (fun x => 0 ≤ x.1 ∧ x.1 ≤ 9223372036854775808 ∧ x.2 ++ dg x.1 = dg (ab n)) (fun x => x.1.toNat) (ab n, []) ?_ ?_ ?_
    · refine aL _ [.old 0 ⟨24, 2, [.agg [ii 0, .nil]]⟩, .birth 3 1] (by simp [go_sem]) ?_
      simp [go_sem]
    · exact ⟨hab, by show ab n ≤ _; unfold ab; split <;> omega, by simp⟩
    · rintro ⟨u, L⟩ ⟨hu, hu2, hE⟩
      simp only [] at hu hu2 hE
      (repeat (first | refine aC ?_ | refine a7 ?_ | ((first | refine a8 [0, 2, 3, 4, 5, 9, 13] hX ?_ | refine a6 [0, 2, 3, 4, 5, 9, 13] hX mixed ?_ | refine aD ?_ | refine aA ?_ | refine aB ?_); (simp [go_sem]; try (refine ⟨by kernel_rfl, ?_⟩)))))
      refine aG (b := decide (0 < u)) (by simp [go_sem]) (fun hd => ?_) (fun hd => ?_)
      · simp only [decide_eq_true_eq] at hd
        have ham := pP hu (by omega)
        have hLl : L.length ≤ 4 := by have := congrArg List.length hE; simp at this; omega
        (repeat (first | refine aC ?_ | refine a7 ?_ | ((first | refine a8 [0, 2, 3, 4, 5, 9, 13] hX ?_ | refine a6 [0, 2, 3, 4, 5, 9, 13] hX mixed ?_ | refine aD ?_ | refine aA ?_ | refine aB ?_); (simp [go_sem, ham]; (try simp (disch := omega) only [w64, td, tm]); try (refine ⟨by kernel_rfl, ?_⟩)))))
        refine ⟨⟨by omega, by unfold maxLen; omega⟩, ?_⟩
        (repeat (first | refine aC ?_ | refine a7 ?_ | ((first | refine a8 [0, 2, 3, 4, 5, 9, 13] hX ?_ | refine a6 [0, 2, 3, 4, 5, 9, 13] hX mixed ?_ | refine aD ?_ | refine aA ?_ | refine aB ?_); (simp [go_sem]; (try simp (disch := omega) only [w64, td, tm]); try (refine ⟨by kernel_rfl, ?_⟩)))))
        refine ⟨u / 1048576, L ++ [u % 1048576], ⟨by omega, by omega, by rw [← hE, dP hd]; simp⟩, by omega, ?_⟩
        refine aL _ [.old 0 ⟨24, 2, [.agg [ii 0, .nil]]⟩, .old 3 ⟨3, 1, (L ++ [u % 1048576]).map ii⟩] (by simp [go_sem]) ?_
        simp [go_sem]
      · simp only [decide_eq_false_iff_not] at hd
        have hu0 : u = 0 := by omega
        subst hu0
        rw [dU, List.append_nil] at hE
        subst hE
        refine w8 (st0 := ⟨mkE [(2, .el 0 2 0 0), (3, ii (if n < 0 then -1 else 1)), (5, il (dg (ab n)))], [.row ⟨24, 2, [.agg [ii 0, .nil]]⟩]⟩) ?_ ?_
        · refine aL _ [.old 0 ⟨24, 2, [.agg [ii 0, .nil]]⟩] (by simp [go_sem]) ?_
          simp [go_sem]
        · have hsgn := bS (if n < 0 then -1 else 1) (dg (ab n)) n (by omega) (aN _) (by rw [aR]) (fun h => by rw [aR] at h; unfold ab at h; unfold sg; split <;> split at h <;> first | rfl | omega | (rw [if_pos (by omega)]))
          (repeat (first | refine aC ?_ | refine a7 ?_ | ((first | refine a8 [0, 2, 3, 4, 5, 9, 13] hX ?_ | refine a6 [0, 2, 3, 4, 5, 9, 13] hX mixed ?_ | refine aD ?_ | refine aA ?_ | refine aB ?_); (simp [go_sem]; (try simp (disch := omega) only [w64, td, tm]); try (refine ⟨by kernel_rfl, ?_⟩)))))
          first | refine aE (hsgn) rfl (by simp [go_sem]) rfl ?_ | refine aF (hsgn) rfl (by simp [go_sem]) rfl ?_
          try (simp [go_sem]; try (refine ⟨by kernel_rfl, ?_⟩))
          (repeat (first | refine aC ?_ | refine a7 ?_ | ((first | refine a8 [0, 2, 3, 4, 5, 9, 13] hX ?_ | refine a6 [0, 2, 3, 4, 5, 9, 13] hX mixed ?_ | refine aD ?_ | refine aA ?_ | refine aB ?_); (simp [go_sem]; try (refine ⟨by kernel_rfl, ?_⟩)))))
theorem zU (k : Nat) {u d : Int} (h1 : 0 ≤ u) (h2 : u < 2 ^ k) (h3 : 0 ≤ d) (h4 : d * 2 ^ k + u < 18446744073709551616) : orI .u64 u (d * 2 ^ k) = u + d * 2 ^ k := by
  obtain ⟨m, rfl⟩ := Int.eq_ofNat_of_zero_le h1
  obtain ⟨n, rfl⟩ := Int.eq_ofNat_of_zero_le h3
  have hm : m < 2 ^ k := by
    have : ((m : Nat) : Int) < ((2 ^ k : Nat) : Int) := by simpa using h2
    omega
  have hnn : (n : Int) * 2 ^ k = ((n * 2 ^ k : Nat) : Int) := by simp
  rw [hnn] at h4 ⊢
  unfold orI
  rw [BitVec.toNat_or, BitVec.toNat_ofInt, BitVec.toNat_ofInt]
  show IntKind.u64.wrap (((((m : Nat) : Int) % (2 ^ 64 : Nat)).toNat ||| ((((n * 2 ^ k : Nat) : Int)) % (2 ^ 64 : Nat)).toNat : Nat) : Int) = _
  rw [show (((n * 2 ^ k : Nat) : Int) % (2 ^ 64 : Nat)).toNat = n <<< k by rw [Nat.shiftLeft_eq]; omega, show (((m : Nat) : Int) % (2 ^ 64 : Nat)).toNat = m by omega,
    Nat.or_comm, ← Nat.shiftLeft_add_eq_or_of_lt hm, Nat.shiftLeft_eq, wu (by omega) (by omega)]
  omega
theorem l3 {L : List Int} {i : Nat} (h : i < L.length) : val (L.take (i + 1)) = val (L.take i) + 1048576 ^ i * L[i] := by
  rw [List.take_succ_eq_append_getElem h, cS, List.length_take, Nat.min_eq_left (by omega)]
  simp [val]
def inI (z : Int) : Bool := decide (-9223372036854775808 ≤ z ∧ z ≤ 9223372036854775807)
set_option maxHeartbeats 4000000 in
set_option maxRecDepth 20000 in
theorem xL (z : Int) (hz : rz z) : Means false Tryz.prog 77 [bigZ z] (.tup [ii (if inI z then z else 0), bb (inI z)]) := by
  have hlz := bB hz
  have hab := aV z
  have hva := aR z
  have hok := aN (ab z)
  refine aK false 59 [.tmp 2, .tmp 3] Tryz.func77 rfl rfl rfl (by simp) (by decide) rfl fun X hX => ?_
  (repeat (first | refine aC ?_ | refine a7 ?_ | ((first | refine a8 [0, 1, 2, 3, 4, 5, 6, 15, 17, 18, 19, 20, 29, 38, 49] hX ?_ | refine a6 [0, 1, 2, 3, 4, 5, 6, 15, 17, 18, 19, 20, 29, 38, 49] hX mixed ?_ | refine aD ?_ | refine aA ?_ | refine aB ?_); (simp [go_sem]; try (refine ⟨by kernel_rfl, ?_⟩)))))
  first | refine aE (aX z hz) rfl (by simp [go_sem]) rfl ?_ | refine aF (aX z hz) rfl (by simp [go_sem]) rfl ?_
  try (simp [go_sem]; try (refine ⟨by kernel_rfl, ?_⟩))
  (repeat (first | refine aC ?_ | refine a7 ?_ | ((first | refine a8 [0, 1, 2, 3, 4, 5, 6, 15, 17, 18, 19, 20, 29, 38, 49] hX ?_ | refine a6 [0, 1, 2, 3, 4, 5, 6, 15, 17, 18, 19, 20, 29, 38, 49] hX mixed ?_ | refine aD ?_ | refine aA ?_ | refine aB ?_); (simp [go_sem]; try (refine ⟨by kernel_rfl, ?_⟩)))))
  refine aG (b := decide (4 < (dg (ab z)).length)) (by simp [go_sem]; try omega) (fun hd => ?_) (fun hd => ?_)
  · simp only [decide_eq_true_eq] at hd
    have : ¬ (dg (ab z)).length ≤ 4 := by omega
    rw [aP] at this
    have h4 : (1048576 : Int) ^ 4 = 1208925819614629174706176 := by decide
    have hin : inI z = false := by
      unfold inI
      rcases aJ z with h | h | h <;> simp <;> omega
    (repeat (first | refine aC ?_ | refine a7 ?_ | ((first | refine a8 [0, 1, 2, 3, 4, 5, 6, 15, 17, 18, 19, 20, 29, 38, 49] hX ?_ | refine a6 [0, 1, 2, 3, 4, 5, 6, 15, 17, 18, 19, 20, 29, 38, 49] hX mixed ?_ | refine aD ?_ | refine aA ?_ | refine aB ?_); (simp [go_sem, hin]; try (refine ⟨by kernel_rfl, ?_⟩)))))
  · simp only [decide_eq_false_iff_not] at hd
    generalize hL : dg (ab z) = L at *
    (repeat (first | refine aC ?_ | refine a7 ?_ | ((first | refine a8 [0, 1, 2, 3, 4, 5, 6, 15, 17, 18, 19, 20, 29, 38, 49] hX ?_ | refine a6 [0, 1, 2, 3, 4, 5, 6, 15, 17, 18, 19, 20, 29, 38, 49] hX mixed ?_ | refine aD ?_ | refine aA ?_ | refine aB ?_); (simp [go_sem]; try (refine ⟨by kernel_rfl, ?_⟩)))))
    refine aQ (fun x : Nat => ⟨mkE [(1, .el 0 2 0 0), (4, uu (val (L.take x))), (17, il L), (18, ii L.length), (19, ii x)], [.row ⟨24, 2, [big2 (sg z) L]⟩]⟩)
      (fun x => x ≤ L.length ∧ (x = 4 → ab z < 10376293541461622784)) (fun x => L.length - x) 0 ?_ ?_ ?_
    · refine aL _ [.old 0 ⟨24, 2, [big2 (sg z) L]⟩] (by simp [go_sem, hL]) ?_
      simp [go_sem, val, hL]
    · exact ⟨Nat.zero_le _, fun h => by omega⟩
    · rintro i ⟨hi, hi4⟩
      (repeat (first | refine aC ?_ | refine a7 ?_ | ((first | refine a8 [0, 1, 2, 3, 4, 5, 6, 15, 17, 18, 19, 20, 29, 38, 49] hX ?_ | refine a6 [0, 1, 2, 3, 4, 5, 6, 15, 17, 18, 19, 20, 29, 38, 49] hX mixed ?_ | refine aD ?_ | refine aA ?_ | refine aB ?_); (simp [go_sem]; try (refine ⟨by kernel_rfl, ?_⟩)))))
      refine aG (b := decide (i < L.length)) (by simp [go_sem]) (fun hd2 => ?_) (fun hd2 => ?_)
      · simp at hd2
        have hx := b7 hok hd2
        have hlt := c7 (bC hok i)
        have hge := aT (bC hok i)
        rw [List.length_take, Nat.min_eq_left hi] at hlt
        have hvs := l3 hd2
        have hpw : (1048576 : Int) ^ i = 2 ^ (20 * i) := by rw [Int.pow_mul]; rfl
        have hvs2 : val (L.take (i + 1)) = val (L.take i) + L[i] * 2 ^ (20 * i) := by rw [hvs, hpw, Int.mul_comm]
        have hw1 := wu (x := L[i]) (by omega) (by omega)
        have hw2 := w64 (x := 20 * (i : Int)) (by omega) (by omega)
        have hmin : min (20 * (i : Int)).toNat 64 = 20 * i := by omega
        have hpos : (0 : Int) ≤ 20 * i := by omega
        have hgo : (L[i] * 2 ^ (20 * i) + val (L.take i) < 18446744073709551616) →
            True := fun _ => trivial
        clear hgo
        have hsmall : i ≤ 2 → L[i] * 2 ^ (20 * i) + val (L.take i) < 18446744073709551616 ∧ L[i] * 2 ^ (20 * i) < 18446744073709551616 := by
          intro h
          have : i = 0 ∨ i = 1 ∨ i = 2 := by omega
          rcases this with rfl | rfl | rfl <;> simp at hlt ⊢ <;> omega
        by_cases h3 : i = 3
        · have h3i : (i : Int) = 3 := by omega
          have e1 := eq_true h3
          have e2 := eq_true h3i
          have hp60 : (2 : Int) ^ (20 * i) = 1152921504606846976 := by rw [h3]; decide
          rw [hpw, hp60] at hlt
          have hLv : val (L.take (i + 1)) = ab z := by rw [← hva, List.take_of_length_le (by omega)]
          rw [hp60] at hvs2
          by_cases h8 : 8 < L[i]
          · have hin : inI z = false := by
              unfold inI
              rcases aJ z with h | h | h <;> simp <;> omega
            (repeat (first | refine aC ?_ | refine a7 ?_ | ((first | refine a8 [0, 1, 2, 3, 4, 5, 6, 15, 17, 18, 19, 20, 29, 38, 49] hX ?_ | refine a6 [0, 1, 2, 3, 4, 5, 6, 15, 17, 18, 19, 20, 29, 38, 49] hX mixed ?_ | refine aD ?_ | refine aA ?_ | refine aB ?_); (simp [go_sem, hd2, e1, e2, h8]; try (refine ⟨by kernel_rfl, ?_⟩)))))
            try (simp [go_sem, hd2, e1, e2, h8]; try (refine ⟨by kernel_rfl, ?_⟩))
            (repeat (first | refine aC ?_ | refine a7 ?_ | ((first | refine a8 [0, 1, 2, 3, 4, 5, 6, 15, 17, 18, 19, 20, 29, 38, 49] hX ?_ | refine a6 [0, 1, 2, 3, 4, 5, 6, 15, 17, 18, 19, 20, 29, 38, 49] hX mixed ?_ | refine aD ?_ | refine aA ?_ | refine aB ?_); (simp [go_sem, e1, e2, h8]; (try simp (disch := omega) only [w64, td, tm]); try (refine ⟨by kernel_rfl, ?_⟩)))))
            try (simp [go_sem, e1, e2, h8]; try (refine ⟨by kernel_rfl, ?_⟩))
            refine aG (b := true) (by simp [go_sem]) (fun _ => ?_) (fun h => by cases h)
            (repeat (first | refine aC ?_ | refine a7 ?_ | ((first | refine a8 [0, 1, 2, 3, 4, 5, 6, 15, 17, 18, 19, 20, 29, 38, 49] hX ?_ | refine a6 [0, 1, 2, 3, 4, 5, 6, 15, 17, 18, 19, 20, 29, 38, 49] hX mixed ?_ | refine aD ?_ | refine aA ?_ | refine aB ?_); (simp [go_sem, hin]; try (refine ⟨by kernel_rfl, ?_⟩)))))
          · have hp2 : (0 : Int) ≤ L[i] * 2 ^ (20 * i) := Int.mul_nonneg hx.1 (Int.le_of_lt (Int.pow_pos (by decide)))
            have hor := zU (20 * i) (u := val (L.take i)) (d := L[i]) hge (by rw [hp60]; exact hlt) hx.1 (by rw [hp60]; omega)
            have hw3 := wu (x := L[i] * 2 ^ (20 * i)) hp2 (by rw [hp60]; omega)
            (repeat (first | refine aC ?_ | refine a7 ?_ | ((first | refine a8 [0, 1, 2, 3, 4, 5, 6, 15, 17, 18, 19, 20, 29, 38, 49] hX ?_ | refine a6 [0, 1, 2, 3, 4, 5, 6, 15, 17, 18, 19, 20, 29, 38, 49] hX mixed ?_ | refine aD ?_ | refine aA ?_ | refine aB ?_); (simp [go_sem, hd2, e1, e2, h8]; try (refine ⟨by kernel_rfl, ?_⟩)))))
            try (simp [go_sem, hd2, e1, e2, h8]; try (refine ⟨by kernel_rfl, ?_⟩))
            (repeat (first | refine aC ?_ | refine a7 ?_ | ((first | refine a8 [0, 1, 2, 3, 4, 5, 6, 15, 17, 18, 19, 20, 29, 38, 49] hX ?_ | refine a6 [0, 1, 2, 3, 4, 5, 6, 15, 17, 18, 19, 20, 29, 38, 49] hX mixed ?_ | refine aD ?_ | refine aA ?_ | refine aB ?_); (simp [go_sem, e1, e2, h8]; (try simp (disch := omega) only [w64, td, tm]); try (refine ⟨by kernel_rfl, ?_⟩)))))
            try (simp [go_sem, e1, e2, h8]; try (refine ⟨by kernel_rfl, ?_⟩))
            refine aG (b := false) (by simp [go_sem]) (fun h => by cases h) (fun _ => ?_)
            (repeat (first | refine aC ?_ | refine a7 ?_ | ((first | refine a8 [0, 1, 2, 3, 4, 5, 6, 15, 17, 18, 19, 20, 29, 38, 49] hX ?_ | refine a6 [0, 1, 2, 3, 4, 5, 6, 15, 17, 18, 19, 20, 29, 38, 49] hX mixed ?_ | refine aD ?_ | refine aA ?_ | refine aB ?_); (simp [go_sem, hw1, hw2, hmin, hpos, hw3, hor]; (try simp (disch := omega) only [w64, td, tm]); try (refine ⟨by kernel_rfl, ?_⟩)))))
            try (simp [go_sem, hw1, hw2, hmin, hpos, hw3, hor]; try (refine ⟨by kernel_rfl, ?_⟩))
            refine ⟨i + 1, ⟨by omega, fun _ => by omega⟩, by omega, ?_⟩
            rw [← hp60] at hvs2
            refine aL _ [.old 0 ⟨24, 2, [big2 (sg z) L]⟩] (by simp [go_sem, hL]) ?_
            simp [go_sem, hvs2, hL]
        · have h3i : ¬ (i : Int) = 3 := by omega
          obtain ⟨hs1, hs2⟩ := hsmall (by omega)
          have hp2 : (0 : Int) ≤ L[i] * 2 ^ (20 * i) := Int.mul_nonneg hx.1 (Int.le_of_lt (Int.pow_pos (by decide)))
          have hor := zU (20 * i) (u := val (L.take i)) (d := L[i]) hge (by rw [← hpw]; exact hlt) hx.1 hs1
          have hw3 := wu (x := L[i] * 2 ^ (20 * i)) hp2 hs2
          (repeat (first | refine aC ?_ | refine a7 ?_ | ((first | refine a8 [0, 1, 2, 3, 4, 5, 6, 15, 17, 18, 19, 20, 29, 38, 49] hX ?_ | refine a6 [0, 1, 2, 3, 4, 5, 6, 15, 17, 18, 19, 20, 29, 38, 49] hX mixed ?_ | refine aD ?_ | refine aA ?_ | refine aB ?_); (simp [go_sem, hd2, h3i]; try (refine ⟨by kernel_rfl, ?_⟩)))))
          try (simp [go_sem, hd2, h3i]; try (refine ⟨by kernel_rfl, ?_⟩))
          (repeat (first | refine aC ?_ | refine a7 ?_ | ((first | refine a8 [0, 1, 2, 3, 4, 5, 6, 15, 17, 18, 19, 20, 29, 38, 49] hX ?_ | refine a6 [0, 1, 2, 3, 4, 5, 6, 15, 17, 18, 19, 20, 29, 38, 49] hX mixed ?_ | refine aD ?_ | refine aA ?_ | refine aB ?_); (simp [go_sem]; (try simp (disch := omega) only [w64, td, tm]); try (refine ⟨by kernel_rfl, ?_⟩)))))
          refine aG (b := false) (by simp [go_sem]) (fun h => by cases h) (fun _ => ?_)
          (repeat (first | refine aC ?_ | refine a7 ?_ | ((first | refine a8 [0, 1, 2, 3, 4, 5, 6, 15, 17, 18, 19, 20, 29, 38, 49] hX ?_ | refine a6 [0, 1, 2, 3, 4, 5, 6, 15, 17, 18, 19, 20, 29, 38, 49] hX mixed ?_ | refine aD ?_ | refine aA ?_ | refine aB ?_); (simp [go_sem, hw1, hw2, hmin, hpos, hw3, hor]; (try simp (disch := omega) only [w64, td, tm]); try (refine ⟨by kernel_rfl, ?_⟩)))))
          try (simp [go_sem, hw1, hw2, hmin, hpos, hw3, hor]; try (refine ⟨by kernel_rfl, ?_⟩))
          refine ⟨i + 1, ⟨by omega, fun h => by omega⟩, by omega, ?_⟩
          refine aL _ [.old 0 ⟨24, 2, [big2 (sg z) L]⟩] (by simp [go_sem, hL]) ?_
          simp [go_sem, hvs2, hL]
      · have hil : i = L.length := by simp at hd2; omega
        subst hil
        rw [List.take_length, hva]
        have hbd : ab z < 10376293541461622784 := by
          by_cases h4 : L.length = 4
          · exact hi4 h4
          · have := c7 hok
            rw [hva] at this
            have hle : (1048576 : Int) ^ L.length ≤ 1048576 ^ 3 := by
              have : L.length = 0 ∨ L.length = 1 ∨ L.length = 2 ∨ L.length = 3 := by omega
              rcases this with h | h | h | h <;> rw [h] <;> decide
            have h3 : (1048576 : Int) ^ 3 = 1152921504606846976 := by decide
            omega
        have hwn : 0 ≤ ab z → ab z ≤ 9223372036854775808 → sg z < 0 → IntKind.i64.wrap (IntKind.u64.wrap (-ab z)) = z := by
          intro _ h1 h2
          have : ab z = -z := by rcases aJ z with h | h | h <;> omega
          unfold IntKind.wrap
          simp [IntKind.bits, IntKind.signed]
          omega
        by_cases hs : sg z < 0
        · have hz0 : ab z = -z := by rcases aJ z with h | h | h <;> omega
          by_cases hle : ab z ≤ 9223372036854775808
          · have hw := hwn hab hle hs
            have hin : inI z = true := by unfold inI; simp; omega
            (repeat (first | refine aC ?_ | refine a7 ?_ | ((first | refine a8 [0, 1, 2, 3, 4, 5, 6, 15, 17, 18, 19, 20, 29, 38, 49] hX ?_ | refine a6 [0, 1, 2, 3, 4, 5, 6, 15, 17, 18, 19, 20, 29, 38, 49] hX mixed ?_ | refine aD ?_ | refine aA ?_ | refine aB ?_); (simp [go_sem, hs, hle]; try (refine ⟨by kernel_rfl, ?_⟩)))))
            refine aG (b := true) (by simp [go_sem]) (fun _ => ?_) (fun h => by cases h)
            (repeat (first | refine aC ?_ | refine a7 ?_ | ((first | refine a8 [0, 1, 2, 3, 4, 5, 6, 15, 17, 18, 19, 20, 29, 38, 49] hX ?_ | refine a6 [0, 1, 2, 3, 4, 5, 6, 15, 17, 18, 19, 20, 29, 38, 49] hX mixed ?_ | refine aD ?_ | refine aA ?_ | refine aB ?_); (simp [go_sem, hw, hin]; try (refine ⟨by kernel_rfl, ?_⟩)))))
          · have hin : inI z = false := by unfold inI; simp; omega
            have hs2 : ¬ 0 ≤ sg z := by omega
            (repeat (first | refine aC ?_ | refine a7 ?_ | ((first | refine a8 [0, 1, 2, 3, 4, 5, 6, 15, 17, 18, 19, 20, 29, 38, 49] hX ?_ | refine a6 [0, 1, 2, 3, 4, 5, 6, 15, 17, 18, 19, 20, 29, 38, 49] hX mixed ?_ | refine aD ?_ | refine aA ?_ | refine aB ?_); (simp [go_sem, hs, hle]; try (refine ⟨by kernel_rfl, ?_⟩)))))
            refine aG (b := false) (by simp [go_sem]) (fun h => by cases h) (fun _ => ?_)
            (repeat (first | refine aC ?_ | refine a7 ?_ | ((first | refine a8 [0, 1, 2, 3, 4, 5, 6, 15, 17, 18, 19, 20, 29, 38, 49] hX ?_ | refine a6 [0, 1, 2, 3, 4, 5, 6, 15, 17, 18, 19, 20, 29, 38, 49] hX mixed ?_ | refine aD ?_ | refine aA ?_ | refine aB ?_); (simp [go_sem, hs2]; try (refine ⟨by kernel_rfl, ?_⟩)))))
            refine aG (b := false) (by simp [go_sem]) (fun h => by cases h) (fun _ => ?_)
            (repeat (first | refine aC ?_ | refine a7 ?_ | ((first | refine a8 [0, 1, 2, 3, 4, 5, 6, 15, 17, 18, 19, 20, 29, 38, 49] hX ?_ | refine a6 [0, 1, 2, 3, 4, 5, 6, 15, 17, 18, 19, 20, 29, 38, 49] hX mixed ?_ | refine aD ?_ | refine aA ?_ | refine aB ?_); (simp [go_sem, hin]; try (refine ⟨by kernel_rfl, ?_⟩)))))
        · have hz0 : ab z = z := by rcases aJ z with h | h | h <;> omega
          have hs2 : 0 ≤ sg z := by omega
          by_cases hle : ab z < 9223372036854775808
          · have hw := w64 (x := ab z) (by omega) (by omega)
            rw [hz0] at hw
            have hin : inI z = true := by unfold inI; simp; omega
            (repeat (first | refine aC ?_ | refine a7 ?_ | ((first | refine a8 [0, 1, 2, 3, 4, 5, 6, 15, 17, 18, 19, 20, 29, 38, 49] hX ?_ | refine a6 [0, 1, 2, 3, 4, 5, 6, 15, 17, 18, 19, 20, 29, 38, 49] hX mixed ?_ | refine aD ?_ | refine aA ?_ | refine aB ?_); (simp [go_sem, hs]; try (refine ⟨by kernel_rfl, ?_⟩)))))
            refine aG (b := false) (by simp [go_sem]) (fun h => by cases h) (fun _ => ?_)
            (repeat (first | refine aC ?_ | refine a7 ?_ | ((first | refine a8 [0, 1, 2, 3, 4, 5, 6, 15, 17, 18, 19, 20, 29, 38, 49] hX ?_ | refine a6 [0, 1, 2, 3, 4, 5, 6, 15, 17, 18, 19, 20, 29, 38, 49] hX mixed ?_ | refine aD ?_ | refine aA ?_ | refine aB ?_); (simp [go_sem, hs2, hle]; try (refine ⟨by kernel_rfl, ?_⟩)))))
            refine aG (b := true) (by simp [go_sem]) (fun _ => ?_) (fun h => by cases h)
            (repeat (first | refine aC ?_ | refine a7 ?_ | ((first | refine a8 [0, 1, 2, 3, 4, 5, 6, 15, 17, 18, 19, 20, 29, 38, 49] hX ?_ | refine a6 [0, 1, 2, 3, 4, 5, 6, 15, 17, 18, 19, 20, 29, 38, 49] hX mixed ?_ | refine aD ?_ | refine aA ?_ | refine aB ?_); (simp [go_sem, hz0, hw, hin]; try (refine ⟨by kernel_rfl, ?_⟩)))))
          · have hin : inI z = false := by unfold inI; simp; omega
            (repeat (first | refine aC ?_ | refine a7 ?_ | ((first | refine a8 [0, 1, 2, 3, 4, 5, 6, 15, 17, 18, 19, 20, 29, 38, 49] hX ?_ | refine a6 [0, 1, 2, 3, 4, 5, 6, 15, 17, 18, 19, 20, 29, 38, 49] hX mixed ?_ | refine aD ?_ | refine aA ?_ | refine aB ?_); (simp [go_sem, hs]; try (refine ⟨by kernel_rfl, ?_⟩)))))
            refine aG (b := false) (by simp [go_sem]) (fun h => by cases h) (fun _ => ?_)
            (repeat (first | refine aC ?_ | refine a7 ?_ | ((first | refine a8 [0, 1, 2, 3, 4, 5, 6, 15, 17, 18, 19, 20, 29, 38, 49] hX ?_ | refine a6 [0, 1, 2, 3, 4, 5, 6, 15, 17, 18, 19, 20, 29, 38, 49] hX mixed ?_ | refine aD ?_ | refine aA ?_ | refine aB ?_); (simp [go_sem, hs2, hle]; try (refine ⟨by kernel_rfl, ?_⟩)))))
            refine aG (b := false) (by simp [go_sem]) (fun h => by cases h) (fun _ => ?_)
            (repeat (first | refine aC ?_ | refine a7 ?_ | ((first | refine a8 [0, 1, 2, 3, 4, 5, 6, 15, 17, 18, 19, 20, 29, 38, 49] hX ?_ | refine a6 [0, 1, 2, 3, 4, 5, 6, 15, 17, 18, 19, 20, 29, 38, 49] hX mixed ?_ | refine aD ?_ | refine aA ?_ | refine aB ?_); (simp [go_sem, hin]; try (refine ⟨by kernel_rfl, ?_⟩)))))
end Go.Proofs.YtebinaffldlihaaGreatDoor
