/-
  Layer 37: sums and multiples of rates.
-/
import Derived.Test.YtlcmmaokfbjojaaPreE
import Derived.Test.YtlcmmaokfbjojaaSplL
set_option linter.all false
namespace Go.Proofs.Ytlcmmaokfbjojaa
open Go.RowKit Go.Ab
attribute [local irreducible] AWP Go.Ab.Sub Means MeansH CallK CallG CallT CallGT CallU

theorem low_bd {p q : Int} (h0 : 0 ≤ p) (hq : 0 < q) : 0 ≤ np p q ∧ np p q ≤ p ∧ 1 ≤ nq p q ∧ nq p q ≤ q ∧ np p q * q = p * nq p q := by
  obtain ⟨a1, _, a3, a4, a5, _⟩ := low_spec (p := p) (q := q) (by omega)
  have e1 : ab p = p := by unfold ab; rw [if_neg (by omega)]
  have e2 : ab q = q := by unfold ab; rw [if_neg (by omega)]
  have h1 : 0 ≤ np p q := by
    refine Int.not_lt.1 fun h => ?_
    have := Int.mul_neg_of_neg_of_pos h hq
    have := Int.mul_nonneg h0 (show 0 ≤ nq p q by omega)
    omega
  have e3 : ab (np p q) = np p q := by unfold ab; rw [if_neg (by omega)]
  exact ⟨h1, by omega, by omega, by omega, a3⟩
theorem mul_small {a b A B : Int} (h1 : 0 ≤ a ∧ a ≤ A) (h2 : 0 ≤ b ∧ b ≤ B) : 0 ≤ a * b ∧ a * b ≤ A * B :=
  ⟨Int.mul_nonneg h1.1 h2.1, Int.mul_le_mul h1.2 h2.2 h2.1 (by omega)⟩

theorem add_rt (c S P w : Int) (hS : 1 ≤ S ∧ S ≤ 60060) (hP : 0 ≤ c * P ∧ c * P ≤ 100000000000000000) (hw : 0 ≤ c * w ∧ c * w ≤ 100000000000000000) :
    Means false Try.prog 17 [fz (rt c S P), fz (rt c S w)] (.tup [fz (rt c S (P + w)), ii 0]) := by
  have z1 : rz (c * P) := rz_c (by unfold ab; split <;> omega)
  have z2 : rz (c * w) := rz_c (by unfold ab; split <;> omega)
  have zS : rz S := rz_c (by unfold ab; split <;> omega)
  have f1 := low_rf z1 zS (show S ≠ 0 by omega)
  have f2 := low_rf z2 zS (show S ≠ 0 by omega)
  have h := Add_f _ _ _ _ f1 f2
  obtain ⟨a1, a2, a3, a4, a5⟩ := low_bd hP.1 (show 0 < S by omega)
  obtain ⟨b1, b2, b3, b4, b5⟩ := low_bd hw.1 (show 0 < S by omega)
  have key : np (np (c * P) S * nq (c * w) S + np (c * w) S * nq (c * P) S) (nq (c * P) S * nq (c * w) S) = np (c * (P + w)) S ∧ nq (np (c * P) S * nq (c * w) S + np (c * w) S * nq (c * P) S) (nq (c * P) S * nq (c * w) S) = nq (c * (P + w)) S := by
    generalize np (c * P) S = x at *
    generalize nq (c * P) S = y at *
    generalize np (c * w) S = u at *
    generalize nq (c * w) S = v at *
    refine low_eq ?_ (by omega) ?_
    · have := Int.mul_pos (show 0 < y by omega) (show 0 < v by omega); omega
    · have e1 : x * v * S = c * P * (y * v) := by rw [Int.mul_assoc, Int.mul_comm v S, ← Int.mul_assoc, a5, Int.mul_assoc (c * P)]
      have e2 : u * y * S = c * w * (y * v) := by rw [Int.mul_assoc, Int.mul_comm y S, ← Int.mul_assoc, b5, Int.mul_assoc (c * w), Int.mul_comm v y]
      rw [Int.add_mul, e1, e2, ← Int.add_mul, ← Int.mul_add]
  have ok : sumP (np (c * P) S) (nq (c * w) S) (np (c * w) S) (nq (c * P) S) ∧ rz (nq (c * P) S * nq (c * w) S) := by
    have m1 := mul_small (a := np (c * P) S) (b := nq (c * w) S) (A := 100000000000000000) (B := 60060) (by omega) (by omega)
    have m2 := mul_small (a := np (c * w) S) (b := nq (c * P) S) (A := 100000000000000000) (B := 60060) (by omega) (by omega)
    have m3 := mul_small (a := nq (c * P) S) (b := nq (c * w) S) (A := 60060) (B := 60060) (by omega) (by omega)
    exact ⟨⟨rz_c (by unfold ab; split <;> omega), rz_c (by unfold ab; split <;> omega), rz_c (by unfold ab; split <;> omega)⟩, rz_c (by unfold ab; split <;> omega)⟩
  rw [resF_t ok, key.1, key.2] at h
  exact h
theorem mul_rt (c S w y : Int) (hS : 1 ≤ S ∧ S ≤ 60060) (hw : 0 ≤ c * w ∧ c * w ≤ 100000000000000000) (hy : 0 ≤ y ∧ y ≤ 1000) :
    Means false Try.prog 18 [fz (rt c S w), frZ y 1] (.tup [fz (rt (y * c) S w), ii 0]) := by
  have z2 : rz (c * w) := rz_c (by unfold ab; split <;> omega)
  have zS : rz S := rz_c (by unfold ab; split <;> omega)
  have f2 := low_rf z2 zS (show S ≠ 0 by omega)
  have h := Mul_f _ _ y 1 f2 (rf_one (rz_c (by unfold ab; split <;> omega)))
  obtain ⟨b1, b2, b3, b4, b5⟩ := low_bd hw.1 (show 0 < S by omega)
  have key : np (np (c * w) S * y) (nq (c * w) S * 1) = np (y * c * w) S ∧ nq (np (c * w) S * y) (nq (c * w) S * 1) = nq (y * c * w) S := by
    generalize np (c * w) S = u at *
    generalize nq (c * w) S = v at *
    refine low_eq (by omega) (by omega) ?_
    rw [Int.mul_one, Int.mul_comm u y, Int.mul_assoc y u, b5, Int.mul_assoc y c, Int.mul_assoc y (c * w)]
  have ok : rz (np (c * w) S * y) ∧ rz (nq (c * w) S * 1) := by
    have m1 := mul_small (a := np (c * w) S) (b := y) (A := 100000000000000000) (B := 1000) (by omega) (by omega)
    rw [Int.mul_one]
    exact ⟨rz_c (by unfold ab; split <;> omega), f2.2.1⟩
  rw [resF_t ok, key.1, key.2] at h
  exact h
theorem all_rt (c S : Int) (hS : 1 ≤ S ∧ S ≤ 60060) (hc : 0 ≤ c ∧ c ≤ 1099511627776) : Means false Try.prog 15 [fz (rt c S S), frZ c 1] (ii 0) := by
  have hcs := mul_small hc (show 0 ≤ S ∧ S ≤ 60060 by omega)
  have z1 : rz (c * S) := rz_c (by unfold ab; split <;> omega)
  have zS : rz S := rz_c (by unfold ab; split <;> omega)
  have f1 := low_rf z1 zS (show S ≠ 0 by omega)
  have h := Compare_f _ _ c 1 f1 (rf_one (rz_i (by omega)))
  obtain ⟨b1, b2, b3, b4, b5⟩ := low_bd hcs.1 (show 0 < S by omega)
  have e : np (c * S) S * 1 = c * nq (c * S) S := by
    rw [Int.mul_one]
    refine Int.eq_of_mul_eq_mul_right (show S ≠ 0 by omega) ?_
    rw [b5, Int.mul_assoc, Int.mul_comm S, ← Int.mul_assoc]
  rw [e, (cmpI_zero _ _).2 rfl] at h
  exact h
theorem rt_zero (c S : Int) (hS : 1 ≤ S) : rt c S 0 = (0, 1) := by
  obtain ⟨e1, e2⟩ := low_eq (p := 0) (q := S) (r := 0) (s := 1) (by omega) (by omega) (by simp)
  obtain ⟨l1, l2⟩ := low_rat (rf_one (a := 0) (rz_c (by decide)))
  unfold rt
  rw [Int.mul_zero, e1, e2, l1, l2]
/-- Near its number, where it is. -/
theorem near_rt (v S n : Int) (hS : 1 ≤ S ∧ S ≤ 60060) (hv : 0 ≤ v ∧ v ≤ 100000000000000000) (hn : 0 ≤ n ∧ n ≤ 1099511627776) (h1 : (n - 1) * S < v) (h2 : v < (n + 1) * S) : Means false Try.prog 19 [frZ (np v S) (nq v S), ii n] (bb true) := by
  have z1 : rz v := rz_c (by unfold ab; split <;> omega)
  have zS : rz S := rz_c (by unfold ab; split <;> omega)
  have f1 := low_rf z1 zS (show S ≠ 0 by omega)
  obtain ⟨b1, b2, b3, b4, b5⟩ := low_bd hv.1 (show 0 < S by omega)
  generalize np v S = x at *
  generalize nq v S = y at *
  have k1 : (n - 1) * y < x := by
    have : (n - 1) * y * S < x * S := by
      rw [b5, Int.mul_assoc, Int.mul_comm y S, ← Int.mul_assoc]
      exact Int.mul_lt_mul_of_pos_right h1 (by omega)
    exact Int.lt_of_mul_lt_mul_right this (by omega)
  have k2 : x < (n + 1) * y := by
    have : x * S < (n + 1) * y * S := by
      rw [b5, Int.mul_assoc (n + 1), Int.mul_comm y S, ← Int.mul_assoc]
      exact Int.mul_lt_mul_of_pos_right h2 (by omega)
    exact Int.lt_of_mul_lt_mul_right this (by omega)
  rw [Int.sub_mul, Int.one_mul] at k1
  rw [Int.add_mul, Int.one_mul] at k2
  exact near_t x y n f1 (by unfold ab; split <;> omega) (by omega) (by omega) (by omega) (by omega)

/-- Weights of claims are weights that can be divided by. -/
theorem wts_ok {C : List Int} {b : Int} (R : RP C b) : okW (wts C) = true ∧ wsum (wts C) = sumL (wts C) ∧ 0 < sumL (wts C) := by
  have hs := R.sum
  have hl := R.len
  have hok : okW (wts C) = true := by
    simp only [okW, Bool.and_eq_true, List.all_eq_true, decide_eq_true_eq]
    refine ⟨fun x hx => ?_, by rw [wts_len]; omega⟩
    obtain ⟨i, hi, rfl⟩ := List.getElem_of_mem hx
    rw [wts_at (by rw [wts_len] at hi; exact hi), inW_iff]
    have := R.mem (i := i) (by rw [wts_len] at hi; exact hi)
    omega
  exact ⟨hok, by unfold wsum; rw [if_pos hok], by omega⟩
theorem wts_givenE {C : List Int} {b : Int} (R : RP C b) {n : Int} (hn : 0 ≤ n ∧ n ≤ 1099511627776) : givenE (wts C) n = 0 := by
  obtain ⟨h1, h2, h3⟩ := wts_ok R
  have := R.sum
  unfold givenE
  rw [if_neg (by rintro (q | q)
                 · omega
                 · simp [isAm, hn.1, hn.2] at q), if_neg (by omega)]
theorem wts_fairE {C : List Int} {b : Int} (R : RP C b) {n m : Int} (hn : 0 ≤ n) (hm : 0 ≤ m) (h : m + n ≤ 1099511627776) : fairE n (wts C) m = 0 := by
  unfold fairE
  rw [if_neg (by simp [isAm]; omega), if_neg (by rw [wts_givenE R (n := m) (by omega)]; simp), wts_givenE R (n := m + n) (by omega)]
/-- What is given is near the rate. -/
theorem given_rt {C : List Int} {b : Int} (R : RP C b) {n : Int} (hn : 0 ≤ n ∧ n ≤ 1099511627776) {i : Nat} (hi : i < C.length) :
    (gt (given (wts C) n) i - 1) * sumL (wts C) < n * (C[i] + 1) ∧ n * (C[i] + 1) < (gt (given (wts C) n) i + 1) * sumL (wts C) := by
  obtain ⟨h1, h2, h3⟩ := wts_ok R
  have hi2 : i < (wts C).length := by rw [wts_len]; exact hi
  obtain ⟨a, b, _⟩ := given_near (n := n) h1 h3 hn.1 hi2
  rw [gt_at hi2, wts_at hi] at a b
  have d := Int.mul_ediv_add_emod (n * (C[i] + 1)) (sumL (wts C))
  have d2 := Int.emod_lt_of_pos (n * (C[i] + 1)) h3
  have d3 := Int.emod_nonneg (n * (C[i] + 1)) (show sumL (wts C) ≠ 0 by omega)
  generalize sumL (wts C) = S at *
  generalize n * (C[i] + 1) = v at *
  generalize gt (given (wts C) n) i = g at *
  generalize v / S = q at *
  generalize v % S = r at *
  have e1 : q * S ≤ g * S := Int.mul_le_mul_of_nonneg_right a (by omega)
  rw [Int.mul_comm] at d
  constructor
  · rw [Int.sub_mul, Int.one_mul]
    split at b
    · have : g * S ≤ (q + 1) * S := Int.mul_le_mul_of_nonneg_right b (by omega)
      rw [Int.add_mul, Int.one_mul] at this; omega
    · have : g * S ≤ (q + 0) * S := Int.mul_le_mul_of_nonneg_right b (by omega)
      rw [Int.add_zero] at this; omega
  · rw [Int.add_mul, Int.one_mul]; omega

end Go.Proofs.Ytlcmmaokfbjojaa
