/-
  Layer 5 in plain words: fractions as pairs of integers in lowest terms.
-/
import Derived.Test.YtlcmmaokfbjojaaBigM
set_option linter.all false
namespace Go.Proofs.Ytlcmmaokfbjojaa
open Go.RowKit Go.Ab

/-- A right fraction: both parts right, the lower one positive, in lowest terms. -/
def rf (p q : Int) : Prop := rz p ∧ rz q ∧ 0 < q ∧ Int.gcd p q = 1
/-- In lowest terms. -/
def np (p q : Int) : Int := sg q * p / (Int.gcd p q : Int)
def nq (p q : Int) : Int := ab q / (Int.gcd p q : Int)

theorem cop_dvd {a b c : Int} (h : Int.gcd a b = 1) (hd : a ∣ b * c) : a ∣ c := by
  rw [← Int.natAbs_dvd_natAbs] at hd ⊢
  rw [Int.natAbs_mul] at hd
  exact Nat.Coprime.dvd_of_dvd_mul_left h hd
theorem low_uniq {x y u v : Int} (hy : 0 < y) (h1 : Int.gcd x y = 1) (hv : 0 < v) (h2 : Int.gcd u v = 1) (h : x * v = u * y) : x = u ∧ y = v := by
  have d1 : y ∣ v := cop_dvd (b := x) (by rw [Int.gcd_comm]; exact h1) ⟨u, by rw [h, Int.mul_comm]⟩
  have d2 : v ∣ y := cop_dvd (b := u) (by rw [Int.gcd_comm]; exact h2) ⟨x, by rw [← h, Int.mul_comm]⟩
  have e : y = v := Int.dvd_antisymm (by omega) (by omega) d1 d2
  subst e
  exact ⟨Int.eq_of_mul_eq_mul_right (by omega) h, rfl⟩
theorem gcd_pos {p q : Int} (hq : q ≠ 0) : 0 < (Int.gcd p q : Int) := by
  have : Int.gcd p q ≠ 0 := fun e => hq (Int.gcd_eq_zero_iff.1 e).2
  omega
theorem gcd_sg {p q : Int} (hq : q ≠ 0) : Int.gcd (sg q * p) (ab q) = Int.gcd p q := by
  rcases sg_cases q with ⟨h, _, h2⟩ | ⟨_, h, _⟩ | ⟨h, _, h2⟩
  · rw [h, h2, Int.neg_one_mul, Int.neg_gcd, Int.gcd_neg]
  · exact absurd h hq
  · rw [h, h2, Int.one_mul]
theorem low_spec {p q : Int} (hq : q ≠ 0) : 0 < nq p q ∧ Int.gcd (np p q) (nq p q) = 1 ∧ np p q * q = p * nq p q ∧ ab (np p q) ≤ ab p ∧ nq p q ≤ ab q ∧ np p q * (Int.gcd p q : Int) = sg q * p ∧ nq p q * (Int.gcd p q : Int) = ab q := by
  have hg := gcd_pos (p := p) hq
  have d1 : (Int.gcd p q : Int) ∣ sg q * p := Int.dvd_trans (Int.gcd_dvd_left p q) ⟨sg q, by rw [Int.mul_comm]⟩
  have d2 : (Int.gcd p q : Int) ∣ ab q := by
    have := Int.gcd_dvd_right p q
    rcases sg_cases q with ⟨h, _, h2⟩ | ⟨_, h, h2⟩ | ⟨h, _, h2⟩ <;> rw [h2]
    · exact Int.dvd_neg.2 this
    · exact ⟨0, by simp⟩
    · exact this
  have e1 : np p q * (Int.gcd p q : Int) = sg q * p := Int.ediv_mul_cancel d1
  have e2 : nq p q * (Int.gcd p q : Int) = ab q := Int.ediv_mul_cancel d2
  have hgs := gcd_sg (p := p) hq
  have hc : Int.gcd (np p q) (nq p q) = 1 := by
    have := @Int.gcd_ediv_gcd_ediv_gcd (sg q * p) (ab q) (by rw [hgs]; omega)
    rwa [hgs] at this
  have haq : 0 < ab q := by rcases sg_cases q with h | h | h <;> omega
  have h0 : 0 < nq p q := by
    refine Decidable.byContradiction fun hn => ?_
    have := Int.mul_le_mul_of_nonneg_right (show nq p q ≤ 0 by omega) (show 0 ≤ (Int.gcd p q : Int) by omega)
    omega
  refine ⟨h0, hc, ?_, ?_, ?_, e1, e2⟩
  · have hqs : q = sg q * ab q := (sg_ab q).symm
    rw [show np p q * q = np p q * (sg q * ab q) by rw [← hqs], ← e2]
    rw [show np p q * (sg q * (nq p q * (Int.gcd p q : Int))) = sg q * nq p q * (np p q * (Int.gcd p q : Int)) by grind, e1]
    rcases sg_cases q with ⟨h, _, h2⟩ | ⟨_, h, _⟩ | ⟨h, _, h2⟩
    · rw [h]; grind
    · exact absurd h hq
    · rw [h]; grind
  · have e3 : ab (np p q) * (Int.gcd p q : Int) = ab p := by
      have e4 : ab (Int.gcd p q : Int) = (Int.gcd p q : Int) := by unfold ab; rw [if_neg (by omega)]
      have := congrArg ab e1
      rw [ab_mul, e4, ab_mul] at this
      rw [this]
      have : ab (sg q) = 1 := by
        rcases sg_cases q with ⟨h, _, h2⟩ | ⟨_, h, _⟩ | ⟨h, _, h2⟩
        · rw [h]; rfl
        · exact absurd h hq
        · rw [h]; rfl
      rw [this, Int.one_mul]
    have := Int.mul_le_mul_of_nonneg_left (show 1 ≤ (Int.gcd p q : Int) by omega) (ab_nonneg (np p q))
    omega
  · have := Int.mul_le_mul_of_nonneg_left (show 1 ≤ (Int.gcd p q : Int) by omega) (show 0 ≤ nq p q by omega)
    omega
theorem low_rf {p q : Int} (hp : rz p) (hq : rz q) (h : q ≠ 0) : rf (np p q) (nq p q) := by
  obtain ⟨h1, h2, h3, h4, h5, _⟩ := low_spec (p := p) h
  refine ⟨by unfold rz at *; omega, ?_, h1, h2⟩
  unfold rz at *
  have : ab (nq p q) = nq p q := by unfold ab; rw [if_neg (by omega)]
  omega
/-- Two fractions in lowest terms are one exactly if they are equal. -/
theorem low_eq {p q r s : Int} (hq : q ≠ 0) (hs : s ≠ 0) (h : p * s = r * q) : np p q = np r s ∧ nq p q = nq r s := by
  obtain ⟨a1, a2, a3, _⟩ := low_spec (p := p) hq
  obtain ⟨b1, b2, b3, _⟩ := low_spec (p := r) hs
  refine low_uniq a1 a2 b1 b2 ?_
  have hqs : q * s ≠ 0 := Int.mul_ne_zero hq hs
  have key : np p q * nq r s * (q * s) = np r s * nq p q * (q * s) := by
    have e1 : np p q * nq r s * (q * s) = (np p q * q) * (nq r s * s) := by grind
    have e2 : np r s * nq p q * (q * s) = (np r s * s) * (nq p q * q) := by grind
    rw [e1, e2, a3, b3]
    grind
  exact Int.eq_of_mul_eq_mul_right hqs key
theorem low_rat {p q : Int} (h : rf p q) : np p q = p ∧ nq p q = q := by
  have hq : q ≠ 0 := by have := h.2.2.1; omega
  obtain ⟨a1, a2, a3, _⟩ := low_spec (p := p) hq
  exact low_uniq a1 a2 h.2.2.1 h.2.2.2 a3
/-- x / y is p / q. -/
def isQ (x y p q : Int) : Prop := x * q = p * y
theorem isQ_low {p q : Int} (hq : q ≠ 0) : isQ (np p q) (nq p q) p q := (low_spec hq).2.2.1
theorem isQ_add {x y u v p q r s : Int} (h1 : isQ x y p q) (h2 : isQ u v r s) : isQ (x * v + u * y) (y * v) (p * s + r * q) (q * s) := by
  unfold isQ at *; grind
theorem isQ_mul {x y u v p q r s : Int} (h1 : isQ x y p q) (h2 : isQ u v r s) : isQ (x * u) (y * v) (p * r) (q * s) := by
  unfold isQ at *; grind
theorem isQ_trans {x y u v p q : Int} (hv : v ≠ 0) (h1 : isQ x y u v) (h2 : isQ u v p q) : isQ x y p q := by
  unfold isQ at *
  have : x * q * v = p * y * v := by grind
  exact Int.eq_of_mul_eq_mul_right hv this

end Go.Proofs.Ytlcmmaokfbjojaa
