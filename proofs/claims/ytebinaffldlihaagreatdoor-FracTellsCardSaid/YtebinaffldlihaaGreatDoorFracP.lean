import Derived.Test.YtebinaffldlihaaGreatDoorBigM
set_option linter.all false
namespace Go.Proofs.YtebinaffldlihaaGreatDoor
open Go.RowKit Go.Ab
def rf (p q : Int) : Prop := rz p ∧ rz q ∧ 0 < q ∧ Int.gcd p q = 1
def np (p q : Int) : Int := sg q * p / (Int.gcd p q : Int)
def nq (p q : Int) : Int := ab q / (Int.gcd p q : Int)
theorem nG {p q : Int} (hq : q ≠ 0) : 0 < (Int.gcd p q : Int) := by
  have : Int.gcd p q ≠ 0 := fun e => hq (Int.gcd_eq_zero_iff.1 e).2
  omega
theorem zR {p q : Int} (hq : q ≠ 0) : Int.gcd (sg q * p) (ab q) = Int.gcd p q := by
  rcases aJ q with ⟨h, _, h2⟩ | ⟨_, h, _⟩ | ⟨h, _, h2⟩
  · rw [h, h2, Int.neg_one_mul, Int.neg_gcd, Int.gcd_neg]
  · exact absurd h hq
  · rw [h, h2, Int.one_mul]
theorem vT {p q : Int} (hq : q ≠ 0) : 0 < nq p q ∧ Int.gcd (np p q) (nq p q) = 1 ∧ np p q * q = p * nq p q ∧ ab (np p q) ≤ ab p ∧ nq p q ≤ ab q ∧ np p q * (Int.gcd p q : Int) = sg q * p ∧ nq p q * (Int.gcd p q : Int) = ab q := by
  have hg := nG (p := p) hq
  have d1 : (Int.gcd p q : Int) ∣ sg q * p := Int.dvd_trans (Int.gcd_dvd_left p q) ⟨sg q, by rw [Int.mul_comm]⟩
  have d2 : (Int.gcd p q : Int) ∣ ab q := by
    have := Int.gcd_dvd_right p q
    rcases aJ q with ⟨h, _, h2⟩ | ⟨_, h, h2⟩ | ⟨h, _, h2⟩ <;> rw [h2]
    · exact Int.dvd_neg.2 this
    · exact ⟨0, by simp⟩
    · exact this
  have e1 : np p q * (Int.gcd p q : Int) = sg q * p := Int.ediv_mul_cancel d1
  have e2 : nq p q * (Int.gcd p q : Int) = ab q := Int.ediv_mul_cancel d2
  have hgs := zR (p := p) hq
  have hc : Int.gcd (np p q) (nq p q) = 1 := by
    have := @Int.gcd_ediv_gcd_ediv_gcd (sg q * p) (ab q) (by rw [hgs]; omega)
    rwa [hgs] at this
  have haq : 0 < ab q := by rcases aJ q with h | h | h <;> omega
  have h0 : 0 < nq p q := by
    refine Decidable.byContradiction fun hn => ?_
    have := Int.mul_le_mul_of_nonneg_right (show nq p q ≤ 0 by omega) (show 0 ≤ (Int.gcd p q : Int) by omega)
    omega
  refine ⟨h0, hc, ?_, ?_, ?_, e1, e2⟩
  · have hqs : q = sg q * ab q := (rJ q).symm
    rw [show np p q * q = np p q * (sg q * ab q) by rw [← hqs], ← e2]
    rw [show np p q * (sg q * (nq p q * (Int.gcd p q : Int))) = sg q * nq p q * (np p q * (Int.gcd p q : Int)) by grind, e1]
    rcases aJ q with ⟨h, _, h2⟩ | ⟨_, h, _⟩ | ⟨h, _, h2⟩
    · rw [h]; grind
    · exact absurd h hq
    · rw [h]; grind
  · have e3 : ab (np p q) * (Int.gcd p q : Int) = ab p := by
      have e4 : ab (Int.gcd p q : Int) = (Int.gcd p q : Int) := by unfold ab; rw [if_neg (by omega)]
      have := congrArg ab e1
      rw [kU, e4, kU] at this
      rw [this]
      have : ab (sg q) = 1 := by
        rcases aJ q with ⟨h, _, h2⟩ | ⟨_, h, _⟩ | ⟨h, _, h2⟩
        · rw [h]; rfl
        · exact absurd h hq
        · rw [h]; rfl
      rw [this, Int.one_mul]
    have := Int.mul_le_mul_of_nonneg_left (show 1 ≤ (Int.gcd p q : Int) by omega) (aV (np p q))
    omega
  · have := Int.mul_le_mul_of_nonneg_left (show 1 ≤ (Int.gcd p q : Int) by omega) (show 0 ≤ nq p q by omega)
    omega
theorem pR {p q : Int} (hp : rz p) (hq : rz q) (h : q ≠ 0) : rf (np p q) (nq p q) := by
  obtain ⟨h1, h2, h3, h4, h5, _⟩ := vT (p := p) h
  refine ⟨by unfold rz at *; omega, ?_, h1, h2⟩
  unfold rz at *
  have : ab (nq p q) = nq p q := by unfold ab; rw [if_neg (by omega)]
  omega
end Go.Proofs.YtebinaffldlihaaGreatDoor
