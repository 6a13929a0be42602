import Derived.Test.YtebinaffldlihaaGreatDoorBigK
set_option linter.all false
namespace Go.Proofs.YtebinaffldlihaaGreatDoor
open Go.RowKit Go.Ab
attribute [local irreducible] AWP Go.Ab.Sub Means MeansH CallK CallG CallT CallGT
theorem o8 {z w : Int} : (sg z = sg w ∧ dg (ab z) = dg (ab w)) ↔ z = w := by
  constructor
  · rintro ⟨h1, h2⟩
    have := zK (aV z) (aV w) h2
    rw [← rJ z, ← rJ w, h1, this]
  · rintro rfl; exact ⟨rfl, rfl⟩
theorem bA {z : Int} (h : ab z < 100000000000000000000000000000000) : rz z := by
  unfold rz
  have : (100000000000000000000000000000000 : Int) < 1048576 ^ 60 := by decide
  omega
theorem k8 {z : Int} (h : -9223372036854775808 ≤ z ∧ z ≤ 9223372036854775807) : rz z := bA (by unfold ab; split <;> omega)
theorem bJ {z w p : Int} (hz : rz z) (hw : rz w) (hp : rz p) (e : z * w = p) : Means false Tryz.prog 33 [bigZ z, bigZ w] (.tup [bigZ p, ii 0]) := by
  have := xS z w hz hw
  rwa [res, e, bV hp, pO hp] at this
theorem cH {z w q r : Int} (hz : rz z) (hw : rz w) (h0 : w ≠ 0) (hq : dq z w = q) (hr : dr z w = r) : Means false Tryz.prog 46 [bigZ z, bigZ w] (.tup [bigZ q, bigZ r, ii 0]) := by
  have := zT z w hz hw h0
  rwa [hq, hr] at this
theorem nI {z w g : Int} (hz : rz z) (hw : rz w) (hg : (Int.gcd z w : Int) = g) : Means false Tryz.prog 45 [bigZ z, bigZ w] (.tup [bigZ g, ii 0]) := by
  have := tS z w hz hw
  rwa [hg] at this
theorem wZ (a b : Int) : -1 ≤ cmpI a b ∧ cmpI a b ≤ 1 := by unfold cmpI; split <;> (try split) <;> omega
theorem fM (a b : Int) : cmpI a b = 0 ↔ a = b := by unfold cmpI; split <;> (try split) <;> omega
theorem jM (a b : Int) : sg (a - b) = cmpI a b := by unfold cmpI sg; split <;> (try split) <;> (try split) <;> (try split) <;> omega
theorem A7 {z w : Int} (h : w ≠ 0) : ab (dq z w) ≤ ab z := by
  have hD : 0 < ab w := by rcases aJ w with h | h | h <;> omega
  unfold dq
  have e : ab (sg w * z) = ab z := by
    rcases aJ w with ⟨a1, _, _⟩ | ⟨a1, a2, _⟩ | ⟨a1, _, _⟩
    · rw [a1, Int.neg_one_mul, jY]
    · exact absurd a2 h
    · rw [a1, Int.one_mul]
  rw [← e]
  generalize sg w * z = x
  generalize ab w = D at *
  have h0 := Int.mul_ediv_add_emod x D
  have h1 := Int.emod_nonneg x (show D ≠ 0 by omega)
  have h2 := Int.emod_lt_of_pos x hD
  generalize x / D = q at *
  generalize x % D = r at *
  rcases aJ q with ⟨_, a2, a3⟩ | ⟨_, a2, a3⟩ | ⟨_, a2, a3⟩
  · have : D * q ≤ 1 * q := Int.mul_le_mul_of_nonpos_right (by omega) (by omega)
    have : x < 0 := by
      have : D * q ≤ D * (-1) := Int.mul_le_mul_of_nonneg_left (by omega) (by omega)
      omega
    have hx : ab x = -x := by unfold ab; rw [if_pos this]
    rw [a3, hx]
    have : (D - 1) * (q + 1) ≤ 0 := Int.mul_nonpos_of_nonneg_of_nonpos (by omega) (by omega)
    rw [Int.sub_mul, Int.mul_add] at this
    omega
  · rw [a3]; exact aV x
  · have : 1 * q ≤ D * q := Int.mul_le_mul_of_nonneg_right (by omega) (by omega)
    have hx : ab x = x := by unfold ab; rw [if_neg (by omega)]
    rw [a3, hx]
    omega
theorem nF {a b : Int} {k : Nat} (h1 : ab a < 1048576 ^ k) (h2 : ab b < 1048576 ^ k) : ab (Int.gcd a b : Int) < 1048576 ^ k := by
  have e : ab (Int.gcd a b : Int) = Int.gcd a b := by unfold ab; rw [if_neg (by omega)]
  rw [e]
  by_cases ha : a = 0
  · subst ha
    rw [Int.gcd_zero_left, ← dO]; exact h2
  · have hd := Int.gcd_dvd_left a b
    have : (Int.gcd a b : Int) ≤ ab a := by
      rw [dO]
      have := Int.natAbs_dvd_natAbs.2 hd
      rw [Int.natAbs_natCast] at this
      have := Nat.le_of_dvd (by omega) this
      omega
    omega
end Go.Proofs.YtebinaffldlihaaGreatDoor
