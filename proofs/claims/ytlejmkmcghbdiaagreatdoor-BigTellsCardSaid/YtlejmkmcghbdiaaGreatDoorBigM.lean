/-
  Layer 4: the contracts where nothing is too great; bounds; order.
-/
import Derived.Test.YtlejmkmcghbdiaaGreatDoorBigK
set_option linter.all false
namespace Go.Proofs.YtlejmkmcghbdiaaGreatDoor
open Go.RowKit Go.Ab
attribute [local irreducible] AWP Go.Ab.Sub Means MeansH CallK CallG CallT CallGT

theorem bigZ_inj {z w : Int} : (sg z = sg w ∧ dg (ab z) = dg (ab w)) ↔ z = w := by
  constructor
  · rintro ⟨h1, h2⟩
    have := dg_inj (ab_nonneg z) (ab_nonneg w) h2
    rw [← sg_ab z, ← sg_ab w, h1, this]
  · rintro rfl; exact ⟨rfl, rfl⟩
theorem rz_c {z : Int} (h : ab z < 100000000000000000000000000000000) : rz z := by
  unfold rz
  have : (100000000000000000000000000000000 : Int) < 1048576 ^ 60 := by decide
  omega
theorem rz_i {z : Int} (h : -9223372036854775808 ≤ z ∧ z ≤ 9223372036854775807) : rz z := rz_c (by unfold ab; split <;> omega)
theorem Mul_ok {z w p : Int} (hz : rz z) (hw : rz w) (hp : rz p) (e : z * w = p) : Means false Tryz.prog 10 [bigZ z, bigZ w] (.tup [bigZ p, ii 0]) := by
  have := Mul_m z w hz hw
  rwa [res, e, r60_of hp, e60_of hp] at this
theorem Div_ok {z w q r : Int} (hz : rz z) (hw : rz w) (h0 : w ≠ 0) (hq : dq z w = q) (hr : dr z w = r) : Means false Tryz.prog 13 [bigZ z, bigZ w] (.tup [bigZ q, bigZ r, ii 0]) := by
  have := Div_m z w hz hw h0
  rwa [hq, hr] at this
theorem Gcd_ok {z w g : Int} (hz : rz z) (hw : rz w) (hg : (Int.gcd z w : Int) = g) : Means false Tryz.prog 19 [bigZ z, bigZ w] (.tup [bigZ g, ii 0]) := by
  have := Gcd_m z w hz hw
  rwa [hg] at this
theorem Int_i {z : Int} (h : -9223372036854775808 ≤ z ∧ z ≤ 9223372036854775807) : Means false Tryz.prog 15 [bigZ z] (.tup [ii z, bb true]) := by
  have := Int_m z (rz_i h)
  have e : inI z = true := by unfold inI; simpa using h
  rwa [e, if_pos rfl] at this
theorem Add_ok {z w : Int} (hz : rz z) (hw : rz w) (hp : rz (z + w)) : Means false Tryz.prog 6 [bigZ z, bigZ w] (.tup [bigZ (z + w), ii 0]) := by
  have := Add_m z w hz hw
  rwa [res, r60_of hp, e60_of hp] at this
theorem ab_i {a : Int} (h : -9223372036854775808 ≤ a ∧ a ≤ 9223372036854775807) : ab a ≤ 9223372036854775808 := by unfold ab; split <;> omega
theorem ab_add (a b : Int) : ab (a + b) ≤ ab a + ab b := by unfold ab; split <;> split <;> split <;> omega
theorem ab_sub (a b : Int) : ab (a - b) ≤ ab a + ab b := by unfold ab; split <;> split <;> split <;> omega
theorem rz_lt {z : Int} {k : Nat} (h : ab z < 1048576 ^ k) (hk : k ≤ 60) : rz z := by
  unfold rz
  rw [← dg_len_iff] at h ⊢
  omega
theorem lt_mul {a b : Int} {m n : Nat} (h1 : ab a < 1048576 ^ m) (h2 : ab b < 1048576 ^ n) : ab (a * b) < 1048576 ^ (m + n) := by
  rw [ab_mul, ← dg_len_iff]
  exact dg_len_mul (ab_nonneg a) (ab_nonneg b) ((dg_len_iff m).2 h1) ((dg_len_iff n).2 h2)
theorem lt_up {a : Int} {m n : Nat} (h : ab a < 1048576 ^ m) (hmn : m ≤ n) : ab a < 1048576 ^ n := by
  rw [← dg_len_iff] at h ⊢
  omega
theorem lt_add {a b : Int} {m : Nat} (h1 : ab a < 1048576 ^ m) (h2 : ab b < 1048576 ^ m) : ab (a + b) < 1048576 ^ (m + 1) := by
  have h3 := ab_add a b
  have : (1048576 : Int) ^ (m + 1) = 1048576 ^ m * 1048576 := Int.pow_succ _ _
  have := pow_pos' m
  omega
theorem lt_sub {a b : Int} {m : Nat} (h1 : ab a < 1048576 ^ m) (h2 : ab b < 1048576 ^ m) : ab (a - b) < 1048576 ^ (m + 1) := by
  have h3 := ab_sub a b
  have : (1048576 : Int) ^ (m + 1) = 1048576 ^ m * 1048576 := Int.pow_succ _ _
  have := pow_pos' m
  omega
theorem cmpI_neg (a b : Int) : cmpI b a = -cmpI a b := by unfold cmpI; split <;> (try split) <;> (try split) <;> (try split) <;> omega
theorem cmpI_bd (a b : Int) : -1 ≤ cmpI a b ∧ cmpI a b ≤ 1 := by unfold cmpI; split <;> (try split) <;> omega
theorem cmpI_zero (a b : Int) : cmpI a b = 0 ↔ a = b := by unfold cmpI; split <;> (try split) <;> omega
theorem cmpI_sg (a b : Int) : sg (a - b) = cmpI a b := by unfold cmpI sg; split <;> (try split) <;> (try split) <;> (try split) <;> omega
theorem cmpI_add (a b c : Int) : cmpI (a + c) (b + c) = cmpI a b := by unfold cmpI; split <;> (try split) <;> (try split) <;> (try split) <;> omega
theorem cmpI_mul (a b c : Int) : cmpI (a * c) (b * c) = cmpI a b * sg c := by
  rw [← cmpI_sg, ← cmpI_sg, ← Int.sub_mul, sg_mul]
theorem dr_bd {z w : Int} (h : w ≠ 0) : (0 < w → 0 ≤ dr z w ∧ dr z w < w) ∧ (w < 0 → w < dr z w ∧ dr z w ≤ 0) := by
  have hD : ab w ≠ 0 := by rcases sg_cases w with h | h | h <;> omega
  have h1 := Int.emod_nonneg (sg w * z) hD
  have h2 := Int.emod_lt_of_pos (sg w * z) (show 0 < ab w by have := ab_nonneg w; omega)
  unfold dr
  rcases sg_cases w with ⟨a1, a2, a3⟩ | ⟨a1, a2, a3⟩ | ⟨a1, a2, a3⟩ <;> rw [a1] at h1 h2 ⊢ <;> omega
theorem dq_bd {z w : Int} (h : w ≠ 0) : ab (dq z w) ≤ ab z := by
  have hD : 0 < ab w := by rcases sg_cases w with h | h | h <;> omega
  unfold dq
  have e : ab (sg w * z) = ab z := by
    rcases sg_cases w with ⟨a1, _, _⟩ | ⟨a1, a2, _⟩ | ⟨a1, _, _⟩
    · rw [a1, Int.neg_one_mul, ab_neg]
    · exact absurd a2 h
    · rw [a1, Int.one_mul]
  rw [← e]
  generalize sg w * z = x
  generalize ab w = D at *
  have h0 := Int.mul_ediv_add_emod x D
  have h1 := Int.emod_nonneg x (show D ≠ 0 by omega)
  have h2 := Int.emod_lt_of_pos x hD
  generalize x / D = q at *
  generalize x % D = r at *
  rcases sg_cases q with ⟨_, a2, a3⟩ | ⟨_, a2, a3⟩ | ⟨_, a2, a3⟩
  · have : D * q ≤ 1 * q := Int.mul_le_mul_of_nonpos_right (by omega) (by omega)
    have : x < 0 := by
      have : D * q ≤ D * (-1) := Int.mul_le_mul_of_nonneg_left (by omega) (by omega)
      omega
    have hx : ab x = -x := by unfold ab; rw [if_pos this]
    rw [a3, hx]
    have : (D - 1) * (q + 1) ≤ 0 := Int.mul_nonpos_of_nonneg_of_nonpos (by omega) (by omega)
    rw [Int.sub_mul, Int.mul_add] at this
    omega
  · rw [a3]; exact ab_nonneg x
  · have : 1 * q ≤ D * q := Int.mul_le_mul_of_nonneg_right (by omega) (by omega)
    have hx : ab x = x := by unfold ab; rw [if_neg (by omega)]
    rw [a3, hx]
    omega
theorem dr_dvd {z : Int} {g : Nat} (h : (g : Int) ∣ z) : dr z g = 0 := by
  unfold dr
  rcases sg_cases (g : Int) with ⟨a1, a2, a3⟩ | ⟨a1, a2, a3⟩ | ⟨a1, a2, a3⟩
  · omega
  · rw [a1, Int.zero_mul]
  · rw [a1, a3, Int.one_mul, Int.one_mul]; exact Int.emod_eq_zero_of_dvd h
theorem gcd_dr {a b : Int} (h : a ≠ 0) : Int.gcd a (dr b a) = Int.gcd a b := by
  rw [← Int.gcd_mul_right_add_right a (dr b a) (dq b a), dq_dr h]
theorem gcd_bd {a b : Int} {k : Nat} (h1 : ab a < 1048576 ^ k) (h2 : ab b < 1048576 ^ k) : ab (Int.gcd a b : Int) < 1048576 ^ k := by
  have e : ab (Int.gcd a b : Int) = Int.gcd a b := by unfold ab; rw [if_neg (by omega)]
  rw [e]
  by_cases ha : a = 0
  · subst ha
    rw [Int.gcd_zero_left, ← ab_nat]; exact h2
  · have hd := Int.gcd_dvd_left a b
    have : (Int.gcd a b : Int) ≤ ab a := by
      rw [ab_nat]
      have := Int.natAbs_dvd_natAbs.2 hd
      rw [Int.natAbs_natCast] at this
      have := Nat.le_of_dvd (by omega) this
      omega
    omega
theorem Sub_ok {z w : Int} (hz : rz z) (hw : rz w) (hp : rz (z - w)) : Means false Tryz.prog 8 [bigZ z, bigZ w] (.tup [bigZ (z - w), ii 0]) := by
  have := Sub_m z w hz hw
  rwa [res, r60_of hp, e60_of hp] at this
theorem SameZ_m (z w : Int) (hz : rz z) (hw : rz w) : Means false Tryz.prog 25 [bigZ z, bigZ w] (bb (decide (z = w))) := by
  have := same_m (sg z) (sg w) (dg (ab z)) (dg (ab w)) (by have := len60 hz; omega) (by have := len60 hw; omega)
  simpa only [bigZ_inj] using this
theorem Same_t {z : Int} (hz : rz z) : Means false Tryz.prog 25 [bigZ z, bigZ z] (bb true) := by
  have := SameZ_m z z hz hz
  rwa [decide_eq_true rfl] at this
theorem SameE_t {z w : Int} (h : z = w) (hz : rz z) : Means false Tryz.prog 25 [bigZ z, bigZ w] (bb true) := by
  have := SameZ_m z w hz (h ▸ hz)
  rwa [decide_eq_true h] at this

end Go.Proofs.YtlejmkmcghbdiaaGreatDoor
