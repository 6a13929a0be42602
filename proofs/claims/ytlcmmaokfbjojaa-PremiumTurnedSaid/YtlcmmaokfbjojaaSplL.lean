/-
  Layer 18 in plain words: what is given is near the quota, adds up, and does not get less.
-/
import Derived.Test.YtlcmmaokfbjojaaSplH
set_option linter.all false
namespace Go.Proofs.Ytlcmmaokfbjojaa

theorem sumN_add (f g : Nat → Int) : ∀ n : Nat, sumN n (fun i => f i + g i) = sumN n f + sumN n g
  | 0 => by simp [sumN]
  | n + 1 => by simp only [sumN]; rw [sumN_add f g n]; omega
theorem given_sum {W : List Int} {n : Int} (hok : okW W = true) (hs : 0 < sumL W) (hn : 0 ≤ n) : sumL (given W n) = n := by
  have ok := (giv_ok (gt_W hok) hs (n % sumL W).toNat).1
  have h1 := Int.emod_nonneg n (show sumL W ≠ 0 by omega)
  have h6 := Int.mul_ediv_add_emod n (sumL W)
  rw [sumL_N, given_len, sumN_congr (g := fun i => gt (giv W (n % sumL W).toNat) i + n / sumL W * gt W i) fun i hi => given_gt hi, sumN_add, sumN_mul, ok.sum, ← sumL_N, Int.mul_comm (n / sumL W)]
  omega
/-- Between the quota, rounded down, and the quota, rounded up. -/
theorem given_near {W : List Int} {n : Int} (hok : okW W = true) (hs : 0 < sumL W) (hn : 0 ≤ n) {i : Nat} (hi : i < W.length) :
    n * gt W i / sumL W ≤ gt (given W n) i ∧ gt (given W n) i ≤ n * gt W i / sumL W + (if 0 < n * gt W i % sumL W then 1 else 0) ∧ (gt W i = 0 → gt (given W n) i = 0) := by
  have hup := ((giv_ok (gt_W hok) hs (n % sumL W).toNat).1).up i hi
  have hnn := ((giv_ok (gt_W hok) hs (n % sumL W).toNat).1).nn i
  have hlow := giv_low (gt_W hok) hs (n % sumL W).toNat i hi
  have h1 := Int.emod_nonneg n (show sumL W ≠ 0 by omega)
  rw [Int.toNat_of_nonneg h1] at hup hlow
  obtain ⟨e1, e2⟩ := quo_split (n := n) (w := gt W i) hs
  rw [given_gt hi, ← e1, ← e2]
  generalize sumL W = s at *
  generalize gt (giv W (n % s).toNat) i = a at *
  have d1 := Int.mul_ediv_add_emod (n % s * gt W i) s
  have d2 := Int.emod_nonneg (n % s * gt W i) (show s ≠ 0 by omega)
  have d3 := Int.emod_lt_of_pos (n % s * gt W i) hs
  refine ⟨by omega, ?_, fun h0 => ?_⟩
  · have : a ≤ n % s * gt W i / s + (if 0 < n % s * gt W i % s then 1 else 0) := by
      generalize n % s * gt W i / s = q at *
      split
      · rename_i hr
        have : a * s < (q + 1 + 1) * s := by rw [Int.add_mul, Int.add_mul, Int.one_mul, Int.mul_comm q s]; omega
        have := Int.lt_of_mul_lt_mul_right this (by omega)
        omega
      · rename_i hr
        have : a * s < (q + 1) * s := by rw [Int.add_mul, Int.one_mul, Int.mul_comm q s]; omega
        have := Int.lt_of_mul_lt_mul_right this (by omega)
        omega
    omega
  · rw [h0, Int.mul_zero] at hup ⊢
    have : a * s < 1 * s := by omega
    have := Int.lt_of_mul_lt_mul_right this (by omega)
    omega
theorem given_mono {W : List Int} {n m : Int} (hok : okW W = true) (hs : 0 < sumL W) (hn : 0 ≤ n) (h : n ≤ m) {i : Nat} (hi : i < W.length) : gt (given W n) i ≤ gt (given W m) i := by
  rw [given_gt hi, given_gt hi]
  have n1 := Int.emod_nonneg n (show sumL W ≠ 0 by omega)
  have n2 := Int.emod_lt_of_pos n hs
  have m1 := Int.emod_nonneg m (show sumL W ≠ 0 by omega)
  have n3 := Int.mul_ediv_add_emod n (sumL W)
  have m3 := Int.mul_ediv_add_emod m (sumL W)
  have hd : n / sumL W ≤ m / sumL W := Int.ediv_le_ediv hs h
  have hw := gt_W hok i
  rcases Int.lt_or_le (n / sumL W) (m / sumL W) with q | q
  · have hup := ((giv_ok (gt_W hok) hs (n % sumL W).toNat).1).up i hi
    have hnn := ((giv_ok (gt_W hok) hs (m % sumL W).toNat).1).nn i
    rw [Int.toNat_of_nonneg n1] at hup
    have h1 : n % sumL W * gt W i ≤ sumL W * gt W i := Int.mul_le_mul_of_nonneg_right (by omega) hw
    have h2 : gt (giv W (n % sumL W).toNat) i * sumL W < (gt W i + 1) * sumL W := by rw [Int.add_mul, Int.one_mul, Int.mul_comm (gt W i)]; omega
    have h3 := Int.lt_of_mul_lt_mul_right h2 (by omega)
    have h4 : (n / sumL W + 1) * gt W i ≤ m / sumL W * gt W i := Int.mul_le_mul_of_nonneg_right (by omega) hw
    rw [Int.add_mul, Int.one_mul] at h4
    omega
  · have e : n / sumL W = m / sumL W := by omega
    rw [e] at n3 ⊢
    have := giv_mono (gt_W hok) hs (t := (n % sumL W).toNat) (u := (m % sumL W).toNat) (by omega) i
    omega
theorem given_zero {W : List Int} (hs : 0 < sumL W) : given W 0 = List.replicate W.length 0 := by
  apply List.ext_getElem
  · rw [given_len]; simp
  · intro i h1 h2
    rw [List.length_replicate] at h2
    have := given_gt (W := W) (n := 0) h2
    rw [gt_at h1] at this
    rw [this]
    simp [giv, gt_zeros]

end Go.Proofs.Ytlcmmaokfbjojaa
