/-
  Layer 39: a part beside its quota.
-/
import Derived.Test.YtnifpooobleahaaFracB
import Derived.Test.YtnifpooobleahaaRatU
import Derived.Test.YtnifpooobleahaaRatH
import Derived.Test.YtnifpooobleahaaStahRatC
set_option linter.all false
namespace Go.Proofs.Ytnifpooobleahaa
open Go.RowKit Go.Ab
attribute [local irreducible] AWP Go.Ab.Sub Means MeansH CallK CallG CallT CallGT CallU

theorem sort_any (C : List Int) (hl : C.length ≤ 400) (h : Int) : rightC C h = true → ¬ sumL C ≤ h → MeansH Try.prog 23 (sH (idxI C.length) (rF h (sumL C) C)) [.ow 0, clo] (.tup []) (sH (srt (kf (rF h (sumL C) C)) (idxI C.length)) (rF h (sumL C) C)) := by
  intro hr hs
  simp only [rightC, okH, Bool.and_eq_true, decide_eq_true_eq] at hr
  obtain ⟨hok, ⟨_, hh0⟩, hh1⟩ := hr
  have hsb := sum_bd hok
  refine sortG_m _ _ (List.pairwise_iff_getElem.2 fun i j hi hj hij => idxI_ord _ i j hi hj hij) (fun x hx => ?_) (by rw [idxI_len]; omega) (by rw [rF_len]; omega) (rF_ok (by omega) C)
  rw [rF_len]
  exact idxI_mem.1 hx
theorem prop_all (C : List Int) (hl : C.length ≤ 400) (h : Int) (hr : rightC C h = true) : Means true Try.prog 10 [il C, ii h] (.tup [il (prop C h), ii 0]) := by
  have := prop_m C hl h (sort_any C hl h)
  rwa [hr, if_pos rfl, if_pos rfl] at this
theorem rf1 {a : Int} (h : rz a) : rf a 1 := ⟨h, rz_c (by decide), by decide, Int.gcd_one⟩
theorem Of1 (a : Int) (h : -9223372036854775808 ≤ a ∧ a ≤ 9223372036854775807) : Means false Try.prog 15 [ii a, ii 1] (.tup [frZ a 1, ii 0]) := by
  have := Of_f a 1 h (by decide) (by decide)
  obtain ⟨e1, e2⟩ := low_rat (rf1 (rz_i h))
  rwa [e1, e2] at this
/-- The quota as a fraction. -/
theorem quo_frac {c s h l : Int} (hc : 0 ≤ c ∧ c ≤ 1099511627776) (hs : 0 < s ∧ s ≤ 1125899906842624) (hh : 0 ≤ h ∧ h ≤ 1125899906842624) (h1 : (l - 1) * s < h * c) (h2 : h * c < (l + 1) * s) :
    ∃ u v x y, rf u v ∧ rf x y ∧ Means false Try.prog 15 [ii c, ii s] (.tup [frZ u v, ii 0]) ∧ Means false Try.prog 16 [frZ u v, frZ h 1] (.tup [frZ x y, ii 0]) ∧ cmpI ((l - 1) * y) (x * 1) = -1 ∧ cmpI (x * 1) ((l + 1) * y) = -1 := by
  have hcz : rz c := rz_i (by omega)
  have hsz : rz s := rz_i (by omega)
  obtain ⟨a1, a2, a3, a4, a5, _⟩ := low_spec (p := c) (q := s) (by omega)
  have hrf := low_rf hcz hsz (show s ≠ 0 by omega)
  have ho := Of_f c s (by omega) (by omega) (by omega)
  generalize np c s = u at *
  generalize nq c s = v at *
  have hab : ab u ≤ 1099511627776 := by have : ab c = c := by unfold ab; rw [if_neg (by omega)]
                                        omega
  have hvb : v ≤ 1125899906842624 := by have : ab s = s := by unfold ab; rw [if_neg (by omega)]
                                        omega
  have hu : -1099511627776 ≤ u ∧ u ≤ 1099511627776 := by unfold ab at hab; split at hab <;> omega
  have hu0 : 0 ≤ u := by
    rcases Int.lt_or_le u 0 with q | q
    · have e1 : u * s < 0 := Int.mul_neg_of_neg_of_pos q hs.1
      have e2 : 0 ≤ c * v := Int.mul_nonneg hc.1 (by omega)
      omega
    · exact q
  have b1 : 0 ≤ u * h := Int.mul_nonneg hu0 hh.1
  have b2 : u * h ≤ 1099511627776 * 1125899906842624 := Int.mul_le_mul hu.2 hh.2 hh.1 (by omega)
  have hz1 : rz (u * h) := rz_c (by unfold ab; split <;> omega)
  have hz2 : rz (v * 1) := by rw [Int.mul_one]; exact hrf.2.1
  have hm := Mul_f u v h 1 hrf (rf1 (rz_i (by omega)))
  rw [resF_t ⟨hz1, hz2⟩, Int.mul_one] at hm
  obtain ⟨c1, c2, c3, _⟩ := low_spec (p := u * h) (q := v) (by omega)
  have hrf2 := low_rf hz1 hrf.2.1 (show v ≠ 0 by omega)
  generalize np (u * h) v = x at *
  generalize nq (u * h) v = y at *
  have key : x * s = h * c * y := by
    have e1 : x * s * v = h * c * y * v := by
      calc x * s * v = x * v * s := by rw [Int.mul_assoc, Int.mul_comm s v, ← Int.mul_assoc]
        _ = u * h * y * s := by rw [c3]
        _ = u * s * (h * y) := by rw [Int.mul_assoc u h y, Int.mul_assoc u, Int.mul_comm (h * y) s, ← Int.mul_assoc]
        _ = c * v * (h * y) := by rw [a3]
        _ = h * c * y * v := by rw [Int.mul_comm c v, Int.mul_assoc v c, Int.mul_comm v, ← Int.mul_assoc c h y, Int.mul_comm c h]
    exact Int.eq_of_mul_eq_mul_right (by omega) e1
  refine ⟨u, v, x, y, hrf, hrf2, ho, hm, cmpI_one ?_, cmpI_one ?_⟩
  · rw [Int.mul_one]
    have e : (l - 1) * y * s < x * s := by
      rw [key, Int.mul_assoc, Int.mul_comm y s, ← Int.mul_assoc]
      exact Int.mul_lt_mul_of_pos_right h1 c1
    exact Int.lt_of_mul_lt_mul_right e (by omega)
  · rw [Int.mul_one]
    have e : x * s < (l + 1) * y * s := by
      rw [key, Int.mul_assoc (l + 1), Int.mul_comm y s, ← Int.mul_assoc]
      exact Int.mul_lt_mul_of_pos_right h2 c1
    exact Int.lt_of_mul_lt_mul_right e (by omega)

end Go.Proofs.Ytnifpooobleahaa
