/-
  Layer 4: the program's functions and the reference's return the same.
-/
import Derived.Test.YtlejmkmcghbdiaaGreatDoorRefV
import Derived.Test.YtlejmkmcghbdiaaGreatDoorRefG
import Derived.Test.YtlejmkmcghbdiaaGreatDoorBigY
set_option linter.all false
namespace Go.Proofs.YtlejmkmcghbdiaaGreatDoor
open Go.RowKit Go.Ab
attribute [local irreducible] AWP Go.Ab.Sub Means MeansH CallK CallG CallT CallGT CallU

theorem rz_0 : rz 0 := rz_c (by decide)
theorem rz_r60 (x : Int) : rz (r60 x) := by
  unfold r60
  by_cases h : rz x
  · rwa [if_pos h]
  · rw [if_neg h]; exact rz_0
section
variable (s1 s2 : Int) (a b : List Int) (hla : a.length ≤ 100000) (hlb : b.length ≤ 100000)
include hla hlb
theorem add_two : ∃ x e, rz x ∧ Means false Tryz.prog 6 [big2 s1 a, big2 s2 b] (.tup [bigZ x, ii e]) ∧ Means false Tryz.prog 7 [big2 s1 a, big2 s2 b] (.tup [bigZ x, ii e]) := by
  by_cases h : isR s1 a ∧ isR s2 b
  · obtain ⟨z, hz, rfl, rfl⟩ := isR_to h.1
    obtain ⟨w, hw, rfl, rfl⟩ := isR_to h.2
    exact ⟨_, _, rz_r60 (z + w), Add_m z w hz hw, rAdd_m z w hz hw⟩
  · exact ⟨0, 1, rz_0, Add_bad s1 s2 a b hla hlb h, rAdd_bad s1 s2 a b hla hlb h⟩
theorem sub_two : ∃ x e, rz x ∧ Means false Tryz.prog 8 [big2 s1 a, big2 s2 b] (.tup [bigZ x, ii e]) ∧ Means false Tryz.prog 9 [big2 s1 a, big2 s2 b] (.tup [bigZ x, ii e]) := by
  by_cases h : isR s1 a ∧ isR s2 b
  · obtain ⟨z, hz, rfl, rfl⟩ := isR_to h.1
    obtain ⟨w, hw, rfl, rfl⟩ := isR_to h.2
    exact ⟨_, _, rz_r60 (z - w), Sub_m z w hz hw, rSub_m z w hz hw⟩
  · exact ⟨0, 1, rz_0, Sub_bad s1 s2 a b hla hlb h, rSub_bad s1 s2 a b hla hlb h⟩
theorem mul_two : ∃ x e, rz x ∧ Means false Tryz.prog 10 [big2 s1 a, big2 s2 b] (.tup [bigZ x, ii e]) ∧ Means false Tryz.prog 11 [big2 s1 a, big2 s2 b] (.tup [bigZ x, ii e]) := by
  by_cases h : isR s1 a ∧ isR s2 b
  · obtain ⟨z, hz, rfl, rfl⟩ := isR_to h.1
    obtain ⟨w, hw, rfl, rfl⟩ := isR_to h.2
    exact ⟨_, _, rz_r60 (z * w), Mul_m z w hz hw, rMul_m z w hz hw⟩
  · exact ⟨0, 1, rz_0, Mul_bad s1 s2 a b hla hlb h, rMul_bad s1 s2 a b hla hlb h⟩
theorem gcd_two : ∃ x e, rz x ∧ Means false Tryz.prog 19 [big2 s1 a, big2 s2 b] (.tup [bigZ x, ii e]) ∧ Means false Tryz.prog 20 [big2 s1 a, big2 s2 b] (.tup [bigZ x, ii e]) := by
  by_cases h : isR s1 a ∧ isR s2 b
  · obtain ⟨z, hz, rfl, rfl⟩ := isR_to h.1
    obtain ⟨w, hw, rfl, rfl⟩ := isR_to h.2
    refine ⟨_, _, ?_, Gcd_m z w hz hw, rGcd_m z w hz hw⟩
    unfold rz at hz hw ⊢
    exact gcd_bd hz hw
  · exact ⟨0, 1, rz_0, Gcd_bad s1 s2 a b hla hlb h, rGcd_bad s1 s2 a b hla hlb h⟩
theorem div_two : ∃ x y e, (rz x ∧ rz y) ∧ Means false Tryz.prog 13 [big2 s1 a, big2 s2 b] (.tup [bigZ x, bigZ y, ii e]) ∧ Means false Tryz.prog 14 [big2 s1 a, big2 s2 b] (.tup [bigZ x, bigZ y, ii e]) := by
  by_cases h : isR s1 a ∧ isR s2 b
  · obtain ⟨z, hz, rfl, rfl⟩ := isR_to h.1
    obtain ⟨w, hw, rfl, rfl⟩ := isR_to h.2
    by_cases h0 : w = 0
    · exact ⟨0, 0, 15, ⟨rz_0, rz_0⟩, Div_0 z w hz hw h0, by subst h0; exact rDiv_0 z hz⟩
    · refine ⟨_, _, _, ⟨?_, ?_⟩, Div_m z w hz hw h0, rDiv_m z w hz hw h0⟩
      · have := dq_bd (z := z) h0
        unfold rz at hz ⊢; omega
      · obtain ⟨p, n⟩ := dr_bd (z := z) h0
        unfold rz at hw ⊢
        have : ab (dr z w) ≤ ab w := by
          rcases sg_cases w with q | q | q
          · have := n q.2.1; unfold ab; split <;> split <;> omega
          · omega
          · have := p q.2.1; unfold ab; split <;> split <;> omega
        omega
  · exact ⟨0, 0, 1, ⟨rz_0, rz_0⟩, Div_bad s1 s2 a b hla hlb h, rDiv_bad s1 s2 a b hla hlb h⟩
theorem cmp_two : ∃ c, Means false Tryz.prog 23 [big2 s1 a, big2 s2 b] (ii c) ∧ Means false Tryz.prog 24 [big2 s1 a, big2 s2 b] (ii c) := by
  by_cases h : isR s1 a ∧ isR s2 b
  · obtain ⟨z, hz, rfl, rfl⟩ := isR_to h.1
    obtain ⟨w, hw, rfl, rfl⟩ := isR_to h.2
    exact ⟨_, Compare_m z w hz hw, rCompare_m z w hz hw⟩
  · exact ⟨0, Compare_bad s1 s2 a b hla hlb h, rCompare_bad s1 s2 a b hla hlb h⟩
end
section
variable (s1 : Int) (a : List Int) (hla : a.length ≤ 100000)
include hla
theorem neg_two : ∃ x, rz x ∧ Means false Tryz.prog 28 [big2 s1 a] (bigZ x) ∧ Means false Tryz.prog 29 [big2 s1 a] (bigZ x) := by
  by_cases h : isR s1 a
  · obtain ⟨z, hz, rfl, rfl⟩ := isR_to h
    exact ⟨-z, rz_neg hz, Neg_m z hz, rNeg_m z hz⟩
  · exact ⟨0, rz_0, Neg_bad s1 a hla h, rNeg_bad s1 a hla h⟩
theorem int_two : ∃ k b, Means false Tryz.prog 15 [big2 s1 a] (.tup [ii k, bb b]) ∧ Means false Tryz.prog 16 [big2 s1 a] (.tup [ii k, bb b]) := by
  by_cases h : isR s1 a
  · obtain ⟨z, hz, rfl, rfl⟩ := isR_to h
    exact ⟨_, _, Int_m z hz, rInt_m z hz⟩
  · exact ⟨0, false, Int_bad s1 a hla h, rInt_bad s1 a hla h⟩
theorem text_two : ∃ t : List UInt8, Means false Tryz.prog 26 [big2 s1 a] (sb t) ∧ Means false Tryz.prog 27 [big2 s1 a] (sb t) := by
  by_cases h : isR s1 a
  · obtain ⟨z, hz, rfl, rfl⟩ := isR_to h
    exact ⟨_, Text_m z hz, rText_m z hz⟩
  · exact ⟨[], Text_bad s1 a (by omega) h, rText_bad s1 a hla h⟩
end

end Go.Proofs.YtlejmkmcghbdiaaGreatDoor
