import Derived.Test.YtebinaffldlihaaGreatDoorBigZ
import Derived.Test.YtebinaffldlihaaGreatDoorBigM
set_option linter.all false
namespace Go.Proofs.YtebinaffldlihaaGreatDoor
open Go.RowKit Go.Ab
attribute [local irreducible] AWP Go.Ab.Sub Means MeansH CallK CallG CallT CallGT
theorem vR : ∀ (k n : Nat), 0 < k → n < 10 ^ k → (dd n).length ≤ k
  | 0, n, h0, h => by omega
  | k + 1, n, h0, h => by
    by_cases h1 : n < 10
    · rw [cL h1]; simp
    · have hk : 0 < k := by
        refine Nat.pos_of_ne_zero fun e => ?_
        subst e
        simp at h; omega
      rw [c5 (by omega)]
      have := vR k (n / 10) hk (by rw [Nat.pow_succ] at h; omega)
      simp; omega
theorem vS : (1048576 : Nat) ^ 60 < (10 ^ 200) ^ 2 := by decide
theorem xI (k n : Nat) (h0 : 0 < k) (h : n < (10 ^ k) ^ 2) : (dd n).length ≤ k * 2 := vR (k * 2) n (by omega) (by rw [Nat.pow_mul]; exact h)
theorem gL {z : Int} (h : rz z) : (txt z).length ≤ 401 := by
  have h2 : z.natAbs < (10 ^ 200) ^ 2 := by
    refine Nat.lt_trans ?_ vS
    unfold rz at h
    rw [dO] at h
    have e : ((1048576 : Int) ^ 60) = ((1048576 ^ 60 : Nat) : Int) := (Int.natCast_pow 1048576 60).symm
    rw [e] at h
    exact Int.ofNat_lt.1 h
  have := xI 200 z.natAbs (by decide) h2
  clear h2
  unfold txt
  split
  · simp
  · split
    · rw [List.length_cons]; omega
    · omega
end Go.Proofs.YtebinaffldlihaaGreatDoor
