import Derived.Test.YtebinaffldlihaaGreatDoorBigT
set_option linter.all false
namespace Go.Proofs.YtebinaffldlihaaGreatDoor
open Go.RowKit Go.Ab
abbrev dd (u : Nat) : List UInt8 := Lib.decDigits u
abbrev oo (u : Nat) : UInt8 := UInt8.ofNat (48 + u)
theorem cL {u : Nat} (h : u < 10) : dd u = [oo u] := by unfold dd; rw [Lib.decDigits, dif_pos h]
theorem vM {q r : Nat} (hq : 0 < q) (hr : r < 10) : dd (10 * q + r) = dd q ++ [oo r] := by
  unfold dd
  rw [Lib.decDigits, dif_neg (by omega), show (10 * q + r) / 10 = q by omega, show (10 * q + r) % 10 = r by omega]
theorem c5 {u : Nat} (h : 10 ≤ u) : dd u = dd (u / 10) ++ [oo (u % 10)] := by
  have := vM (q := u / 10) (r := u % 10) (by omega) (by omega)
  rwa [show 10 * (u / 10) + u % 10 = u by omega] at this
def five (r : Nat) : List UInt8 := [oo (r / 10000), oo (r / 1000 % 10), oo (r / 100 % 10), oo (r / 10 % 10), oo (r % 10)]
theorem wY {q r : Nat} (hq : 0 < q) (hr : r < 100000) : dd (q * 100000 + r) = dd q ++ five r := by
  rw [c5 (by omega), c5 (u := (q * 100000 + r) / 10) (by omega), c5 (u := (q * 100000 + r) / 10 / 10) (by omega), c5 (u := (q * 100000 + r) / 10 / 10 / 10) (by omega), c5 (u := (q * 100000 + r) / 10 / 10 / 10 / 10) (by omega)]
  rw [show (q * 100000 + r) / 10 / 10 / 10 / 10 / 10 = q by omega, show (q * 100000 + r) / 10 / 10 / 10 / 10 % 10 = r / 10000 by omega, show (q * 100000 + r) / 10 / 10 / 10 % 10 = r / 1000 % 10 by omega,
    show (q * 100000 + r) / 10 / 10 % 10 = r / 100 % 10 by omega, show (q * 100000 + r) / 10 % 10 = r / 10 % 10 by omega, show (q * 100000 + r) % 10 = r % 10 by omega]
  simp [five]
theorem nW {r : Nat} (hr : r < 100000) : 1 ≤ (dd r).length ∧ (dd r).length ≤ 5 ∧ Lib.repeatL [48] (5 - (dd r).length) ++ dd r = five r := by
  by_cases h1 : r < 10
  · rw [cL h1]
    refine ⟨by simp, by simp, ?_⟩
    unfold five
    rw [show r / 10000 = 0 by omega, show r / 1000 % 10 = 0 by omega, show r / 100 % 10 = 0 by omega, show r / 10 % 10 = 0 by omega, show r % 10 = r by omega]
    rfl
  · by_cases h2 : r < 100
    · rw [c5 (by omega), cL (u := r / 10) (by omega)]
      refine ⟨by simp, by simp, ?_⟩
      unfold five
      rw [show r / 10000 = 0 by omega, show r / 1000 % 10 = 0 by omega, show r / 100 % 10 = 0 by omega, show r / 10 % 10 = r / 10 by omega]
      rfl
    · by_cases h3 : r < 1000
      · rw [c5 (by omega), c5 (u := r / 10) (by omega), cL (u := r / 10 / 10) (by omega)]
        refine ⟨by simp, by simp, ?_⟩
        unfold five
        rw [show r / 10000 = 0 by omega, show r / 1000 % 10 = 0 by omega, show r / 100 % 10 = r / 10 / 10 by omega]
        rfl
      · by_cases h4 : r < 10000
        · rw [c5 (by omega), c5 (u := r / 10) (by omega), c5 (u := r / 10 / 10) (by omega), cL (u := r / 10 / 10 / 10) (by omega)]
          refine ⟨by simp, by simp, ?_⟩
          unfold five
          rw [show r / 10000 = 0 by omega, show r / 1000 % 10 = r / 10 / 10 / 10 by omega, show r / 100 % 10 = r / 10 / 10 % 10 by omega]
          rfl
        · rw [c5 (by omega), c5 (u := r / 10) (by omega), c5 (u := r / 10 / 10) (by omega), c5 (u := r / 10 / 10 / 10) (by omega), cL (u := r / 10 / 10 / 10 / 10) (by omega)]
          refine ⟨by simp, by simp, ?_⟩
          unfold five
          rw [show r / 10000 = r / 10 / 10 / 10 / 10 by omega, show r / 1000 % 10 = r / 10 / 10 / 10 % 10 by omega, show r / 100 % 10 = r / 10 / 10 % 10 by omega]
          rfl
def dn (n : Int) : List UInt8 := if n ≤ 0 then [] else dd n.toNat
theorem yM {n : Int} (h : 0 < n) : dn n = dn (n / 100000) ++ (if 0 < n / 100000 then Lib.repeatL [48] (5 - (dd (n % 100000).toNat).length) ++ dd (n % 100000).toNat else dd (n % 100000).toNat) := by
  unfold dn
  rw [if_neg (by omega)]
  split
  · rw [if_neg (by omega), show n % 100000 = n by omega]; rfl
  · rw [if_pos (by omega), (nW (r := (n % 100000).toNat) (by omega)).2.2, ← wY (by omega) (by omega)]
    congr 1
    omega
def txt (z : Int) : List UInt8 := if z = 0 then [48] else if z < 0 then 45 :: dd z.natAbs else dd z.natAbs
end Go.Proofs.YtebinaffldlihaaGreatDoor
