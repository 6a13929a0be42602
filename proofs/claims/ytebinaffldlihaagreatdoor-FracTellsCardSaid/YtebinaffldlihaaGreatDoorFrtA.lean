import Derived.Test.YtebinaffldlihaaGreatDoorFrrX
import Derived.Test.YtebinaffldlihaaGreatDoorFracS
set_option linter.all false
namespace Go.Proofs.YtebinaffldlihaaGreatDoor
open Go.RowKit Go.Ab
attribute [local irreducible] AWP Go.Ab.Sub Means MeansH CallK CallG CallT CallGT CallU
theorem gM {ok : Prop} [Decidable ok] {p q : Int} {A B : AV → Prop} (h : ok → rz p ∧ rz q ∧ q ≠ 0) (h1 : A (resF ok p q)) (h2 : B (resF ok p q)) : ∃ x y e, (rz x ∧ rz y) ∧ A (.tup [frZ x y, ii e]) ∧ B (.tup [frZ x y, ii e]) := by
  by_cases o : ok
  · rw [cP o] at h1 h2
    obtain ⟨a, b, c⟩ := h o
    have := pR a b c
    exact ⟨_, _, _, ⟨this.1, this.2.1⟩, h1, h2⟩
  · rw [dA o] at h1 h2
    exact ⟨_, _, _, ⟨bA (by decide), bA (by decide)⟩, h1, h2⟩
section
variable (s1 : Int) (a : List Int) (t1 : Int) (b : List Int) (s2 : Int) (c : List Int) (t2 : Int) (d : List Int) (ha : a.length ≤ 100000) (hb : b.length ≤ 100000) (hc : c.length ≤ 100000) (hd : d.length ≤ 100000)
include ha hb hc hd
theorem u4 : ∃ x y e, (rz x ∧ rz y) ∧ Means false Tryz.prog 6 [frac4 s1 a t1 b, frac4 s2 c t2 d] (.tup [frZ x y, ii e]) ∧ Means false Tryz.prog 7 [frac4 s1 a t1 b, frac4 s2 c t2 d] (.tup [frZ x y, ii e]) := by
  by_cases h : isF s1 a t1 b ∧ isF s2 c t2 d
  · obtain ⟨p, q, h1, rfl, rfl, rfl, rfl⟩ := cI h.1
    obtain ⟨r, s, h2, rfl, rfl, rfl, rfl⟩ := cI h.2
    have ne : q * s ≠ 0 := Int.mul_ne_zero (by have := h1.2.2.1; omega) (by have := h2.2.2.1; omega)
    exact gM (A := fun R => Means false Tryz.prog 6 _ R) (B := fun R => Means false Tryz.prog 7 _ R) (fun h => ⟨h.1.2.2, h.2, ne⟩) (u5 p q r s h1 h2) (yE p q r s h1 h2)
  · exact ⟨0, 0, 1, ⟨bA (by decide), bA (by decide)⟩, u6 s1 a t1 b s2 c t2 d ha hb hc hd h, sC s1 a t1 b s2 c t2 d ha hb hc hd h⟩
theorem u7 : ∃ x y e, (rz x ∧ rz y) ∧ Means false Tryz.prog 8 [frac4 s1 a t1 b, frac4 s2 c t2 d] (.tup [frZ x y, ii e]) ∧ Means false Tryz.prog 9 [frac4 s1 a t1 b, frac4 s2 c t2 d] (.tup [frZ x y, ii e]) := by
  by_cases h : isF s1 a t1 b ∧ isF s2 c t2 d
  · obtain ⟨p, q, h1, rfl, rfl, rfl, rfl⟩ := cI h.1
    obtain ⟨r, s, h2, rfl, rfl, rfl, rfl⟩ := cI h.2
    have ne : q * s ≠ 0 := Int.mul_ne_zero (by have := h1.2.2.1; omega) (by have := h2.2.2.1; omega)
    exact gM (A := fun R => Means false Tryz.prog 8 _ R) (B := fun R => Means false Tryz.prog 9 _ R) (fun h => ⟨h.1.2.2, h.2, ne⟩) (xM p q r s h1 h2) (yF p q r s h1 h2)
  · exact ⟨0, 0, 1, ⟨bA (by decide), bA (by decide)⟩, u9 s1 a t1 b s2 c t2 d ha hb hc hd h, sD s1 a t1 b s2 c t2 d ha hb hc hd h⟩
theorem uA : ∃ x y e, (rz x ∧ rz y) ∧ Means false Tryz.prog 11 [frac4 s1 a t1 b, frac4 s2 c t2 d] (.tup [frZ x y, ii e]) ∧ Means false Tryz.prog 12 [frac4 s1 a t1 b, frac4 s2 c t2 d] (.tup [frZ x y, ii e]) := by
  by_cases h : isF s1 a t1 b ∧ isF s2 c t2 d
  · obtain ⟨p, q, h1, rfl, rfl, rfl, rfl⟩ := cI h.1
    obtain ⟨r, s, h2, rfl, rfl, rfl, rfl⟩ := cI h.2
    have ne : q * s ≠ 0 := Int.mul_ne_zero (by have := h1.2.2.1; omega) (by have := h2.2.2.1; omega)
    exact gM (A := fun R => Means false Tryz.prog 11 _ R) (B := fun R => Means false Tryz.prog 12 _ R) (fun h => ⟨h.1, h.2, ne⟩) (xN p q r s h1 h2) (yG p q r s h1 h2)
  · exact ⟨0, 0, 1, ⟨bA (by decide), bA (by decide)⟩, uB s1 a t1 b s2 c t2 d ha hb hc hd h, sE s1 a t1 b s2 c t2 d ha hb hc hd h⟩
theorem uC : ∃ x y e, (rz x ∧ rz y) ∧ Means false Tryz.prog 13 [frac4 s1 a t1 b, frac4 s2 c t2 d] (.tup [frZ x y, ii e]) ∧ Means false Tryz.prog 14 [frac4 s1 a t1 b, frac4 s2 c t2 d] (.tup [frZ x y, ii e]) := by
  by_cases h : isF s1 a t1 b ∧ isF s2 c t2 d
  · obtain ⟨p, q, h1, rfl, rfl, rfl, rfl⟩ := cI h.1
    obtain ⟨r, s, h2, rfl, rfl, rfl, rfl⟩ := cI h.2
    by_cases h0 : r = 0
    · subst h0
      exact ⟨0, 0, 15, ⟨bA (by decide), bA (by decide)⟩, yH p q s h1 h2, yI p q s h1 h2⟩
    · have ne : q * r ≠ 0 := Int.mul_ne_zero (by have := h1.2.2.1; omega) h0
      exact gM (A := fun R => Means false Tryz.prog 13 _ R) (B := fun R => Means false Tryz.prog 14 _ R) (fun h => ⟨h.1, h.2, ne⟩) (xO p q r s h1 h2 h0) (yJ p q r s h1 h2 h0)
  · exact ⟨0, 0, 1, ⟨bA (by decide), bA (by decide)⟩, uD s1 a t1 b s2 c t2 d ha hb hc hd h, sF s1 a t1 b s2 c t2 d ha hb hc hd h⟩
theorem mH : ∃ x, Means false Tryz.prog 23 [frac4 s1 a t1 b, frac4 s2 c t2 d] (ii x) ∧ Means false Tryz.prog 24 [frac4 s1 a t1 b, frac4 s2 c t2 d] (ii x) := by
  by_cases h : isF s1 a t1 b ∧ isF s2 c t2 d
  · obtain ⟨p, q, h1, rfl, rfl, rfl, rfl⟩ := cI h.1
    obtain ⟨r, s, h2, rfl, rfl, rfl, rfl⟩ := cI h.2
    exact ⟨_, lG p q r s h1 h2, pS p q r s h1 h2⟩
  · exact ⟨0, mI s1 a t1 b s2 c t2 d ha hb hc hd h, l4 s1 a t1 b s2 c t2 d ha hb hc hd h⟩
end
section
variable (s1 : Int) (a : List Int) (t1 : Int) (b : List Int) (ha : a.length ≤ 100000) (hb : b.length ≤ 100000)
include ha hb
theorem pT : ∃ x, rz x ∧ Means false Tryz.prog 28 [frac4 s1 a t1 b] (bigZ x) ∧ Means false Tryz.prog 29 [frac4 s1 a t1 b] (bigZ x) := by
  by_cases h : isF s1 a t1 b
  · obtain ⟨p, q, h1, rfl, rfl, rfl, rfl⟩ := cI h
    exact ⟨_, k7 h1.2.2.1 h1.1, qV p q h1, uE p q h1⟩
  · exact ⟨0, bA (by decide), pU s1 a t1 b ha hb h, nT s1 a t1 b ha hb h⟩
theorem sG : ∃ x : List UInt8, Means false Tryz.prog 25 [frac4 s1 a t1 b] (sb x) ∧ Means false Tryz.prog 26 [frac4 s1 a t1 b] (sb x) := by
  by_cases h : isF s1 a t1 b
  · obtain ⟨p, q, h1, rfl, rfl, rfl, rfl⟩ := cI h
    exact ⟨_, k0 p q h1.1 h1.2.1, j8 p q h1.1 h1.2.1⟩
  · exact ⟨[], sH s1 a t1 b ha hb h, pV s1 a t1 b ha hb h⟩
theorem uF : ∃ x y e, (rz x ∧ rz y) ∧ Means false Tryz.prog 19 [big2 s1 a, big2 t1 b] (.tup [frZ x y, ii e]) ∧ Means false Tryz.prog 20 [big2 s1 a, big2 t1 b] (.tup [frZ x y, ii e]) := by
  by_cases h : isR s1 a ∧ isR t1 b
  · obtain ⟨p, hp, rfl, rfl⟩ := gB h.1
    obtain ⟨q, hq, rfl, rfl⟩ := gB h.2
    by_cases h0 : q = 0
    · subst h0
      exact ⟨0, 0, 15, ⟨bA (by decide), bA (by decide)⟩, uG p hp, uH p hp⟩
    · have := pR hp hq h0
      exact ⟨_, _, _, ⟨this.1, this.2.1⟩, nU p q hp hq h0, mJ p q hp hq h0⟩
  · exact ⟨0, 0, 1, ⟨bA (by decide), bA (by decide)⟩, wB s1 t1 a b ha hb h, uI s1 t1 a b ha hb h⟩
end
theorem wC (p q : Int) (hp : -9223372036854775808 ≤ p ∧ p ≤ 9223372036854775807) (hq : -9223372036854775808 ≤ q ∧ q ≤ 9223372036854775807) : ∃ x y e, (rz x ∧ rz y) ∧ Means false Tryz.prog 15 [ii p, ii q] (.tup [frZ x y, ii e]) ∧ Means false Tryz.prog 16 [ii p, ii q] (.tup [frZ x y, ii e]) := by
  by_cases h0 : q = 0
  · subst h0
    exact ⟨0, 0, 15, ⟨bA (by decide), bA (by decide)⟩, uJ p hp, xP p 0 0 0 15 hp hq (uH p (k8 hp))⟩
  · have := pR (k8 hp) (k8 hq) h0
    exact ⟨_, _, _, ⟨this.1, this.2.1⟩, yK p q hp hq h0, xP p q _ _ _ hp hq (mJ p q (k8 hp) (k8 hq) h0)⟩
theorem sI (s : List UInt8) (hs : s.length ≤ 100000) : ∃ x y e, (rz x ∧ rz y) ∧ Means false Tryz.prog 17 [sb s] (.tup [frZ x y, ii e]) ∧ Means false Tryz.prog 18 [sb s] (.tup [frZ x y, ii e]) := by
  by_cases h : isT s
  · obtain ⟨p, q, hr, e⟩ := h
    have h1 : ∀ p' q', rf p' q' → s = ftxt p' q' → p = p' ∧ q = q' ∧ (0 : Int) = 0 := fun p' q' hr' e' => by
      obtain ⟨u, v⟩ := nV hr hr' (e ▸ e')
      exact ⟨u, v, rfl⟩
    have h2 : ¬ isT s → p = 0 ∧ q = 0 ∧ (0 : Int) = 2 := fun q0 => absurd ⟨p, q, hr, e⟩ q0
    exact ⟨p, q, 0, ⟨hr.1, hr.2.1⟩, mE s hs p q 0 h1 h2, qY s hs p q 0 h1 h2⟩
  · have h1 : ∀ p' q', rf p' q' → s = ftxt p' q' → (0 : Int) = p' ∧ (0 : Int) = q' ∧ (2 : Int) = 0 := fun p' q' hr' e' => absurd ⟨p', q', hr', e'⟩ h
    exact ⟨0, 0, 2, ⟨bA (by decide), bA (by decide)⟩, mE s hs 0 0 2 h1 (fun _ => ⟨rfl, rfl, rfl⟩), qY s hs 0 0 2 h1 (fun _ => ⟨rfl, rfl, rfl⟩)⟩
end Go.Proofs.YtebinaffldlihaaGreatDoor
