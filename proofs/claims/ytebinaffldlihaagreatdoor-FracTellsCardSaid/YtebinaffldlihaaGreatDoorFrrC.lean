import Derived.Test.YtebinaffldlihaaGreatDoorFrrA
import Derived.Test.YtebinaffldlihaaGreatDoorFracB
set_option linter.all false
namespace Go.Proofs.YtebinaffldlihaaGreatDoor
open Go.RowKit Go.Ab
attribute [local irreducible] AWP Go.Ab.Sub Means MeansH CallK CallG CallT CallGT CallU
set_option maxHeartbeats 4000000 in
set_option maxRecDepth 20000 in
theorem rU : ∀ (n : Nat) (p q r s : Int), q.toNat + s.toNat ≤ n → rz p → rz q → rz r → rz s → 0 < q → 0 < s → Means false Tryz.prog 54 [bigZ p, bigZ q, bigZ r, bigZ s] (ii (cmpI (p * s) (r * q)))
  | 0, p, q, r, s, hn, _, _, _, _, hq, hs => by omega
  | n + 1, p, q, r, s, hn, zp, zq, zr, zs, hq, hs => by
    have hu0 := Int.emod_nonneg p (show q ≠ 0 by omega)
    have hu1 := Int.emod_lt_of_pos p hq
    have hv0 := Int.emod_nonneg r (show s ≠ 0 by omega)
    have hv1 := Int.emod_lt_of_pos r hs
    have zx := k7 hq zp
    have zy := k7 hs zr
    have zu := nE (p := p) hq zq
    have zv := nE (p := r) hs zs
    have c2 := fM (p / q) (r / s)
    have s1 := dN (p % q)
    have s2 := dN (r % s)
    have d1 := cA zp zq (by omega) (bR hq).1 (bR hq).2
    have d2 := cA zr zs (by omega) (bR hs).1 (bR hs).2
    have d3 := gE _ _ zx zy
    have ih := rU n s (r % s) q (p % q)
    have sgu : sg (p % q) = 0 ↔ p % q = 0 := by rcases aJ (p % q) with h | h | h <;> omega
    have sgv : sg (r % s) = 0 ↔ r % s = 0 := by rcases aJ (r % s) with h | h | h <;> omega
    by_cases hxy : p / q = r / s
    · have hc0 : cmpI (p / q) (r / s) = 0 := c2.2 hxy
      have ct := rV hxy
      have cz := fun h => pF hq hs hu0 hv0 h
      rw [ct]
      rw [hc0] at d3
      generalize p / q = x at *
      generalize r / s = y at *
      generalize p % q = u at *
      generalize r % s = v at *
      refine aK false 54 [.tmp 8] Tryz.func54 rfl rfl rfl (by simp) (by decide) rfl fun X hX => ?_
      (repeat (first | refine aC ?_ | refine a7 ?_ | ((first | refine a8 [0, 1, 2, 3, 4, 5, 6, 7, 8, 9, 10, 12, 13, 15, 34, 43] hX ?_ | refine a6 [0, 1, 2, 3, 4, 5, 6, 7, 8, 9, 10, 12, 13, 15, 34, 43] hX mixed ?_ | refine aD ?_ | refine aA ?_ | refine aB ?_); (simp [go_sem]; try (refine ⟨by kernel_rfl, ?_⟩)))))
      first | refine aE (d1) rfl (by simp [go_sem]) rfl ?_ | refine aF (d1) rfl (by simp [go_sem]) rfl ?_
      try (simp [go_sem]; try (refine ⟨by kernel_rfl, ?_⟩))
      (repeat (first | refine aC ?_ | refine a7 ?_ | ((first | refine a8 [0, 1, 2, 3, 4, 5, 6, 7, 8, 9, 10, 12, 13, 15, 34, 43] hX ?_ | refine a6 [0, 1, 2, 3, 4, 5, 6, 7, 8, 9, 10, 12, 13, 15, 34, 43] hX mixed ?_ | refine aD ?_ | refine aA ?_ | refine aB ?_); (simp [go_sem]; try (refine ⟨by kernel_rfl, ?_⟩)))))
      first | refine aE (d2) rfl (by simp [go_sem]) rfl ?_ | refine aF (d2) rfl (by simp [go_sem]) rfl ?_
      try (simp [go_sem]; try (refine ⟨by kernel_rfl, ?_⟩))
      (repeat (first | refine aC ?_ | refine a7 ?_ | ((first | refine a8 [0, 1, 2, 3, 4, 5, 6, 7, 8, 9, 10, 12, 13, 15, 34, 43] hX ?_ | refine a6 [0, 1, 2, 3, 4, 5, 6, 7, 8, 9, 10, 12, 13, 15, 34, 43] hX mixed ?_ | refine aD ?_ | refine aA ?_ | refine aB ?_); (simp [go_sem]; try (refine ⟨by kernel_rfl, ?_⟩)))))
      first | refine aE (d3) rfl (by simp [go_sem]) rfl ?_ | refine aF (d3) rfl (by simp [go_sem]) rfl ?_
      try (simp [go_sem]; try (refine ⟨by kernel_rfl, ?_⟩))
      (repeat (first | refine aC ?_ | refine a7 ?_ | ((first | refine a8 [0, 1, 2, 3, 4, 5, 6, 7, 8, 9, 10, 12, 13, 15, 34, 43] hX ?_ | refine a6 [0, 1, 2, 3, 4, 5, 6, 7, 8, 9, 10, 12, 13, 15, 34, 43] hX mixed ?_ | refine aD ?_ | refine aA ?_ | refine aB ?_); (simp [go_sem]; try (refine ⟨by kernel_rfl, ?_⟩)))))
      refine aG (b := false) (by simp [go_sem]) (fun h => by cases h) (fun _ => ?_)
      (repeat (first | refine aC ?_ | refine a7 ?_ | ((first | refine a8 [0, 1, 2, 3, 4, 5, 6, 7, 8, 9, 10, 12, 13, 15, 34, 43] hX ?_ | refine a6 [0, 1, 2, 3, 4, 5, 6, 7, 8, 9, 10, 12, 13, 15, 34, 43] hX mixed ?_ | refine aD ?_ | refine aA ?_ | refine aB ?_); (simp [go_sem]; try (refine ⟨by kernel_rfl, ?_⟩)))))
      by_cases huv : u = 0 ∨ v = 0
      · refine aG (b := true) (by simp [go_sem, sgu, sgv, huv]) (fun _ => ?_) (fun h => by cases h)
        rw [cz huv]
        have w1 := w64 (x := sg u - sg v) (by omega) (by omega)
        (repeat (first | refine aC ?_ | refine a7 ?_ | ((first | refine a8 [0, 1, 2, 3, 4, 5, 6, 7, 8, 9, 10, 12, 13, 15, 34, 43] hX ?_ | refine a6 [0, 1, 2, 3, 4, 5, 6, 7, 8, 9, 10, 12, 13, 15, 34, 43] hX mixed ?_ | refine aD ?_ | refine aA ?_ | refine aB ?_); (simp [go_sem, w1]; try (refine ⟨by kernel_rfl, ?_⟩)))))
      · refine aG (b := false) (by simp [go_sem, sgu, sgv]; omega) (fun h => by cases h) (fun _ => ?_)
        have hE : cmpI (u * s) (v * q) = cmpI (s * u) (q * v) := by rw [Int.mul_comm u s, Int.mul_comm v q]
        rw [hE]
        (repeat (first | refine aC ?_ | refine a7 ?_ | ((first | refine a8 [0, 1, 2, 3, 4, 5, 6, 7, 8, 9, 10, 12, 13, 15, 34, 43] hX ?_ | refine a6 [0, 1, 2, 3, 4, 5, 6, 7, 8, 9, 10, 12, 13, 15, 34, 43] hX mixed ?_ | refine aD ?_ | refine aA ?_ | refine aB ?_); (simp [go_sem]; try (refine ⟨by kernel_rfl, ?_⟩)))))
        first | refine aE (ih (by omega) zs zv zq zu (by omega) (by omega)) rfl (by simp [go_sem]) rfl ?_ | refine aF (ih (by omega) zs zv zq zu (by omega) (by omega)) rfl (by simp [go_sem]) rfl ?_
        try (simp [go_sem]; try (refine ⟨by kernel_rfl, ?_⟩))
        (repeat (first | refine aC ?_ | refine a7 ?_ | ((first | refine a8 [0, 1, 2, 3, 4, 5, 6, 7, 8, 9, 10, 12, 13, 15, 34, 43] hX ?_ | refine a6 [0, 1, 2, 3, 4, 5, 6, 7, 8, 9, 10, 12, 13, 15, 34, 43] hX mixed ?_ | refine aD ?_ | refine aA ?_ | refine aB ?_); (simp [go_sem]; try (refine ⟨by kernel_rfl, ?_⟩)))))
    · have hc0 : ¬ cmpI (p / q) (r / s) = 0 := fun h => hxy (c2.1 h)
      rw [rW hq hs hxy]
      refine aK false 54 [.tmp 8] Tryz.func54 rfl rfl rfl (by simp) (by decide) rfl fun X hX => ?_
      (repeat (first | refine aC ?_ | refine a7 ?_ | ((first | refine a8 [0, 1, 2, 3, 4, 5, 6, 7, 8, 9, 10, 12, 13, 15, 34, 43] hX ?_ | refine a6 [0, 1, 2, 3, 4, 5, 6, 7, 8, 9, 10, 12, 13, 15, 34, 43] hX mixed ?_ | refine aD ?_ | refine aA ?_ | refine aB ?_); (simp [go_sem]; try (refine ⟨by kernel_rfl, ?_⟩)))))
      first | refine aE (d1) rfl (by simp [go_sem]) rfl ?_ | refine aF (d1) rfl (by simp [go_sem]) rfl ?_
      try (simp [go_sem]; try (refine ⟨by kernel_rfl, ?_⟩))
      (repeat (first | refine aC ?_ | refine a7 ?_ | ((first | refine a8 [0, 1, 2, 3, 4, 5, 6, 7, 8, 9, 10, 12, 13, 15, 34, 43] hX ?_ | refine a6 [0, 1, 2, 3, 4, 5, 6, 7, 8, 9, 10, 12, 13, 15, 34, 43] hX mixed ?_ | refine aD ?_ | refine aA ?_ | refine aB ?_); (simp [go_sem]; try (refine ⟨by kernel_rfl, ?_⟩)))))
      first | refine aE (d2) rfl (by simp [go_sem]) rfl ?_ | refine aF (d2) rfl (by simp [go_sem]) rfl ?_
      try (simp [go_sem]; try (refine ⟨by kernel_rfl, ?_⟩))
      (repeat (first | refine aC ?_ | refine a7 ?_ | ((first | refine a8 [0, 1, 2, 3, 4, 5, 6, 7, 8, 9, 10, 12, 13, 15, 34, 43] hX ?_ | refine a6 [0, 1, 2, 3, 4, 5, 6, 7, 8, 9, 10, 12, 13, 15, 34, 43] hX mixed ?_ | refine aD ?_ | refine aA ?_ | refine aB ?_); (simp [go_sem]; try (refine ⟨by kernel_rfl, ?_⟩)))))
      first | refine aE (d3) rfl (by simp [go_sem]) rfl ?_ | refine aF (d3) rfl (by simp [go_sem]) rfl ?_
      try (simp [go_sem]; try (refine ⟨by kernel_rfl, ?_⟩))
      (repeat (first | refine aC ?_ | refine a7 ?_ | ((first | refine a8 [0, 1, 2, 3, 4, 5, 6, 7, 8, 9, 10, 12, 13, 15, 34, 43] hX ?_ | refine a6 [0, 1, 2, 3, 4, 5, 6, 7, 8, 9, 10, 12, 13, 15, 34, 43] hX mixed ?_ | refine aD ?_ | refine aA ?_ | refine aB ?_); (simp [go_sem]; try (refine ⟨by kernel_rfl, ?_⟩)))))
      refine aG (b := true) (by simp [go_sem, hc0]) (fun _ => ?_) (fun h => by cases h)
      (repeat (first | refine aC ?_ | refine a7 ?_ | ((first | refine a8 [0, 1, 2, 3, 4, 5, 6, 7, 8, 9, 10, 12, 13, 15, 34, 43] hX ?_ | refine a6 [0, 1, 2, 3, 4, 5, 6, 7, 8, 9, 10, 12, 13, 15, 34, 43] hX mixed ?_ | refine aD ?_ | refine aA ?_ | refine aB ?_); (simp [go_sem]; try (refine ⟨by kernel_rfl, ?_⟩)))))
set_option maxHeartbeats 4000000 in
theorem pS (a b c d : Int) (hab : rf a b) (hcd : rf c d) : Means false Tryz.prog 24 [frZ a b, frZ c d] (ii (cmpI (a * d) (c * b))) := by
  have hb := rU _ a b c d (Nat.le_refl _) hab.1 hab.2.1 hcd.1 hcd.2.1 hab.2.2.1 hcd.2.2.1
  refine aK false 22 [.tmp 4] Tryz.func24 rfl rfl rfl (by simp) (by decide) rfl fun X hX => ?_
  (repeat (first | refine aC ?_ | refine a7 ?_ | ((first | refine a8 [0, 1, 2, 3, 4, 12] hX ?_ | refine a6 [0, 1, 2, 3, 4, 12] hX mixed ?_ | refine aD ?_ | refine aA ?_ | refine aB ?_); (simp [go_sem]; try (refine ⟨by kernel_rfl, ?_⟩)))))
  first | refine aE (b5 a b hab) rfl (by simp [go_sem]) rfl ?_ | refine aF (b5 a b hab) rfl (by simp [go_sem]) rfl ?_
  try (simp [go_sem]; try (refine ⟨by kernel_rfl, ?_⟩))
  first | refine aI (fun hg => b5 c d hcd) rfl (by simp [go_sem]) rfl ?_ | refine aH (fun hg => b5 c d hcd) rfl (by simp [go_sem]) rfl ?_
  try (simp [go_sem]; try (refine ⟨by kernel_rfl, ?_⟩))
  refine aG (b := false) (by simp [go_sem]) (fun h => by cases h) (fun _ => ?_)
  (repeat (first | refine aC ?_ | refine a7 ?_ | ((first | refine a8 [0, 1, 2, 3, 4, 12] hX ?_ | refine a6 [0, 1, 2, 3, 4, 12] hX mixed ?_ | refine aD ?_ | refine aA ?_ | refine aB ?_); (simp [go_sem]; try (refine ⟨by kernel_rfl, ?_⟩)))))
  first | refine aE (hb) rfl (by simp [go_sem]) rfl ?_ | refine aF (hb) rfl (by simp [go_sem]) rfl ?_
  try (simp [go_sem]; try (refine ⟨by kernel_rfl, ?_⟩))
  (repeat (first | refine aC ?_ | refine a7 ?_ | ((first | refine a8 [0, 1, 2, 3, 4, 12] hX ?_ | refine a6 [0, 1, 2, 3, 4, 12] hX mixed ?_ | refine aD ?_ | refine aA ?_ | refine aB ?_); (simp [go_sem]; try (refine ⟨by kernel_rfl, ?_⟩)))))
set_option maxHeartbeats 4000000 in
theorem uE (a b : Int) (h : rf a b) : Means false Tryz.prog 29 [frZ a b] (bigZ (a / b)) := by
  have hb := h.2.2.1
  refine aK false 20 [.cell 2 24] Tryz.func29 rfl rfl rfl (by simp) (by decide) rfl fun X hX => ?_
  (repeat (first | refine aC ?_ | refine a7 ?_ | ((first | refine a8 [0, 1, 2, 3, 8] hX ?_ | refine a6 [0, 1, 2, 3, 8] hX mixed ?_ | refine aD ?_ | refine aA ?_ | refine aB ?_); (simp [go_sem]; try (refine ⟨by kernel_rfl, ?_⟩)))))
  first | refine aE (b5 a b h) rfl (by simp [go_sem]) rfl ?_ | refine aF (b5 a b h) rfl (by simp [go_sem]) rfl ?_
  try (simp [go_sem]; try (refine ⟨by kernel_rfl, ?_⟩))
  refine aG (b := false) (by simp [go_sem]) (fun h => by cases h) (fun _ => ?_)
  (repeat (first | refine aC ?_ | refine a7 ?_ | ((first | refine a8 [0, 1, 2, 3, 8] hX ?_ | refine a6 [0, 1, 2, 3, 8] hX mixed ?_ | refine aD ?_ | refine aA ?_ | refine aB ?_); (simp [go_sem]; try (refine ⟨by kernel_rfl, ?_⟩)))))
  first | refine aE (cA h.1 h.2.1 (by omega) (bR hb).1 (bR hb).2) rfl (by simp [go_sem]) rfl ?_ | refine aF (cA h.1 h.2.1 (by omega) (bR hb).1 (bR hb).2) rfl (by simp [go_sem]) rfl ?_
  try (simp [go_sem]; try (refine ⟨by kernel_rfl, ?_⟩))
  (repeat (first | refine aC ?_ | refine a7 ?_ | ((first | refine a8 [0, 1, 2, 3, 8] hX ?_ | refine a6 [0, 1, 2, 3, 8] hX mixed ?_ | refine aD ?_ | refine aA ?_ | refine aB ?_); (simp [go_sem]; try (refine ⟨by kernel_rfl, ?_⟩)))))
end Go.Proofs.YtebinaffldlihaaGreatDoor
