import Derived.Test.YtebinaffldlihaaGreatDoorFracA
import Derived.Test.YtebinaffldlihaaGreatDoorRefX
import Derived.Test.YtebinaffldlihaaGreatDoorRefG
set_option linter.all false
namespace Go.Proofs.YtebinaffldlihaaGreatDoor
open Go.RowKit Go.Ab
attribute [local irreducible] AWP Go.Ab.Sub Means MeansH CallK CallG CallT CallGT CallU
theorem cA {z w q r : Int} (hz : rz z) (hw : rz w) (h0 : w ≠ 0) (hq : dq z w = q) (hr : dr z w = r) : Means false Tryz.prog 50 [bigZ z, bigZ w] (.tup [bigZ q, bigZ r, ii 0]) := by
  have := yS z w hz hw h0
  rwa [hq, hr] at this
theorem jL {z w g : Int} (hz : rz z) (hw : rz w) (hg : (Int.gcd z w : Int) = g) : Means false Tryz.prog 49 [bigZ z, bigZ w] (.tup [bigZ g, ii 0]) := by
  have := qN z w hz hw
  rwa [hg] at this
theorem nB (x : Int) : rz (r60 x) := by
  unfold r60
  by_cases h : rz x
  · rwa [if_pos h]
  · rw [if_neg h]; exact bA (by decide)
set_option maxHeartbeats 4000000 in
set_option maxRecDepth 20000 in
theorem bM (s1 : Int) (L1 : List Int) (l1 : L1.length ≤ 9223372036854775807) (s2 : Int) (L2 : List Int) (l2 : L2.length ≤ 9223372036854775807) : Means false Tryz.prog 22 [frac4 s1 L1 s2 L2] (bb (decide (isF s1 L1 s2 L2))) := by
  refine aK false 33 [.tmp 2] Tryz.func22 rfl rfl rfl (by simp) (by decide) rfl fun X hX => ?_
  (repeat (first | refine aC ?_ | refine a7 ?_ | ((first | refine a8 [0, 1, 2, 3, 20] hX ?_ | refine a6 [0, 1, 2, 3, 20] hX mixed ?_ | refine aD ?_ | refine aA ?_ | refine aB ?_); (simp [go_sem]; try (refine ⟨by kernel_rfl, ?_⟩)))))
  first | refine aE (dR s1 L1 l1) rfl (by simp [go_sem]) rfl ?_ | refine aF (dR s1 L1 l1) rfl (by simp [go_sem]) rfl ?_
  try (simp [go_sem]; try (refine ⟨by kernel_rfl, ?_⟩))
  first | refine aI (fun hg => dR s2 L2 l2) rfl (by simp [go_sem]) rfl ?_ | refine aH (fun hg => dR s2 L2 l2) rfl (by simp [go_sem]) rfl ?_
  try (simp [go_sem]; try (refine ⟨by kernel_rfl, ?_⟩))
  by_cases h : isR s1 L1 ∧ isR s2 L2 ∧ ¬ s2 < 1
  · obtain ⟨h1, h2, h3⟩ := h
    have h3' : ¬ s2 ≤ 0 := by omega
    refine aG (b := false) (by simp [go_sem, h1, h2]; omega) (fun h => by cases h) (fun _ => ?_)
    obtain ⟨p, hp, rfl, rfl⟩ := gB h1
    obtain ⟨q, hq, rfl, rfl⟩ := gB h2
    have hq0 : 0 < q := by rcases aJ q with h | h | h <;> omega
    have e : isF (sg p) (dg (ab p)) (sg q) (dg (ab q)) ↔ (Int.gcd p q : Int) = 1 := by
      unfold isF rf
      rw [dE, dE]
      constructor
      · rintro ⟨_, _, _, _, _, h⟩; omega
      · intro h; exact ⟨h1, h2, hp, hq, hq0, by omega⟩
    have zg : rz (Int.gcd p q : Int) := nF hp hq
    have hc := fM (Int.gcd p q : Int) 1
    (repeat (first | refine aC ?_ | refine a7 ?_ | ((first | refine a8 [0, 1, 2, 3, 20] hX ?_ | refine a6 [0, 1, 2, 3, 20] hX mixed ?_ | refine aD ?_ | refine aA ?_ | refine aB ?_); (simp [go_sem]; try (refine ⟨by kernel_rfl, ?_⟩)))))
    first | refine aE (qN p q hp hq) rfl (by simp [go_sem]) rfl ?_ | refine aF (qN p q hp hq) rfl (by simp [go_sem]) rfl ?_
    try (simp [go_sem]; try (refine ⟨by kernel_rfl, ?_⟩))
    (repeat (first | refine aC ?_ | refine a7 ?_ | ((first | refine a8 [0, 1, 2, 3, 20] hX ?_ | refine a6 [0, 1, 2, 3, 20] hX mixed ?_ | refine aD ?_ | refine aA ?_ | refine aB ?_); (simp [go_sem]; try (refine ⟨by kernel_rfl, ?_⟩)))))
    first | refine aE (lM 1 (by decide)) rfl (by simp [go_sem]) rfl ?_ | refine aF (lM 1 (by decide)) rfl (by simp [go_sem]) rfl ?_
    try (simp [go_sem]; try (refine ⟨by kernel_rfl, ?_⟩))
    first | refine aE (gE _ 1 zg (bA (by decide))) rfl (by simp [go_sem]) rfl ?_ | refine aF (gE _ 1 zg (bA (by decide))) rfl (by simp [go_sem]) rfl ?_
    try (simp [go_sem]; try (refine ⟨by kernel_rfl, ?_⟩))
    (repeat (first | refine aC ?_ | refine a7 ?_ | ((first | refine a8 [0, 1, 2, 3, 20] hX ?_ | refine a6 [0, 1, 2, 3, 20] hX mixed ?_ | refine aD ?_ | refine aA ?_ | refine aB ?_); (simp [go_sem, e, hc]; try (refine ⟨by kernel_rfl, ?_⟩)))))
  · have e : ¬ isF s1 L1 s2 L2 := fun hf => h ⟨hf.1, hf.2.1, by
      obtain ⟨p, q, hr, _, _, rfl, _⟩ := cI hf
      have := hr.2.2.1
      rcases aJ q with h | h | h <;> omega⟩
    refine aG (b := true) (by simp [go_sem]; grind) (fun _ => ?_) (fun h => by cases h)
    (repeat (first | refine aC ?_ | refine a7 ?_ | ((first | refine a8 [0, 1, 2, 3, 20] hX ?_ | refine a6 [0, 1, 2, 3, 20] hX mixed ?_ | refine aD ?_ | refine aA ?_ | refine aB ?_); (simp [go_sem, e]; try (refine ⟨by kernel_rfl, ?_⟩)))))
theorem b5 (p q : Int) (h : rf p q) : Means false Tryz.prog 22 [frZ p q] (bb true) := by
  have := bM (sg p) (dg (ab p)) (by have := bB h.1; omega) (sg q) (dg (ab q)) (by have := bB h.2.1; omega)
  rwa [decide_eq_true (vO h)] at this
set_option maxHeartbeats 4000000 in
set_option maxRecDepth 20000 in
theorem mJ (p q : Int) (hp : rz p) (hq : rz q) (h0 : q ≠ 0) : Means false Tryz.prog 20 [bigZ p, bigZ q] (.tup [frZ (np p q) (nq p q), ii 0]) := by
  have hs0 : ¬ sg q = 0 := by rcases aJ q with h | h | h <;> omega
  have hgp := nG (p := p) h0
  have hg0 : (Int.gcd p q : Int) ≠ 0 := by omega
  have zg : rz (Int.gcd p q : Int) := nF hp hq
  have znp := fG hp
  have znq := fG hq
  refine aK false 57 [.cell 4 26, .tmp 5] Tryz.func20 rfl rfl rfl (by simp) (by decide) rfl fun X hX => ?_
  (repeat (first | refine aC ?_ | refine a7 ?_ | ((first | refine a8 [0, 1, 2, 3, 4, 5, 6, 8, 11, 21, 25, 29] hX ?_ | refine a6 [0, 1, 2, 3, 4, 5, 6, 8, 11, 21, 25, 29] hX mixed ?_ | refine aD ?_ | refine aA ?_ | refine aB ?_); (simp [go_sem]; try (refine ⟨by kernel_rfl, ?_⟩)))))
  first | refine aE (aO p hp) rfl (by simp [go_sem]) rfl ?_ | refine aF (aO p hp) rfl (by simp [go_sem]) rfl ?_
  try (simp [go_sem]; try (refine ⟨by kernel_rfl, ?_⟩))
  first | refine aI (fun hg => aO q hq) rfl (by simp [go_sem]) rfl ?_ | refine aH (fun hg => aO q hq) rfl (by simp [go_sem]) rfl ?_
  try (simp [go_sem]; try (refine ⟨by kernel_rfl, ?_⟩))
  refine aG (b := false) (by simp [go_sem]) (fun h => by cases h) (fun _ => ?_)
  (repeat (first | refine aC ?_ | refine a7 ?_ | ((first | refine a8 [0, 1, 2, 3, 4, 5, 6, 8, 11, 21, 25, 29] hX ?_ | refine a6 [0, 1, 2, 3, 4, 5, 6, 8, 11, 21, 25, 29] hX mixed ?_ | refine aD ?_ | refine aA ?_ | refine aB ?_); (simp [go_sem]; try (refine ⟨by kernel_rfl, ?_⟩)))))
  refine aG (b := false) (by simp [go_sem, hs0]) (fun h => by cases h) (fun _ => ?_)
  (repeat (first | refine aC ?_ | refine a7 ?_ | ((first | refine a8 [0, 1, 2, 3, 4, 5, 6, 8, 11, 21, 25, 29] hX ?_ | refine a6 [0, 1, 2, 3, 4, 5, 6, 8, 11, 21, 25, 29] hX mixed ?_ | refine aD ?_ | refine aA ?_ | refine aB ?_); (simp [go_sem]; try (refine ⟨by kernel_rfl, ?_⟩)))))
  by_cases hn : q < 0
  · have hsq : sg q = -1 := by unfold sg; rw [if_pos hn]
    refine aG (b := true) (by simp [go_sem, hsq]) (fun _ => ?_) (fun h => by cases h)
    (repeat (first | refine aC ?_ | refine a7 ?_ | ((first | refine a8 [0, 1, 2, 3, 4, 5, 6, 8, 11, 21, 25, 29] hX ?_ | refine a6 [0, 1, 2, 3, 4, 5, 6, 8, 11, 21, 25, 29] hX mixed ?_ | refine aD ?_ | refine aA ?_ | refine aB ?_); (simp [go_sem]; try (refine ⟨by kernel_rfl, ?_⟩)))))
    first | refine aE (iJ p hp) rfl (by simp [go_sem]) rfl ?_ | refine aF (iJ p hp) rfl (by simp [go_sem]) rfl ?_
    try (simp [go_sem]; try (refine ⟨by kernel_rfl, ?_⟩))
    (repeat (first | refine aC ?_ | refine a7 ?_ | ((first | refine a8 [0, 1, 2, 3, 4, 5, 6, 8, 11, 21, 25, 29] hX ?_ | refine a6 [0, 1, 2, 3, 4, 5, 6, 8, 11, 21, 25, 29] hX mixed ?_ | refine aD ?_ | refine aA ?_ | refine aB ?_); (simp [go_sem]; try (refine ⟨by kernel_rfl, ?_⟩)))))
    first | refine aE (iJ q hq) rfl (by simp [go_sem]) rfl ?_ | refine aF (iJ q hq) rfl (by simp [go_sem]) rfl ?_
    try (simp [go_sem]; try (refine ⟨by kernel_rfl, ?_⟩))
    (repeat (first | refine aC ?_ | refine a7 ?_ | ((first | refine a8 [0, 1, 2, 3, 4, 5, 6, 8, 11, 21, 25, 29] hX ?_ | refine a6 [0, 1, 2, 3, 4, 5, 6, 8, 11, 21, 25, 29] hX mixed ?_ | refine aD ?_ | refine aA ?_ | refine aB ?_); (simp [go_sem]; try (refine ⟨by kernel_rfl, ?_⟩)))))
    first | refine aE (jL (g := (Int.gcd p q : Int)) znp znq (by rw [Int.neg_gcd, Int.gcd_neg])) rfl (by simp [go_sem]) rfl ?_ | refine aF (jL (g := (Int.gcd p q : Int)) znp znq (by rw [Int.neg_gcd, Int.gcd_neg])) rfl (by simp [go_sem]) rfl ?_
    try (simp [go_sem]; try (refine ⟨by kernel_rfl, ?_⟩))
    (repeat (first | refine aC ?_ | refine a7 ?_ | ((first | refine a8 [0, 1, 2, 3, 4, 5, 6, 8, 11, 21, 25, 29] hX ?_ | refine a6 [0, 1, 2, 3, 4, 5, 6, 8, 11, 21, 25, 29] hX mixed ?_ | refine aD ?_ | refine aA ?_ | refine aB ?_); (simp [go_sem]; try (refine ⟨by kernel_rfl, ?_⟩)))))
    first | refine aE (cA znp zg hg0 (iY h0 (by rw [hsq, Int.neg_one_mul]) hgp) rfl) rfl (by simp [go_sem]) rfl ?_ | refine aF (cA znp zg hg0 (iY h0 (by rw [hsq, Int.neg_one_mul]) hgp) rfl) rfl (by simp [go_sem]) rfl ?_
    try (simp [go_sem]; try (refine ⟨by kernel_rfl, ?_⟩))
    (repeat (first | refine aC ?_ | refine a7 ?_ | ((first | refine a8 [0, 1, 2, 3, 4, 5, 6, 8, 11, 21, 25, 29] hX ?_ | refine a6 [0, 1, 2, 3, 4, 5, 6, 8, 11, 21, 25, 29] hX mixed ?_ | refine aD ?_ | refine aA ?_ | refine aB ?_); (simp [go_sem]; try (refine ⟨by kernel_rfl, ?_⟩)))))
    first | refine aE (cA znq zg hg0 (iZ (by unfold ab; rw [if_pos hn]) hgp) rfl) rfl (by simp [go_sem]) rfl ?_ | refine aF (cA znq zg hg0 (iZ (by unfold ab; rw [if_pos hn]) hgp) rfl) rfl (by simp [go_sem]) rfl ?_
    try (simp [go_sem]; try (refine ⟨by kernel_rfl, ?_⟩))
    (repeat (first | refine aC ?_ | refine a7 ?_ | ((first | refine a8 [0, 1, 2, 3, 4, 5, 6, 8, 11, 21, 25, 29] hX ?_ | refine a6 [0, 1, 2, 3, 4, 5, 6, 8, 11, 21, 25, 29] hX mixed ?_ | refine aD ?_ | refine aA ?_ | refine aB ?_); (simp [go_sem]; try (refine ⟨by kernel_rfl, ?_⟩)))))
  · have hsq : sg q = 1 := by rcases aJ q with h | h | h <;> omega
    refine aG (b := false) (by simp [go_sem, hsq]) (fun h => by cases h) (fun _ => ?_)
    (repeat (first | refine aC ?_ | refine a7 ?_ | ((first | refine a8 [0, 1, 2, 3, 4, 5, 6, 8, 11, 21, 25, 29] hX ?_ | refine a6 [0, 1, 2, 3, 4, 5, 6, 8, 11, 21, 25, 29] hX mixed ?_ | refine aD ?_ | refine aA ?_ | refine aB ?_); (simp [go_sem]; try (refine ⟨by kernel_rfl, ?_⟩)))))
    first | refine aE (jL (g := (Int.gcd p q : Int)) hp hq (rfl)) rfl (by simp [go_sem]) rfl ?_ | refine aF (jL (g := (Int.gcd p q : Int)) hp hq (rfl)) rfl (by simp [go_sem]) rfl ?_
    try (simp [go_sem]; try (refine ⟨by kernel_rfl, ?_⟩))
    (repeat (first | refine aC ?_ | refine a7 ?_ | ((first | refine a8 [0, 1, 2, 3, 4, 5, 6, 8, 11, 21, 25, 29] hX ?_ | refine a6 [0, 1, 2, 3, 4, 5, 6, 8, 11, 21, 25, 29] hX mixed ?_ | refine aD ?_ | refine aA ?_ | refine aB ?_); (simp [go_sem]; try (refine ⟨by kernel_rfl, ?_⟩)))))
    first | refine aE (cA hp zg hg0 (iY h0 (by rw [hsq, Int.one_mul]) hgp) rfl) rfl (by simp [go_sem]) rfl ?_ | refine aF (cA hp zg hg0 (iY h0 (by rw [hsq, Int.one_mul]) hgp) rfl) rfl (by simp [go_sem]) rfl ?_
    try (simp [go_sem]; try (refine ⟨by kernel_rfl, ?_⟩))
    (repeat (first | refine aC ?_ | refine a7 ?_ | ((first | refine a8 [0, 1, 2, 3, 4, 5, 6, 8, 11, 21, 25, 29] hX ?_ | refine a6 [0, 1, 2, 3, 4, 5, 6, 8, 11, 21, 25, 29] hX mixed ?_ | refine aD ?_ | refine aA ?_ | refine aB ?_); (simp [go_sem]; try (refine ⟨by kernel_rfl, ?_⟩)))))
    first | refine aE (cA hq zg hg0 (iZ (by unfold ab; rw [if_neg hn]) hgp) rfl) rfl (by simp [go_sem]) rfl ?_ | refine aF (cA hq zg hg0 (iZ (by unfold ab; rw [if_neg hn]) hgp) rfl) rfl (by simp [go_sem]) rfl ?_
    try (simp [go_sem]; try (refine ⟨by kernel_rfl, ?_⟩))
    (repeat (first | refine aC ?_ | refine a7 ?_ | ((first | refine a8 [0, 1, 2, 3, 4, 5, 6, 8, 11, 21, 25, 29] hX ?_ | refine a6 [0, 1, 2, 3, 4, 5, 6, 8, 11, 21, 25, 29] hX mixed ?_ | refine aD ?_ | refine aA ?_ | refine aB ?_); (simp [go_sem]; try (refine ⟨by kernel_rfl, ?_⟩)))))
theorem uH (p : Int) (hp : rz p) : Means false Tryz.prog 20 [bigZ p, bigZ 0] (.tup [frZ 0 0, ii 15]) := by
  have h0 : rz 0 := bA (by decide)
  refine aK false 57 [.cell 4 26, .tmp 5] Tryz.func20 rfl rfl rfl (by simp) (by decide) rfl fun X hX => ?_
  (repeat (first | refine aC ?_ | refine a7 ?_ | ((first | refine a8 [0, 1, 2, 3, 4, 5, 6, 8, 11, 21, 25, 29] hX ?_ | refine a6 [0, 1, 2, 3, 4, 5, 6, 8, 11, 21, 25, 29] hX mixed ?_ | refine aD ?_ | refine aA ?_ | refine aB ?_); (simp [go_sem]; try (refine ⟨by kernel_rfl, ?_⟩)))))
  first | refine aE (aO p hp) rfl (by simp [go_sem]) rfl ?_ | refine aF (aO p hp) rfl (by simp [go_sem]) rfl ?_
  try (simp [go_sem]; try (refine ⟨by kernel_rfl, ?_⟩))
  first | refine aI (fun hg => aO 0 h0) rfl (by simp [go_sem]) rfl ?_ | refine aH (fun hg => aO 0 h0) rfl (by simp [go_sem]) rfl ?_
  try (simp [go_sem]; try (refine ⟨by kernel_rfl, ?_⟩))
  refine aG (b := false) (by simp [go_sem]) (fun h => by cases h) (fun _ => ?_)
  (repeat (first | refine aC ?_ | refine a7 ?_ | ((first | refine a8 [0, 1, 2, 3, 4, 5, 6, 8, 11, 21, 25, 29] hX ?_ | refine a6 [0, 1, 2, 3, 4, 5, 6, 8, 11, 21, 25, 29] hX mixed ?_ | refine aD ?_ | refine aA ?_ | refine aB ?_); (simp [go_sem]; try (refine ⟨by kernel_rfl, ?_⟩)))))
  refine aG (b := true) (by simp [go_sem]) (fun _ => ?_) (fun h => by cases h)
  (repeat (first | refine aC ?_ | refine a7 ?_ | ((first | refine a8 [0, 1, 2, 3, 4, 5, 6, 8, 11, 21, 25, 29] hX ?_ | refine a6 [0, 1, 2, 3, 4, 5, 6, 8, 11, 21, 25, 29] hX mixed ?_ | refine aD ?_ | refine aA ?_ | refine aB ?_); (simp [go_sem]; try (refine ⟨by kernel_rfl, ?_⟩)))))
theorem xP (p q x y e : Int) (hp : -9223372036854775808 ≤ p ∧ p ≤ 9223372036854775807) (hq : -9223372036854775808 ≤ q ∧ q ≤ 9223372036854775807) (h : Means false Tryz.prog 20 [bigZ p, bigZ q] (.tup [frZ x y, ii e])) : Means false Tryz.prog 16 [ii p, ii q] (.tup [frZ x y, ii e]) := by
  refine aK false 13 [.cell 4 26, .tmp 5] Tryz.func16 rfl rfl rfl (by simp) (by decide) rfl fun X hX => ?_
  (repeat (first | refine aC ?_ | refine a7 ?_ | ((first | refine a8 [0, 1, 4, 5] hX ?_ | refine a6 [0, 1, 4, 5] hX mixed ?_ | refine aD ?_ | refine aA ?_ | refine aB ?_); (simp [go_sem]; try (refine ⟨by kernel_rfl, ?_⟩)))))
  first | refine aE (lM p hp) rfl (by simp [go_sem]) rfl ?_ | refine aF (lM p hp) rfl (by simp [go_sem]) rfl ?_
  try (simp [go_sem]; try (refine ⟨by kernel_rfl, ?_⟩))
  first | refine aE (lM q hq) rfl (by simp [go_sem]) rfl ?_ | refine aF (lM q hq) rfl (by simp [go_sem]) rfl ?_
  try (simp [go_sem]; try (refine ⟨by kernel_rfl, ?_⟩))
  first | refine aE (h) rfl (by simp [go_sem]) rfl ?_ | refine aF (h) rfl (by simp [go_sem]) rfl ?_
  try (simp [go_sem]; try (refine ⟨by kernel_rfl, ?_⟩))
  (repeat (first | refine aC ?_ | refine a7 ?_ | ((first | refine a8 [0, 1, 4, 5] hX ?_ | refine a6 [0, 1, 4, 5] hX mixed ?_ | refine aD ?_ | refine aA ?_ | refine aB ?_); (simp [go_sem]; try (refine ⟨by kernel_rfl, ?_⟩)))))
theorem dZ {bad : Bool} (p q : Int) (hp : rz p) (hq : rz q) (h0 : q ≠ 0) (hb : bad = false) : Means false Tryz.prog 37 [bigZ p, bigZ q, bb bad] (.tup [frZ (np p q) (nq p q), ii 0]) := by
  subst hb
  refine aK false 15 [.cell 6 26, .tmp 7] Tryz.func37 rfl rfl rfl (by simp) (by decide) rfl fun X hX => ?_
  (repeat (first | refine aC ?_ | refine a7 ?_ | ((first | refine a8 [0, 1, 2, 3, 4, 6, 7, 8] hX ?_ | refine a6 [0, 1, 2, 3, 4, 6, 7, 8] hX mixed ?_ | refine aD ?_ | refine aA ?_ | refine aB ?_); (simp [go_sem]; try (refine ⟨by kernel_rfl, ?_⟩)))))
  refine aG (b := false) (by simp [go_sem]) (fun h => by cases h) (fun _ => ?_)
  (repeat (first | refine aC ?_ | refine a7 ?_ | ((first | refine a8 [0, 1, 2, 3, 4, 6, 7, 8] hX ?_ | refine a6 [0, 1, 2, 3, 4, 6, 7, 8] hX mixed ?_ | refine aD ?_ | refine aA ?_ | refine aB ?_); (simp [go_sem]; try (refine ⟨by kernel_rfl, ?_⟩)))))
  first | refine aE (mJ p q hp hq h0) rfl (by simp [go_sem]) rfl ?_ | refine aF (mJ p q hp hq h0) rfl (by simp [go_sem]) rfl ?_
  try (simp [go_sem]; try (refine ⟨by kernel_rfl, ?_⟩))
  (repeat (first | refine aC ?_ | refine a7 ?_ | ((first | refine a8 [0, 1, 2, 3, 4, 6, 7, 8] hX ?_ | refine a6 [0, 1, 2, 3, 4, 6, 7, 8] hX mixed ?_ | refine aD ?_ | refine aA ?_ | refine aB ?_); (simp [go_sem]; try (refine ⟨by kernel_rfl, ?_⟩)))))
theorem e8 {bad : Bool} (p q : Int) (hb : bad = true) : Means false Tryz.prog 37 [bigZ p, bigZ q, bb bad] (.tup [frZ 0 0, ii 6]) := by
  subst hb
  refine aK false 15 [.cell 6 26, .tmp 7] Tryz.func37 rfl rfl rfl (by simp) (by decide) rfl fun X hX => ?_
  (repeat (first | refine aC ?_ | refine a7 ?_ | ((first | refine a8 [0, 1, 2, 3, 4, 6, 7, 8] hX ?_ | refine a6 [0, 1, 2, 3, 4, 6, 7, 8] hX mixed ?_ | refine aD ?_ | refine aA ?_ | refine aB ?_); (simp [go_sem]; try (refine ⟨by kernel_rfl, ?_⟩)))))
  refine aG (b := true) (by simp [go_sem]) (fun _ => ?_) (fun h => by cases h)
  (repeat (first | refine aC ?_ | refine a7 ?_ | ((first | refine a8 [0, 1, 2, 3, 4, 6, 7, 8] hX ?_ | refine a6 [0, 1, 2, 3, 4, 6, 7, 8] hX mixed ?_ | refine aD ?_ | refine aA ?_ | refine aB ?_); (simp [go_sem]; try (refine ⟨by kernel_rfl, ?_⟩)))))
end Go.Proofs.YtebinaffldlihaaGreatDoor
