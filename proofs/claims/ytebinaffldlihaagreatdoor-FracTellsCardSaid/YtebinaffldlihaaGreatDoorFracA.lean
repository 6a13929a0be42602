import Derived.Test.YtebinaffldlihaaGreatDoorFracP
set_option linter.all false
namespace Go.Proofs.YtebinaffldlihaaGreatDoor
open Go.RowKit Go.Ab
attribute [local irreducible] AWP Go.Ab.Sub Means MeansH CallK CallG CallT CallGT
@[go_sem] theorem c_sg0 : sg 0 = 0 := rfl
@[go_sem] theorem c_dg0 : dg (ab 0) = [] := rfl
abbrev frac4 (s1 : Int) (L1 : List Int) (s2 : Int) (L2 : List Int) : AV := .agg [ii s1, il L1, ii s2, il L2]
abbrev frZ (p q : Int) : AV := frac4 (sg p) (dg (ab p)) (sg q) (dg (ab q))
def zv (s : Int) (L : List Int) : Int := s * val L
theorem dE (z : Int) : zv (sg z) (dg (ab z)) = z := by unfold zv; rw [aR, rJ]
theorem xZ {s : Int} {L : List Int} (h : isR s L) : rz (zv s L) ∧ s = sg (zv s L) ∧ L = dg (ab (zv s L)) := by
  obtain ⟨z, hz, rfl, rfl⟩ := gB h
  rw [dE]; exact ⟨hz, rfl, rfl⟩
def isF (s1 : Int) (L1 : List Int) (s2 : Int) (L2 : List Int) : Prop := isR s1 L1 ∧ isR s2 L2 ∧ rf (zv s1 L1) (zv s2 L2)
noncomputable instance (s1 : Int) (L1 : List Int) (s2 : Int) (L2 : List Int) : Decidable (isF s1 L1 s2 L2) := Classical.propDecidable _
theorem vO {p q : Int} (h : rf p q) : isF (sg p) (dg (ab p)) (sg q) (dg (ab q)) := ⟨iA h.1, iA h.2.1, by rw [dE, dE]; exact h⟩
theorem cI {s1 s2 : Int} {L1 L2 : List Int} (h : isF s1 L1 s2 L2) : ∃ p q, rf p q ∧ s1 = sg p ∧ L1 = dg (ab p) ∧ s2 = sg q ∧ L2 = dg (ab q) := by
  obtain ⟨h1, h2, h3⟩ := h
  obtain ⟨_, a1, a2⟩ := xZ h1
  obtain ⟨_, b1, b2⟩ := xZ h2
  exact ⟨_, _, h3, a1, a2, b1, b2⟩
theorem y8 (z : Int) (hz : rz z) : Means false Tryz.prog 51 [bigZ z] (bb (decide (z = 1))) := by
  refine aK false 15 [.tmp 2] Tryz.func51 rfl rfl rfl (by simp) (by decide) rfl fun X hX => ?_
  (repeat (first | refine aC ?_ | refine a7 ?_ | ((first | refine a8 [0, 1, 2, 3, 4] hX ?_ | refine a6 [0, 1, 2, 3, 4] hX mixed ?_ | refine aD ?_ | refine aA ?_ | refine aB ?_); (simp [go_sem]; try (refine ⟨by kernel_rfl, ?_⟩)))))
  first | refine aE (xL z hz) rfl (by simp [go_sem]) rfl ?_ | refine aF (xL z hz) rfl (by simp [go_sem]) rfl ?_
  try (simp [go_sem]; try (refine ⟨by kernel_rfl, ?_⟩))
  by_cases h : inI z = true
  · (repeat (first | refine aC ?_ | refine a7 ?_ | ((first | refine a8 [0, 1, 2, 3, 4] hX ?_ | refine a6 [0, 1, 2, 3, 4] hX mixed ?_ | refine aD ?_ | refine aA ?_ | refine aB ?_); (simp [go_sem, h]; try (refine ⟨by kernel_rfl, ?_⟩)))))
  · have h1 : ¬ z = 1 := by
      rintro rfl
      exact h (by decide)
    have hf : inI z = false := by simpa using h
    (repeat (first | refine aC ?_ | refine a7 ?_ | ((first | refine a8 [0, 1, 2, 3, 4] hX ?_ | refine a6 [0, 1, 2, 3, 4] hX mixed ?_ | refine aD ?_ | refine aA ?_ | refine aB ?_); (simp [go_sem, hf, h1]; try (refine ⟨by kernel_rfl, ?_⟩)))))
set_option maxHeartbeats 4000000 in
set_option maxRecDepth 20000 in
theorem bO (s1 : Int) (L1 : List Int) (l1 : L1.length ≤ 9223372036854775807) (s2 : Int) (L2 : List Int) (l2 : L2.length ≤ 9223372036854775807) : Means false Tryz.prog 21 [frac4 s1 L1 s2 L2] (bb (decide (isF s1 L1 s2 L2))) := by
  refine aK false 35 [.tmp 2] Tryz.func21 rfl rfl rfl (by simp) (by decide) rfl fun X hX => ?_
  (repeat (first | refine aC ?_ | refine a7 ?_ | ((first | refine a8 [0, 1, 2, 3, 4, 20] hX ?_ | refine a6 [0, 1, 2, 3, 4, 20] hX mixed ?_ | refine aD ?_ | refine aA ?_ | refine aB ?_); (simp [go_sem]; try (refine ⟨by kernel_rfl, ?_⟩)))))
  first | refine aE (eQ s1 L1 l1) rfl (by simp [go_sem]) rfl ?_ | refine aF (eQ s1 L1 l1) rfl (by simp [go_sem]) rfl ?_
  try (simp [go_sem]; try (refine ⟨by kernel_rfl, ?_⟩))
  first | refine aI (fun hg => eQ s2 L2 l2) rfl (by simp [go_sem]) rfl ?_ | refine aH (fun hg => eQ s2 L2 l2) rfl (by simp [go_sem]) rfl ?_
  try (simp [go_sem]; try (refine ⟨by kernel_rfl, ?_⟩))
  by_cases h : isR s1 L1 ∧ isR s2 L2 ∧ s2 = 1
  · obtain ⟨h1, h2, h3⟩ := h
    obtain ⟨p, hp, rfl, rfl⟩ := gB h1
    obtain ⟨q, hq, rfl, rfl⟩ := gB h2
    have hq0 : 0 < q := by rcases aJ q with h | h | h <;> omega
    have e : isF (sg p) (dg (ab p)) (sg q) (dg (ab q)) ↔ (Int.gcd p q : Int) = 1 := by
      unfold isF rf
      rw [dE, dE]
      constructor
      · rintro ⟨_, _, _, _, _, h⟩; omega
      · intro h; exact ⟨h1, h2, hp, hq, hq0, by omega⟩
    have zg : rz (Int.gcd p q : Int) := by
      unfold rz at *
      have := nF hp hq
      exact this
    have h2' : isR 1 (dg (ab q)) := by rw [← h3]; exact h2
    refine aG (b := false) (by simp [go_sem, h1, h2, h2', h3]) (fun h => by cases h) (fun _ => ?_)
    (repeat (first | refine aC ?_ | refine a7 ?_ | ((first | refine a8 [0, 1, 2, 3, 4, 20] hX ?_ | refine a6 [0, 1, 2, 3, 4, 20] hX mixed ?_ | refine aD ?_ | refine aA ?_ | refine aB ?_); (simp [go_sem]; try (refine ⟨by kernel_rfl, ?_⟩)))))
    first | refine aE (tS p q hp hq) rfl (by simp [go_sem]) rfl ?_ | refine aF (tS p q hp hq) rfl (by simp [go_sem]) rfl ?_
    try (simp [go_sem]; try (refine ⟨by kernel_rfl, ?_⟩))
    (repeat (first | refine aC ?_ | refine a7 ?_ | ((first | refine a8 [0, 1, 2, 3, 4, 20] hX ?_ | refine a6 [0, 1, 2, 3, 4, 20] hX mixed ?_ | refine aD ?_ | refine aA ?_ | refine aB ?_); (simp [go_sem]; try (refine ⟨by kernel_rfl, ?_⟩)))))
    first | refine aI (fun hg => y8 _ zg) rfl (by simp [go_sem]) rfl ?_ | refine aH (fun hg => y8 _ zg) rfl (by simp [go_sem]) rfl ?_
    try (simp [go_sem]; try (refine ⟨by kernel_rfl, ?_⟩))
    (repeat (first | refine aC ?_ | refine a7 ?_ | ((first | refine a8 [0, 1, 2, 3, 4, 20] hX ?_ | refine a6 [0, 1, 2, 3, 4, 20] hX mixed ?_ | refine aD ?_ | refine aA ?_ | refine aB ?_); (simp [go_sem, e]; try (refine ⟨by kernel_rfl, ?_⟩)))))
  · have e : ¬ isF s1 L1 s2 L2 := fun hf => h ⟨hf.1, hf.2.1, by
      obtain ⟨p, q, hr, _, _, rfl, _⟩ := cI hf
      have := hr.2.2.1
      rcases aJ q with h | h | h <;> omega⟩
    refine aG (b := true) (by simp [go_sem]; grind) (fun _ => ?_) (fun h => by cases h)
    (repeat (first | refine aC ?_ | refine a7 ?_ | ((first | refine a8 [0, 1, 2, 3, 4, 20] hX ?_ | refine a6 [0, 1, 2, 3, 4, 20] hX mixed ?_ | refine aD ?_ | refine aA ?_ | refine aB ?_); (simp [go_sem, e]; try (refine ⟨by kernel_rfl, ?_⟩)))))
theorem aY (p q : Int) (h : rf p q) : Means false Tryz.prog 21 [frZ p q] (bb true) := by
  have := bO (sg p) (dg (ab p)) (by have := bB h.1; omega) (sg q) (dg (ab q)) (by have := bB h.2.1; omega)
  rwa [decide_eq_true (vO h)] at this
theorem iY {p q p' : Int} (_hq : q ≠ 0) (h : p' = sg q * p) (hg : 0 < (Int.gcd p q : Int)) : dq p' (Int.gcd p q : Int) = np p q := by
  unfold dq np
  have e1 : sg (Int.gcd p q : Int) = 1 := by rcases aJ (Int.gcd p q : Int) with h | h | h <;> omega
  have e2 : ab (Int.gcd p q : Int) = (Int.gcd p q : Int) := by unfold ab; rw [if_neg (by omega)]
  rw [e1, e2, Int.one_mul, h]
theorem iZ {p q q' : Int} (h : q' = ab q) (hg : 0 < (Int.gcd p q : Int)) : dq q' (Int.gcd p q : Int) = nq p q := by
  unfold dq nq
  have e1 : sg (Int.gcd p q : Int) = 1 := by rcases aJ (Int.gcd p q : Int) with h | h | h <;> omega
  have e2 : ab (Int.gcd p q : Int) = (Int.gcd p q : Int) := by unfold ab; rw [if_neg (by omega)]
  rw [e1, e2, Int.one_mul, h]
set_option maxHeartbeats 4000000 in
set_option maxRecDepth 20000 in
theorem nU (p q : Int) (hp : rz p) (hq : rz q) (h0 : q ≠ 0) : Means false Tryz.prog 19 [bigZ p, bigZ q] (.tup [frZ (np p q) (nq p q), ii 0]) := by
  have hs0 : ¬ sg q = 0 := by rcases aJ q with h | h | h <;> omega
  have hgp := nG (p := p) h0
  have hg0 : (Int.gcd p q : Int) ≠ 0 := by omega
  have zg : rz (Int.gcd p q : Int) := nF hp hq
  have znp := fG hp
  have znq := fG hq
  refine aK false 60 [.cell 4 26, .tmp 5] Tryz.func19 rfl rfl rfl (by simp) (by decide) rfl fun X hX => ?_
  (repeat (first | refine aC ?_ | refine a7 ?_ | ((first | refine a8 [0, 1, 2, 3, 4, 5, 6, 8, 11, 14, 24, 29] hX ?_ | refine a6 [0, 1, 2, 3, 4, 5, 6, 8, 11, 14, 24, 29] hX mixed ?_ | refine aD ?_ | refine aA ?_ | refine aB ?_); (simp [go_sem]; try (refine ⟨by kernel_rfl, ?_⟩)))))
  first | refine aE (aX p hp) rfl (by simp [go_sem]) rfl ?_ | refine aF (aX p hp) rfl (by simp [go_sem]) rfl ?_
  try (simp [go_sem]; try (refine ⟨by kernel_rfl, ?_⟩))
  first | refine aI (fun hg => aX q hq) rfl (by simp [go_sem]) rfl ?_ | refine aH (fun hg => aX q hq) rfl (by simp [go_sem]) rfl ?_
  try (simp [go_sem]; try (refine ⟨by kernel_rfl, ?_⟩))
  refine aG (b := false) (by simp [go_sem]) (fun h => by cases h) (fun _ => ?_)
  (repeat (first | refine aC ?_ | refine a7 ?_ | ((first | refine a8 [0, 1, 2, 3, 4, 5, 6, 8, 11, 14, 24, 29] hX ?_ | refine a6 [0, 1, 2, 3, 4, 5, 6, 8, 11, 14, 24, 29] hX mixed ?_ | refine aD ?_ | refine aA ?_ | refine aB ?_); (simp [go_sem]; try (refine ⟨by kernel_rfl, ?_⟩)))))
  refine aG (b := false) (by simp [go_sem, hs0]) (fun h => by cases h) (fun _ => ?_)
  (repeat (first | refine aC ?_ | refine a7 ?_ | ((first | refine a8 [0, 1, 2, 3, 4, 5, 6, 8, 11, 14, 24, 29] hX ?_ | refine a6 [0, 1, 2, 3, 4, 5, 6, 8, 11, 14, 24, 29] hX mixed ?_ | refine aD ?_ | refine aA ?_ | refine aB ?_); (simp [go_sem]; try (refine ⟨by kernel_rfl, ?_⟩)))))
  by_cases hn : q < 0
  · have hsq : sg q = -1 := by unfold sg; rw [if_pos hn]
    refine aG (b := true) (by simp [go_sem, hsq]) (fun _ => ?_) (fun h => by cases h)
    (repeat (first | refine aC ?_ | refine a7 ?_ | ((first | refine a8 [0, 1, 2, 3, 4, 5, 6, 8, 11, 14, 24, 29] hX ?_ | refine a6 [0, 1, 2, 3, 4, 5, 6, 8, 11, 14, 24, 29] hX mixed ?_ | refine aD ?_ | refine aA ?_ | refine aB ?_); (simp [go_sem]; try (refine ⟨by kernel_rfl, ?_⟩)))))
    first | refine aE (j0 p hp) rfl (by simp [go_sem]) rfl ?_ | refine aF (j0 p hp) rfl (by simp [go_sem]) rfl ?_
    try (simp [go_sem]; try (refine ⟨by kernel_rfl, ?_⟩))
    first | refine aE (j0 q hq) rfl (by simp [go_sem]) rfl ?_ | refine aF (j0 q hq) rfl (by simp [go_sem]) rfl ?_
    try (simp [go_sem]; try (refine ⟨by kernel_rfl, ?_⟩))
    (repeat (first | refine aC ?_ | refine a7 ?_ | ((first | refine a8 [0, 1, 2, 3, 4, 5, 6, 8, 11, 14, 24, 29] hX ?_ | refine a6 [0, 1, 2, 3, 4, 5, 6, 8, 11, 14, 24, 29] hX mixed ?_ | refine aD ?_ | refine aA ?_ | refine aB ?_); (simp [go_sem]; try (refine ⟨by kernel_rfl, ?_⟩)))))
    first | refine aE (nI (g := (Int.gcd p q : Int)) znp znq (by rw [Int.neg_gcd, Int.gcd_neg])) rfl (by simp [go_sem]) rfl ?_ | refine aF (nI (g := (Int.gcd p q : Int)) znp znq (by rw [Int.neg_gcd, Int.gcd_neg])) rfl (by simp [go_sem]) rfl ?_
    try (simp [go_sem]; try (refine ⟨by kernel_rfl, ?_⟩))
    (repeat (first | refine aC ?_ | refine a7 ?_ | ((first | refine a8 [0, 1, 2, 3, 4, 5, 6, 8, 11, 14, 24, 29] hX ?_ | refine a6 [0, 1, 2, 3, 4, 5, 6, 8, 11, 14, 24, 29] hX mixed ?_ | refine aD ?_ | refine aA ?_ | refine aB ?_); (simp [go_sem]; try (refine ⟨by kernel_rfl, ?_⟩)))))
    first | refine aE (cH znp zg hg0 (iY h0 (by rw [hsq, Int.neg_one_mul]) hgp) rfl) rfl (by simp [go_sem]) rfl ?_ | refine aF (cH znp zg hg0 (iY h0 (by rw [hsq, Int.neg_one_mul]) hgp) rfl) rfl (by simp [go_sem]) rfl ?_
    try (simp [go_sem]; try (refine ⟨by kernel_rfl, ?_⟩))
    (repeat (first | refine aC ?_ | refine a7 ?_ | ((first | refine a8 [0, 1, 2, 3, 4, 5, 6, 8, 11, 14, 24, 29] hX ?_ | refine a6 [0, 1, 2, 3, 4, 5, 6, 8, 11, 14, 24, 29] hX mixed ?_ | refine aD ?_ | refine aA ?_ | refine aB ?_); (simp [go_sem]; try (refine ⟨by kernel_rfl, ?_⟩)))))
    first | refine aE (cH znq zg hg0 (iZ (by unfold ab; rw [if_pos hn]) hgp) rfl) rfl (by simp [go_sem]) rfl ?_ | refine aF (cH znq zg hg0 (iZ (by unfold ab; rw [if_pos hn]) hgp) rfl) rfl (by simp [go_sem]) rfl ?_
    try (simp [go_sem]; try (refine ⟨by kernel_rfl, ?_⟩))
    (repeat (first | refine aC ?_ | refine a7 ?_ | ((first | refine a8 [0, 1, 2, 3, 4, 5, 6, 8, 11, 14, 24, 29] hX ?_ | refine a6 [0, 1, 2, 3, 4, 5, 6, 8, 11, 14, 24, 29] hX mixed ?_ | refine aD ?_ | refine aA ?_ | refine aB ?_); (simp [go_sem]; try (refine ⟨by kernel_rfl, ?_⟩)))))
  · have hsq : sg q = 1 := by rcases aJ q with h | h | h <;> omega
    refine aG (b := false) (by simp [go_sem, hsq]) (fun h => by cases h) (fun _ => ?_)
    (repeat (first | refine aC ?_ | refine a7 ?_ | ((first | refine a8 [0, 1, 2, 3, 4, 5, 6, 8, 11, 14, 24, 29] hX ?_ | refine a6 [0, 1, 2, 3, 4, 5, 6, 8, 11, 14, 24, 29] hX mixed ?_ | refine aD ?_ | refine aA ?_ | refine aB ?_); (simp [go_sem]; try (refine ⟨by kernel_rfl, ?_⟩)))))
    first | refine aE (nI (g := (Int.gcd p q : Int)) hp hq (rfl)) rfl (by simp [go_sem]) rfl ?_ | refine aF (nI (g := (Int.gcd p q : Int)) hp hq (rfl)) rfl (by simp [go_sem]) rfl ?_
    try (simp [go_sem]; try (refine ⟨by kernel_rfl, ?_⟩))
    (repeat (first | refine aC ?_ | refine a7 ?_ | ((first | refine a8 [0, 1, 2, 3, 4, 5, 6, 8, 11, 14, 24, 29] hX ?_ | refine a6 [0, 1, 2, 3, 4, 5, 6, 8, 11, 14, 24, 29] hX mixed ?_ | refine aD ?_ | refine aA ?_ | refine aB ?_); (simp [go_sem]; try (refine ⟨by kernel_rfl, ?_⟩)))))
    first | refine aE (cH hp zg hg0 (iY h0 (by rw [hsq, Int.one_mul]) hgp) rfl) rfl (by simp [go_sem]) rfl ?_ | refine aF (cH hp zg hg0 (iY h0 (by rw [hsq, Int.one_mul]) hgp) rfl) rfl (by simp [go_sem]) rfl ?_
    try (simp [go_sem]; try (refine ⟨by kernel_rfl, ?_⟩))
    (repeat (first | refine aC ?_ | refine a7 ?_ | ((first | refine a8 [0, 1, 2, 3, 4, 5, 6, 8, 11, 14, 24, 29] hX ?_ | refine a6 [0, 1, 2, 3, 4, 5, 6, 8, 11, 14, 24, 29] hX mixed ?_ | refine aD ?_ | refine aA ?_ | refine aB ?_); (simp [go_sem]; try (refine ⟨by kernel_rfl, ?_⟩)))))
    first | refine aE (cH hq zg hg0 (iZ (by unfold ab; rw [if_neg hn]) hgp) rfl) rfl (by simp [go_sem]) rfl ?_ | refine aF (cH hq zg hg0 (iZ (by unfold ab; rw [if_neg hn]) hgp) rfl) rfl (by simp [go_sem]) rfl ?_
    try (simp [go_sem]; try (refine ⟨by kernel_rfl, ?_⟩))
    (repeat (first | refine aC ?_ | refine a7 ?_ | ((first | refine a8 [0, 1, 2, 3, 4, 5, 6, 8, 11, 14, 24, 29] hX ?_ | refine a6 [0, 1, 2, 3, 4, 5, 6, 8, 11, 14, 24, 29] hX mixed ?_ | refine aD ?_ | refine aA ?_ | refine aB ?_); (simp [go_sem]; try (refine ⟨by kernel_rfl, ?_⟩)))))
theorem uG (p : Int) (hp : rz p) : Means false Tryz.prog 19 [bigZ p, bigZ 0] (.tup [frZ 0 0, ii 15]) := by
  have h0 : rz 0 := bA (by decide)
  refine aK false 60 [.cell 4 26, .tmp 5] Tryz.func19 rfl rfl rfl (by simp) (by decide) rfl fun X hX => ?_
  (repeat (first | refine aC ?_ | refine a7 ?_ | ((first | refine a8 [0, 1, 2, 3, 4, 5, 6, 8, 11, 14, 24, 29] hX ?_ | refine a6 [0, 1, 2, 3, 4, 5, 6, 8, 11, 14, 24, 29] hX mixed ?_ | refine aD ?_ | refine aA ?_ | refine aB ?_); (simp [go_sem]; try (refine ⟨by kernel_rfl, ?_⟩)))))
  first | refine aE (aX p hp) rfl (by simp [go_sem]) rfl ?_ | refine aF (aX p hp) rfl (by simp [go_sem]) rfl ?_
  try (simp [go_sem]; try (refine ⟨by kernel_rfl, ?_⟩))
  first | refine aI (fun hg => aX 0 h0) rfl (by simp [go_sem]) rfl ?_ | refine aH (fun hg => aX 0 h0) rfl (by simp [go_sem]) rfl ?_
  try (simp [go_sem]; try (refine ⟨by kernel_rfl, ?_⟩))
  refine aG (b := false) (by simp [go_sem]) (fun h => by cases h) (fun _ => ?_)
  (repeat (first | refine aC ?_ | refine a7 ?_ | ((first | refine a8 [0, 1, 2, 3, 4, 5, 6, 8, 11, 14, 24, 29] hX ?_ | refine a6 [0, 1, 2, 3, 4, 5, 6, 8, 11, 14, 24, 29] hX mixed ?_ | refine aD ?_ | refine aA ?_ | refine aB ?_); (simp [go_sem]; try (refine ⟨by kernel_rfl, ?_⟩)))))
  refine aG (b := true) (by simp [go_sem]) (fun _ => ?_) (fun h => by cases h)
  (repeat (first | refine aC ?_ | refine a7 ?_ | ((first | refine a8 [0, 1, 2, 3, 4, 5, 6, 8, 11, 14, 24, 29] hX ?_ | refine a6 [0, 1, 2, 3, 4, 5, 6, 8, 11, 14, 24, 29] hX mixed ?_ | refine aD ?_ | refine aA ?_ | refine aB ?_); (simp [go_sem]; try (refine ⟨by kernel_rfl, ?_⟩)))))
set_option maxHeartbeats 4000000 in
theorem yK (p q : Int) (hp : -9223372036854775808 ≤ p ∧ p ≤ 9223372036854775807) (hq : -9223372036854775808 ≤ q ∧ q ≤ 9223372036854775807) (h0 : q ≠ 0) : Means false Tryz.prog 15 [ii p, ii q] (.tup [frZ (np p q) (nq p q), ii 0]) := by
  refine aK false 13 [.cell 4 26, .tmp 5] Tryz.func15 rfl rfl rfl (by simp) (by decide) rfl fun X hX => ?_
  (repeat (first | refine aC ?_ | refine a7 ?_ | ((first | refine a8 [0, 1, 4, 5] hX ?_ | refine a6 [0, 1, 4, 5] hX mixed ?_ | refine aD ?_ | refine aA ?_ | refine aB ?_); (simp [go_sem]; try (refine ⟨by kernel_rfl, ?_⟩)))))
  first | refine aE (l0 p hp) rfl (by simp [go_sem]) rfl ?_ | refine aF (l0 p hp) rfl (by simp [go_sem]) rfl ?_
  try (simp [go_sem]; try (refine ⟨by kernel_rfl, ?_⟩))
  first | refine aE (l0 q hq) rfl (by simp [go_sem]) rfl ?_ | refine aF (l0 q hq) rfl (by simp [go_sem]) rfl ?_
  try (simp [go_sem]; try (refine ⟨by kernel_rfl, ?_⟩))
  first | refine aE (nU p q (k8 hp) (k8 hq) h0) rfl (by simp [go_sem]) rfl ?_ | refine aF (nU p q (k8 hp) (k8 hq) h0) rfl (by simp [go_sem]) rfl ?_
  try (simp [go_sem]; try (refine ⟨by kernel_rfl, ?_⟩))
  (repeat (first | refine aC ?_ | refine a7 ?_ | ((first | refine a8 [0, 1, 4, 5] hX ?_ | refine a6 [0, 1, 4, 5] hX mixed ?_ | refine aD ?_ | refine aA ?_ | refine aB ?_); (simp [go_sem]; try (refine ⟨by kernel_rfl, ?_⟩)))))
theorem uJ (p : Int) (hp : -9223372036854775808 ≤ p ∧ p ≤ 9223372036854775807) : Means false Tryz.prog 15 [ii p, ii 0] (.tup [frZ 0 0, ii 15]) := by
  refine aK false 13 [.cell 4 26, .tmp 5] Tryz.func15 rfl rfl rfl (by simp) (by decide) rfl fun X hX => ?_
  (repeat (first | refine aC ?_ | refine a7 ?_ | ((first | refine a8 [0, 1, 4, 5] hX ?_ | refine a6 [0, 1, 4, 5] hX mixed ?_ | refine aD ?_ | refine aA ?_ | refine aB ?_); (simp [go_sem]; try (refine ⟨by kernel_rfl, ?_⟩)))))
  first | refine aE (l0 p hp) rfl (by simp [go_sem]) rfl ?_ | refine aF (l0 p hp) rfl (by simp [go_sem]) rfl ?_
  try (simp [go_sem]; try (refine ⟨by kernel_rfl, ?_⟩))
  first | refine aE (l0 0 (by decide)) rfl (by simp [go_sem]) rfl ?_ | refine aF (l0 0 (by decide)) rfl (by simp [go_sem]) rfl ?_
  try (simp [go_sem]; try (refine ⟨by kernel_rfl, ?_⟩))
  first | refine aE (uG p (k8 hp)) rfl (by simp [go_sem]) rfl ?_ | refine aF (uG p (k8 hp)) rfl (by simp [go_sem]) rfl ?_
  try (simp [go_sem]; try (refine ⟨by kernel_rfl, ?_⟩))
  (repeat (first | refine aC ?_ | refine a7 ?_ | ((first | refine a8 [0, 1, 4, 5] hX ?_ | refine a6 [0, 1, 4, 5] hX mixed ?_ | refine aD ?_ | refine aA ?_ | refine aB ?_); (simp [go_sem]; try (refine ⟨by kernel_rfl, ?_⟩)))))
theorem bT {a b : Int} (ha : rz a) (hb : rz b) (h : ¬ rz (a * b)) : Means false Tryz.prog 33 [bigZ a, bigZ b] (.tup [bigZ 0, ii 6]) := by
  have := xS a b ha hb
  rwa [res, r60, e60, if_neg h, if_neg h] at this
noncomputable def sumP (a b c d : Int) : Prop := rz (a * b) ∧ rz (c * d) ∧ rz (a * b + c * d)
noncomputable instance (a b c d : Int) : Decidable (sumP a b c d) := Classical.propDecidable _
set_option maxHeartbeats 4000000 in
theorem y9 (a b c d : Int) (ha : rz a) (hb : rz b) (hc : rz c) (hd : rz d) : Means false Tryz.prog 32 [bigZ a, bigZ b, bigZ c, bigZ d] (.tup [bigZ (if sumP a b c d then a * b + c * d else 0), ii (if sumP a b c d then 0 else 6)]) := by
  refine aK false 38 [.cell 8 24, .tmp 9] Tryz.func32 rfl rfl rfl (by simp) (by decide) rfl fun X hX => ?_
  (repeat (first | refine aC ?_ | refine a7 ?_ | ((first | refine a8 [0, 1, 2, 3, 4, 5, 6, 7, 8, 9, 10, 11, 12, 20, 30] hX ?_ | refine a6 [0, 1, 2, 3, 4, 5, 6, 7, 8, 9, 10, 11, 12, 20, 30] hX mixed ?_ | refine aD ?_ | refine aA ?_ | refine aB ?_); (simp [go_sem]; try (refine ⟨by kernel_rfl, ?_⟩)))))
  by_cases h1 : rz (a * b)
  · first | refine aE (bJ ha hb h1 rfl) rfl (by simp [go_sem]) rfl ?_ | refine aF (bJ ha hb h1 rfl) rfl (by simp [go_sem]) rfl ?_
    try (simp [go_sem]; try (refine ⟨by kernel_rfl, ?_⟩))
    (repeat (first | refine aC ?_ | refine a7 ?_ | ((first | refine a8 [0, 1, 2, 3, 4, 5, 6, 7, 8, 9, 10, 11, 12, 20, 30] hX ?_ | refine a6 [0, 1, 2, 3, 4, 5, 6, 7, 8, 9, 10, 11, 12, 20, 30] hX mixed ?_ | refine aD ?_ | refine aA ?_ | refine aB ?_); (simp [go_sem]; try (refine ⟨by kernel_rfl, ?_⟩)))))
    refine aG (b := false) (by simp [go_sem]) (fun h => by cases h) (fun _ => ?_)
    (repeat (first | refine aC ?_ | refine a7 ?_ | ((first | refine a8 [0, 1, 2, 3, 4, 5, 6, 7, 8, 9, 10, 11, 12, 20, 30] hX ?_ | refine a6 [0, 1, 2, 3, 4, 5, 6, 7, 8, 9, 10, 11, 12, 20, 30] hX mixed ?_ | refine aD ?_ | refine aA ?_ | refine aB ?_); (simp [go_sem]; try (refine ⟨by kernel_rfl, ?_⟩)))))
    by_cases h2 : rz (c * d)
    · first | refine aE (bJ hc hd h2 rfl) rfl (by simp [go_sem]) rfl ?_ | refine aF (bJ hc hd h2 rfl) rfl (by simp [go_sem]) rfl ?_
      try (simp [go_sem]; try (refine ⟨by kernel_rfl, ?_⟩))
      (repeat (first | refine aC ?_ | refine a7 ?_ | ((first | refine a8 [0, 1, 2, 3, 4, 5, 6, 7, 8, 9, 10, 11, 12, 20, 30] hX ?_ | refine a6 [0, 1, 2, 3, 4, 5, 6, 7, 8, 9, 10, 11, 12, 20, 30] hX mixed ?_ | refine aD ?_ | refine aA ?_ | refine aB ?_); (simp [go_sem]; try (refine ⟨by kernel_rfl, ?_⟩)))))
      refine aG (b := false) (by simp [go_sem]) (fun h => by cases h) (fun _ => ?_)
      (repeat (first | refine aC ?_ | refine a7 ?_ | ((first | refine a8 [0, 1, 2, 3, 4, 5, 6, 7, 8, 9, 10, 11, 12, 20, 30] hX ?_ | refine a6 [0, 1, 2, 3, 4, 5, 6, 7, 8, 9, 10, 11, 12, 20, 30] hX mixed ?_ | refine aD ?_ | refine aA ?_ | refine aB ?_); (simp [go_sem]; try (refine ⟨by kernel_rfl, ?_⟩)))))
      first | refine aE (xT _ _ h1 h2) rfl (by simp [go_sem]) rfl ?_ | refine aF (xT _ _ h1 h2) rfl (by simp [go_sem]) rfl ?_
      try (simp [go_sem]; try (refine ⟨by kernel_rfl, ?_⟩))
      have e : sumP a b c d ↔ rz (a * b + c * d) := ⟨fun h => h.2.2, fun h => ⟨h1, h2, h⟩⟩
      (repeat (first | refine aC ?_ | refine a7 ?_ | ((first | refine a8 [0, 1, 2, 3, 4, 5, 6, 7, 8, 9, 10, 11, 12, 20, 30] hX ?_ | refine a6 [0, 1, 2, 3, 4, 5, 6, 7, 8, 9, 10, 11, 12, 20, 30] hX mixed ?_ | refine aD ?_ | refine aA ?_ | refine aB ?_); (simp [go_sem, e, r60, e60]; try (refine ⟨by kernel_rfl, ?_⟩)))))
    · have e : ¬ sumP a b c d := fun h => h2 h.2.1
      first | refine aE (bT hc hd h2) rfl (by simp [go_sem]) rfl ?_ | refine aF (bT hc hd h2) rfl (by simp [go_sem]) rfl ?_
      try (simp [go_sem]; try (refine ⟨by kernel_rfl, ?_⟩))
      (repeat (first | refine aC ?_ | refine a7 ?_ | ((first | refine a8 [0, 1, 2, 3, 4, 5, 6, 7, 8, 9, 10, 11, 12, 20, 30] hX ?_ | refine a6 [0, 1, 2, 3, 4, 5, 6, 7, 8, 9, 10, 11, 12, 20, 30] hX mixed ?_ | refine aD ?_ | refine aA ?_ | refine aB ?_); (simp [go_sem]; try (refine ⟨by kernel_rfl, ?_⟩)))))
      refine aG (b := true) (by simp [go_sem]) (fun _ => ?_) (fun h => by cases h)
      (repeat (first | refine aC ?_ | refine a7 ?_ | ((first | refine a8 [0, 1, 2, 3, 4, 5, 6, 7, 8, 9, 10, 11, 12, 20, 30] hX ?_ | refine a6 [0, 1, 2, 3, 4, 5, 6, 7, 8, 9, 10, 11, 12, 20, 30] hX mixed ?_ | refine aD ?_ | refine aA ?_ | refine aB ?_); (simp [go_sem, e]; try (refine ⟨by kernel_rfl, ?_⟩)))))
  · have e : ¬ sumP a b c d := fun h => h1 h.1
    first | refine aE (bT ha hb h1) rfl (by simp [go_sem]) rfl ?_ | refine aF (bT ha hb h1) rfl (by simp [go_sem]) rfl ?_
    try (simp [go_sem]; try (refine ⟨by kernel_rfl, ?_⟩))
    (repeat (first | refine aC ?_ | refine a7 ?_ | ((first | refine a8 [0, 1, 2, 3, 4, 5, 6, 7, 8, 9, 10, 11, 12, 20, 30] hX ?_ | refine a6 [0, 1, 2, 3, 4, 5, 6, 7, 8, 9, 10, 11, 12, 20, 30] hX mixed ?_ | refine aD ?_ | refine aA ?_ | refine aB ?_); (simp [go_sem]; try (refine ⟨by kernel_rfl, ?_⟩)))))
    refine aG (b := true) (by simp [go_sem]) (fun _ => ?_) (fun h => by cases h)
    (repeat (first | refine aC ?_ | refine a7 ?_ | ((first | refine a8 [0, 1, 2, 3, 4, 5, 6, 7, 8, 9, 10, 11, 12, 20, 30] hX ?_ | refine a6 [0, 1, 2, 3, 4, 5, 6, 7, 8, 9, 10, 11, 12, 20, 30] hX mixed ?_ | refine aD ?_ | refine aA ?_ | refine aB ?_); (simp [go_sem, e]; try (refine ⟨by kernel_rfl, ?_⟩)))))
noncomputable def resF (ok : Prop) [Decidable ok] (p q : Int) : AV := if ok then .tup [frZ (np p q) (nq p q), ii 0] else .tup [frZ 0 0, ii 6]
theorem cP {ok : Prop} [Decidable ok] {p q : Int} (h : ok) : resF ok p q = .tup [frZ (np p q) (nq p q), ii 0] := if_pos h
theorem dA {ok : Prop} [Decidable ok] {p q : Int} (h : ¬ ok) : resF ok p q = .tup [frZ 0 0, ii 6] := if_neg h
theorem nK {a b c d : Int} (ha : rz a) (hb : rz b) (hc : rz c) (hd : rz d) (h : sumP a b c d) : Means false Tryz.prog 32 [bigZ a, bigZ b, bigZ c, bigZ d] (.tup [bigZ (a * b + c * d), ii 0]) := by
  have := y9 a b c d ha hb hc hd
  rwa [if_pos h, if_pos h] at this
theorem vV {a b c d : Int} (ha : rz a) (hb : rz b) (hc : rz c) (hd : rz d) (h : ¬ sumP a b c d) : Means false Tryz.prog 32 [bigZ a, bigZ b, bigZ c, bigZ d] (.tup [bigZ 0, ii 6]) := by
  have := y9 a b c d ha hb hc hd
  rwa [if_neg h, if_neg h] at this
theorem aZ (p q e f : Int) (h : ¬ (e = 0 ∧ f = 0)) : Means false Tryz.prog 34 [bigZ p, ii e, bigZ q, ii f] (.tup [frZ 0 0, ii 6]) := by
  refine aK false 22 [.cell 8 26, .tmp 9] Tryz.func34 rfl rfl rfl (by simp) (by decide) rfl fun X hX => ?_
  (repeat (first | refine aC ?_ | refine a7 ?_ | ((first | refine a8 [0, 1, 2, 3, 4, 6, 8, 9, 15] hX ?_ | refine a6 [0, 1, 2, 3, 4, 6, 8, 9, 15] hX mixed ?_ | refine aD ?_ | refine aA ?_ | refine aB ?_); (simp [go_sem]; try (refine ⟨by kernel_rfl, ?_⟩)))))
  refine aG (b := true) (by simp [go_sem]; omega) (fun _ => ?_) (fun h => by cases h)
  (repeat (first | refine aC ?_ | refine a7 ?_ | ((first | refine a8 [0, 1, 2, 3, 4, 6, 8, 9, 15] hX ?_ | refine a6 [0, 1, 2, 3, 4, 6, 8, 9, 15] hX mixed ?_ | refine aD ?_ | refine aA ?_ | refine aB ?_); (simp [go_sem]; try (refine ⟨by kernel_rfl, ?_⟩)))))
theorem cE (p q : Int) (hp : rz p) (hq : rz q) (h0 : q ≠ 0) : Means false Tryz.prog 34 [bigZ p, ii 0, bigZ q, ii 0] (.tup [frZ (np p q) (nq p q), ii 0]) := by
  refine aK false 22 [.cell 8 26, .tmp 9] Tryz.func34 rfl rfl rfl (by simp) (by decide) rfl fun X hX => ?_
  (repeat (first | refine aC ?_ | refine a7 ?_ | ((first | refine a8 [0, 1, 2, 3, 4, 6, 8, 9, 15] hX ?_ | refine a6 [0, 1, 2, 3, 4, 6, 8, 9, 15] hX mixed ?_ | refine aD ?_ | refine aA ?_ | refine aB ?_); (simp [go_sem]; try (refine ⟨by kernel_rfl, ?_⟩)))))
  refine aG (b := false) (by simp [go_sem]) (fun h => by cases h) (fun _ => ?_)
  (repeat (first | refine aC ?_ | refine a7 ?_ | ((first | refine a8 [0, 1, 2, 3, 4, 6, 8, 9, 15] hX ?_ | refine a6 [0, 1, 2, 3, 4, 6, 8, 9, 15] hX mixed ?_ | refine aD ?_ | refine aA ?_ | refine aB ?_); (simp [go_sem]; try (refine ⟨by kernel_rfl, ?_⟩)))))
  first | refine aE (nU p q hp hq h0) rfl (by simp [go_sem]) rfl ?_ | refine aF (nU p q hp hq h0) rfl (by simp [go_sem]) rfl ?_
  try (simp [go_sem]; try (refine ⟨by kernel_rfl, ?_⟩))
  (repeat (first | refine aC ?_ | refine a7 ?_ | ((first | refine a8 [0, 1, 2, 3, 4, 6, 8, 9, 15] hX ?_ | refine a6 [0, 1, 2, 3, 4, 6, 8, 9, 15] hX mixed ?_ | refine aD ?_ | refine aA ?_ | refine aB ?_); (simp [go_sem]; try (refine ⟨by kernel_rfl, ?_⟩)))))
set_option maxHeartbeats 4000000 in
set_option maxRecDepth 20000 in
theorem u5 (a b c d : Int) (hab : rf a b) (hcd : rf c d) : Means false Tryz.prog 6 [frZ a b, frZ c d] (resF (sumP a d c b ∧ rz (b * d)) (a * d + c * b) (b * d)) := by
  have ha := hab.1
  have hb := hab.2.1
  have hc := hcd.1
  have hd := hcd.2.1
  have hb0 := hab.2.2.1
  have hd0 := hcd.2.2.1
  have hbd : b * d ≠ 0 := Int.mul_ne_zero (by omega) (by omega)
  refine aK false 46 [.cell 4 26, .tmp 5] Tryz.func6 rfl rfl rfl (by simp) (by decide) rfl fun X hX => ?_
  (repeat (first | refine aC ?_ | refine a7 ?_ | ((first | refine a8 [0, 1, 2, 3, 4, 5, 6, 7, 8, 9, 17] hX ?_ | refine a6 [0, 1, 2, 3, 4, 5, 6, 7, 8, 9, 17] hX mixed ?_ | refine aD ?_ | refine aA ?_ | refine aB ?_); (simp [go_sem]; try (refine ⟨by kernel_rfl, ?_⟩)))))
  first | refine aE (aY a b hab) rfl (by simp [go_sem]) rfl ?_ | refine aF (aY a b hab) rfl (by simp [go_sem]) rfl ?_
  try (simp [go_sem]; try (refine ⟨by kernel_rfl, ?_⟩))
  first | refine aI (fun hg => aY c d hcd) rfl (by simp [go_sem]) rfl ?_ | refine aH (fun hg => aY c d hcd) rfl (by simp [go_sem]) rfl ?_
  try (simp [go_sem]; try (refine ⟨by kernel_rfl, ?_⟩))
  refine aG (b := false) (by simp [go_sem]) (fun h => by cases h) (fun _ => ?_)
  (repeat (first | refine aC ?_ | refine a7 ?_ | ((first | refine a8 [0, 1, 2, 3, 4, 5, 6, 7, 8, 9, 17] hX ?_ | refine a6 [0, 1, 2, 3, 4, 5, 6, 7, 8, 9, 17] hX mixed ?_ | refine aD ?_ | refine aA ?_ | refine aB ?_); (simp [go_sem]; try (refine ⟨by kernel_rfl, ?_⟩)))))
  by_cases h1 : sumP a d c b
  · by_cases h2 : rz (b * d)
    · rw [cP ⟨h1, h2⟩]
      first | refine aE (nK ha hd hc hb h1) rfl (by simp [go_sem]) rfl ?_ | refine aF (nK ha hd hc hb h1) rfl (by simp [go_sem]) rfl ?_
      try (simp [go_sem]; try (refine ⟨by kernel_rfl, ?_⟩))
      (repeat (first | refine aC ?_ | refine a7 ?_ | ((first | refine a8 [0, 1, 2, 3, 4, 5, 6, 7, 8, 9, 17] hX ?_ | refine a6 [0, 1, 2, 3, 4, 5, 6, 7, 8, 9, 17] hX mixed ?_ | refine aD ?_ | refine aA ?_ | refine aB ?_); (simp [go_sem]; try (refine ⟨by kernel_rfl, ?_⟩)))))
      first | refine aE (bJ hb hd h2 rfl) rfl (by simp [go_sem]) rfl ?_ | refine aF (bJ hb hd h2 rfl) rfl (by simp [go_sem]) rfl ?_
      try (simp [go_sem]; try (refine ⟨by kernel_rfl, ?_⟩))
      (repeat (first | refine aC ?_ | refine a7 ?_ | ((first | refine a8 [0, 1, 2, 3, 4, 5, 6, 7, 8, 9, 17] hX ?_ | refine a6 [0, 1, 2, 3, 4, 5, 6, 7, 8, 9, 17] hX mixed ?_ | refine aD ?_ | refine aA ?_ | refine aB ?_); (simp [go_sem]; try (refine ⟨by kernel_rfl, ?_⟩)))))
      first | refine aE (cE _ _ h1.2.2 h2 hbd) rfl (by simp [go_sem]) rfl ?_ | refine aF (cE _ _ h1.2.2 h2 hbd) rfl (by simp [go_sem]) rfl ?_
      try (simp [go_sem]; try (refine ⟨by kernel_rfl, ?_⟩))
      (repeat (first | refine aC ?_ | refine a7 ?_ | ((first | refine a8 [0, 1, 2, 3, 4, 5, 6, 7, 8, 9, 17] hX ?_ | refine a6 [0, 1, 2, 3, 4, 5, 6, 7, 8, 9, 17] hX mixed ?_ | refine aD ?_ | refine aA ?_ | refine aB ?_); (simp [go_sem]; try (refine ⟨by kernel_rfl, ?_⟩)))))
    · rw [dA fun h => h2 h.2]
      first | refine aE (nK ha hd hc hb h1) rfl (by simp [go_sem]) rfl ?_ | refine aF (nK ha hd hc hb h1) rfl (by simp [go_sem]) rfl ?_
      try (simp [go_sem]; try (refine ⟨by kernel_rfl, ?_⟩))
      (repeat (first | refine aC ?_ | refine a7 ?_ | ((first | refine a8 [0, 1, 2, 3, 4, 5, 6, 7, 8, 9, 17] hX ?_ | refine a6 [0, 1, 2, 3, 4, 5, 6, 7, 8, 9, 17] hX mixed ?_ | refine aD ?_ | refine aA ?_ | refine aB ?_); (simp [go_sem]; try (refine ⟨by kernel_rfl, ?_⟩)))))
      first | refine aE (bT hb hd h2) rfl (by simp [go_sem]) rfl ?_ | refine aF (bT hb hd h2) rfl (by simp [go_sem]) rfl ?_
      try (simp [go_sem]; try (refine ⟨by kernel_rfl, ?_⟩))
      (repeat (first | refine aC ?_ | refine a7 ?_ | ((first | refine a8 [0, 1, 2, 3, 4, 5, 6, 7, 8, 9, 17] hX ?_ | refine a6 [0, 1, 2, 3, 4, 5, 6, 7, 8, 9, 17] hX mixed ?_ | refine aD ?_ | refine aA ?_ | refine aB ?_); (simp [go_sem]; try (refine ⟨by kernel_rfl, ?_⟩)))))
      first | refine aE (aZ (a * d + c * b) 0 0 6 (by decide)) rfl (by simp [go_sem]) rfl ?_ | refine aF (aZ (a * d + c * b) 0 0 6 (by decide)) rfl (by simp [go_sem]) rfl ?_
      try (simp [go_sem]; try (refine ⟨by kernel_rfl, ?_⟩))
      (repeat (first | refine aC ?_ | refine a7 ?_ | ((first | refine a8 [0, 1, 2, 3, 4, 5, 6, 7, 8, 9, 17] hX ?_ | refine a6 [0, 1, 2, 3, 4, 5, 6, 7, 8, 9, 17] hX mixed ?_ | refine aD ?_ | refine aA ?_ | refine aB ?_); (simp [go_sem]; try (refine ⟨by kernel_rfl, ?_⟩)))))
  · rw [dA fun h => h1 h.1]
    first | refine aE (vV ha hd hc hb h1) rfl (by simp [go_sem]) rfl ?_ | refine aF (vV ha hd hc hb h1) rfl (by simp [go_sem]) rfl ?_
    try (simp [go_sem]; try (refine ⟨by kernel_rfl, ?_⟩))
    (repeat (first | refine aC ?_ | refine a7 ?_ | ((first | refine a8 [0, 1, 2, 3, 4, 5, 6, 7, 8, 9, 17] hX ?_ | refine a6 [0, 1, 2, 3, 4, 5, 6, 7, 8, 9, 17] hX mixed ?_ | refine aD ?_ | refine aA ?_ | refine aB ?_); (simp [go_sem]; try (refine ⟨by kernel_rfl, ?_⟩)))))
    by_cases h2 : rz (b * d)
    · first | refine aE (bJ hb hd h2 rfl) rfl (by simp [go_sem]) rfl ?_ | refine aF (bJ hb hd h2 rfl) rfl (by simp [go_sem]) rfl ?_
      try (simp [go_sem]; try (refine ⟨by kernel_rfl, ?_⟩))
      (repeat (first | refine aC ?_ | refine a7 ?_ | ((first | refine a8 [0, 1, 2, 3, 4, 5, 6, 7, 8, 9, 17] hX ?_ | refine a6 [0, 1, 2, 3, 4, 5, 6, 7, 8, 9, 17] hX mixed ?_ | refine aD ?_ | refine aA ?_ | refine aB ?_); (simp [go_sem]; try (refine ⟨by kernel_rfl, ?_⟩)))))
      first | refine aE (aZ 0 (b * d) 6 0 (by decide)) rfl (by simp [go_sem]) rfl ?_ | refine aF (aZ 0 (b * d) 6 0 (by decide)) rfl (by simp [go_sem]) rfl ?_
      try (simp [go_sem]; try (refine ⟨by kernel_rfl, ?_⟩))
      (repeat (first | refine aC ?_ | refine a7 ?_ | ((first | refine a8 [0, 1, 2, 3, 4, 5, 6, 7, 8, 9, 17] hX ?_ | refine a6 [0, 1, 2, 3, 4, 5, 6, 7, 8, 9, 17] hX mixed ?_ | refine aD ?_ | refine aA ?_ | refine aB ?_); (simp [go_sem]; try (refine ⟨by kernel_rfl, ?_⟩)))))
    · first | refine aE (bT hb hd h2) rfl (by simp [go_sem]) rfl ?_ | refine aF (bT hb hd h2) rfl (by simp [go_sem]) rfl ?_
      try (simp [go_sem]; try (refine ⟨by kernel_rfl, ?_⟩))
      (repeat (first | refine aC ?_ | refine a7 ?_ | ((first | refine a8 [0, 1, 2, 3, 4, 5, 6, 7, 8, 9, 17] hX ?_ | refine a6 [0, 1, 2, 3, 4, 5, 6, 7, 8, 9, 17] hX mixed ?_ | refine aD ?_ | refine aA ?_ | refine aB ?_); (simp [go_sem]; try (refine ⟨by kernel_rfl, ?_⟩)))))
      first | refine aE (aZ 0 0 6 6 (by decide)) rfl (by simp [go_sem]) rfl ?_ | refine aF (aZ 0 0 6 6 (by decide)) rfl (by simp [go_sem]) rfl ?_
      try (simp [go_sem]; try (refine ⟨by kernel_rfl, ?_⟩))
      (repeat (first | refine aC ?_ | refine a7 ?_ | ((first | refine a8 [0, 1, 2, 3, 4, 5, 6, 7, 8, 9, 17] hX ?_ | refine a6 [0, 1, 2, 3, 4, 5, 6, 7, 8, 9, 17] hX mixed ?_ | refine aD ?_ | refine aA ?_ | refine aB ?_); (simp [go_sem]; try (refine ⟨by kernel_rfl, ?_⟩)))))
set_option maxHeartbeats 4000000 in
set_option maxRecDepth 20000 in
theorem xN (a b c d : Int) (hab : rf a b) (hcd : rf c d) : Means false Tryz.prog 11 [frZ a b, frZ c d] (resF (rz (a * c) ∧ rz (b * d)) (a * c) (b * d)) := by
  have ha := hab.1
  have hb := hab.2.1
  have hc := hcd.1
  have hd := hcd.2.1
  have hb0 := hab.2.2.1
  have hd0 := hcd.2.2.1
  have hbd : b * d ≠ 0 := Int.mul_ne_zero (by omega) (by omega)
  refine aK false 42 [.cell 4 26, .tmp 5] Tryz.func11 rfl rfl rfl (by simp) (by decide) rfl fun X hX => ?_
  (repeat (first | refine aC ?_ | refine a7 ?_ | ((first | refine a8 [0, 1, 2, 3, 4, 5, 6, 7, 8, 9, 17] hX ?_ | refine a6 [0, 1, 2, 3, 4, 5, 6, 7, 8, 9, 17] hX mixed ?_ | refine aD ?_ | refine aA ?_ | refine aB ?_); (simp [go_sem]; try (refine ⟨by kernel_rfl, ?_⟩)))))
  first | refine aE (aY a b hab) rfl (by simp [go_sem]) rfl ?_ | refine aF (aY a b hab) rfl (by simp [go_sem]) rfl ?_
  try (simp [go_sem]; try (refine ⟨by kernel_rfl, ?_⟩))
  first | refine aI (fun hg => aY c d hcd) rfl (by simp [go_sem]) rfl ?_ | refine aH (fun hg => aY c d hcd) rfl (by simp [go_sem]) rfl ?_
  try (simp [go_sem]; try (refine ⟨by kernel_rfl, ?_⟩))
  refine aG (b := false) (by simp [go_sem]) (fun h => by cases h) (fun _ => ?_)
  (repeat (first | refine aC ?_ | refine a7 ?_ | ((first | refine a8 [0, 1, 2, 3, 4, 5, 6, 7, 8, 9, 17] hX ?_ | refine a6 [0, 1, 2, 3, 4, 5, 6, 7, 8, 9, 17] hX mixed ?_ | refine aD ?_ | refine aA ?_ | refine aB ?_); (simp [go_sem]; try (refine ⟨by kernel_rfl, ?_⟩)))))
  by_cases h1 : rz (a * c)
  · by_cases h2 : rz (b * d)
    · rw [cP ⟨h1, h2⟩]
      first | refine aE (bJ ha hc h1 rfl) rfl (by simp [go_sem]) rfl ?_ | refine aF (bJ ha hc h1 rfl) rfl (by simp [go_sem]) rfl ?_
      try (simp [go_sem]; try (refine ⟨by kernel_rfl, ?_⟩))
      (repeat (first | refine aC ?_ | refine a7 ?_ | ((first | refine a8 [0, 1, 2, 3, 4, 5, 6, 7, 8, 9, 17] hX ?_ | refine a6 [0, 1, 2, 3, 4, 5, 6, 7, 8, 9, 17] hX mixed ?_ | refine aD ?_ | refine aA ?_ | refine aB ?_); (simp [go_sem]; try (refine ⟨by kernel_rfl, ?_⟩)))))
      first | refine aE (bJ hb hd h2 rfl) rfl (by simp [go_sem]) rfl ?_ | refine aF (bJ hb hd h2 rfl) rfl (by simp [go_sem]) rfl ?_
      try (simp [go_sem]; try (refine ⟨by kernel_rfl, ?_⟩))
      (repeat (first | refine aC ?_ | refine a7 ?_ | ((first | refine a8 [0, 1, 2, 3, 4, 5, 6, 7, 8, 9, 17] hX ?_ | refine a6 [0, 1, 2, 3, 4, 5, 6, 7, 8, 9, 17] hX mixed ?_ | refine aD ?_ | refine aA ?_ | refine aB ?_); (simp [go_sem]; try (refine ⟨by kernel_rfl, ?_⟩)))))
      first | refine aE (cE _ _ h1 h2 hbd) rfl (by simp [go_sem]) rfl ?_ | refine aF (cE _ _ h1 h2 hbd) rfl (by simp [go_sem]) rfl ?_
      try (simp [go_sem]; try (refine ⟨by kernel_rfl, ?_⟩))
      (repeat (first | refine aC ?_ | refine a7 ?_ | ((first | refine a8 [0, 1, 2, 3, 4, 5, 6, 7, 8, 9, 17] hX ?_ | refine a6 [0, 1, 2, 3, 4, 5, 6, 7, 8, 9, 17] hX mixed ?_ | refine aD ?_ | refine aA ?_ | refine aB ?_); (simp [go_sem]; try (refine ⟨by kernel_rfl, ?_⟩)))))
    · rw [dA fun h => h2 h.2]
      first | refine aE (bJ ha hc h1 rfl) rfl (by simp [go_sem]) rfl ?_ | refine aF (bJ ha hc h1 rfl) rfl (by simp [go_sem]) rfl ?_
      try (simp [go_sem]; try (refine ⟨by kernel_rfl, ?_⟩))
      (repeat (first | refine aC ?_ | refine a7 ?_ | ((first | refine a8 [0, 1, 2, 3, 4, 5, 6, 7, 8, 9, 17] hX ?_ | refine a6 [0, 1, 2, 3, 4, 5, 6, 7, 8, 9, 17] hX mixed ?_ | refine aD ?_ | refine aA ?_ | refine aB ?_); (simp [go_sem]; try (refine ⟨by kernel_rfl, ?_⟩)))))
      first | refine aE (bT hb hd h2) rfl (by simp [go_sem]) rfl ?_ | refine aF (bT hb hd h2) rfl (by simp [go_sem]) rfl ?_
      try (simp [go_sem]; try (refine ⟨by kernel_rfl, ?_⟩))
      (repeat (first | refine aC ?_ | refine a7 ?_ | ((first | refine a8 [0, 1, 2, 3, 4, 5, 6, 7, 8, 9, 17] hX ?_ | refine a6 [0, 1, 2, 3, 4, 5, 6, 7, 8, 9, 17] hX mixed ?_ | refine aD ?_ | refine aA ?_ | refine aB ?_); (simp [go_sem]; try (refine ⟨by kernel_rfl, ?_⟩)))))
      first | refine aE (aZ (a * c) 0 0 6 (by decide)) rfl (by simp [go_sem]) rfl ?_ | refine aF (aZ (a * c) 0 0 6 (by decide)) rfl (by simp [go_sem]) rfl ?_
      try (simp [go_sem]; try (refine ⟨by kernel_rfl, ?_⟩))
      (repeat (first | refine aC ?_ | refine a7 ?_ | ((first | refine a8 [0, 1, 2, 3, 4, 5, 6, 7, 8, 9, 17] hX ?_ | refine a6 [0, 1, 2, 3, 4, 5, 6, 7, 8, 9, 17] hX mixed ?_ | refine aD ?_ | refine aA ?_ | refine aB ?_); (simp [go_sem]; try (refine ⟨by kernel_rfl, ?_⟩)))))
  · rw [dA fun h => h1 h.1]
    first | refine aE (bT ha hc h1) rfl (by simp [go_sem]) rfl ?_ | refine aF (bT ha hc h1) rfl (by simp [go_sem]) rfl ?_
    try (simp [go_sem]; try (refine ⟨by kernel_rfl, ?_⟩))
    (repeat (first | refine aC ?_ | refine a7 ?_ | ((first | refine a8 [0, 1, 2, 3, 4, 5, 6, 7, 8, 9, 17] hX ?_ | refine a6 [0, 1, 2, 3, 4, 5, 6, 7, 8, 9, 17] hX mixed ?_ | refine aD ?_ | refine aA ?_ | refine aB ?_); (simp [go_sem]; try (refine ⟨by kernel_rfl, ?_⟩)))))
    by_cases h2 : rz (b * d)
    · first | refine aE (bJ hb hd h2 rfl) rfl (by simp [go_sem]) rfl ?_ | refine aF (bJ hb hd h2 rfl) rfl (by simp [go_sem]) rfl ?_
      try (simp [go_sem]; try (refine ⟨by kernel_rfl, ?_⟩))
      (repeat (first | refine aC ?_ | refine a7 ?_ | ((first | refine a8 [0, 1, 2, 3, 4, 5, 6, 7, 8, 9, 17] hX ?_ | refine a6 [0, 1, 2, 3, 4, 5, 6, 7, 8, 9, 17] hX mixed ?_ | refine aD ?_ | refine aA ?_ | refine aB ?_); (simp [go_sem]; try (refine ⟨by kernel_rfl, ?_⟩)))))
      first | refine aE (aZ 0 (b * d) 6 0 (by decide)) rfl (by simp [go_sem]) rfl ?_ | refine aF (aZ 0 (b * d) 6 0 (by decide)) rfl (by simp [go_sem]) rfl ?_
      try (simp [go_sem]; try (refine ⟨by kernel_rfl, ?_⟩))
      (repeat (first | refine aC ?_ | refine a7 ?_ | ((first | refine a8 [0, 1, 2, 3, 4, 5, 6, 7, 8, 9, 17] hX ?_ | refine a6 [0, 1, 2, 3, 4, 5, 6, 7, 8, 9, 17] hX mixed ?_ | refine aD ?_ | refine aA ?_ | refine aB ?_); (simp [go_sem]; try (refine ⟨by kernel_rfl, ?_⟩)))))
    · first | refine aE (bT hb hd h2) rfl (by simp [go_sem]) rfl ?_ | refine aF (bT hb hd h2) rfl (by simp [go_sem]) rfl ?_
      try (simp [go_sem]; try (refine ⟨by kernel_rfl, ?_⟩))
      (repeat (first | refine aC ?_ | refine a7 ?_ | ((first | refine a8 [0, 1, 2, 3, 4, 5, 6, 7, 8, 9, 17] hX ?_ | refine a6 [0, 1, 2, 3, 4, 5, 6, 7, 8, 9, 17] hX mixed ?_ | refine aD ?_ | refine aA ?_ | refine aB ?_); (simp [go_sem]; try (refine ⟨by kernel_rfl, ?_⟩)))))
      first | refine aE (aZ 0 0 6 6 (by decide)) rfl (by simp [go_sem]) rfl ?_ | refine aF (aZ 0 0 6 6 (by decide)) rfl (by simp [go_sem]) rfl ?_
      try (simp [go_sem]; try (refine ⟨by kernel_rfl, ?_⟩))
      (repeat (first | refine aC ?_ | refine a7 ?_ | ((first | refine a8 [0, 1, 2, 3, 4, 5, 6, 7, 8, 9, 17] hX ?_ | refine a6 [0, 1, 2, 3, 4, 5, 6, 7, 8, 9, 17] hX mixed ?_ | refine aD ?_ | refine aA ?_ | refine aB ?_); (simp [go_sem]; try (refine ⟨by kernel_rfl, ?_⟩)))))
set_option maxHeartbeats 4000000 in
set_option maxRecDepth 20000 in
theorem xO (a b c d : Int) (hab : rf a b) (hcd : rf c d) (h0 : c ≠ 0) : Means false Tryz.prog 13 [frZ a b, frZ c d] (resF (rz (a * d) ∧ rz (b * c)) (a * d) (b * c)) := by
  have ha := hab.1
  have hb := hab.2.1
  have hc := hcd.1
  have hd := hcd.2.1
  have hb0 := hab.2.2.1
  have hd0 := hcd.2.2.1
  have hbd : b * d ≠ 0 := Int.mul_ne_zero (by omega) (by omega)
  refine aK false 49 [.cell 4 26, .tmp 5] Tryz.func13 rfl rfl rfl (by simp) (by decide) rfl fun X hX => ?_
  (repeat (first | refine aC ?_ | refine a7 ?_ | ((first | refine a8 [0, 1, 2, 3, 4, 5, 6, 7, 8, 9, 10, 20] hX ?_ | refine a6 [0, 1, 2, 3, 4, 5, 6, 7, 8, 9, 10, 20] hX mixed ?_ | refine aD ?_ | refine aA ?_ | refine aB ?_); (simp [go_sem]; try (refine ⟨by kernel_rfl, ?_⟩)))))
  first | refine aE (aY a b hab) rfl (by simp [go_sem]) rfl ?_ | refine aF (aY a b hab) rfl (by simp [go_sem]) rfl ?_
  try (simp [go_sem]; try (refine ⟨by kernel_rfl, ?_⟩))
  first | refine aI (fun hg => aY c d hcd) rfl (by simp [go_sem]) rfl ?_ | refine aH (fun hg => aY c d hcd) rfl (by simp [go_sem]) rfl ?_
  try (simp [go_sem]; try (refine ⟨by kernel_rfl, ?_⟩))
  have hsc : ¬ sg c = 0 := by rcases aJ c with h | h | h <;> omega
  refine aG (b := false) (by simp [go_sem]) (fun h => by cases h) (fun _ => ?_)
  (repeat (first | refine aC ?_ | refine a7 ?_ | ((first | refine a8 [0, 1, 2, 3, 4, 5, 6, 7, 8, 9, 10, 20] hX ?_ | refine a6 [0, 1, 2, 3, 4, 5, 6, 7, 8, 9, 10, 20] hX mixed ?_ | refine aD ?_ | refine aA ?_ | refine aB ?_); (simp [go_sem]; try (refine ⟨by kernel_rfl, ?_⟩)))))
  refine aG (b := false) (by simp [go_sem, hsc]) (fun h => by cases h) (fun _ => ?_)
  (repeat (first | refine aC ?_ | refine a7 ?_ | ((first | refine a8 [0, 1, 2, 3, 4, 5, 6, 7, 8, 9, 10, 20] hX ?_ | refine a6 [0, 1, 2, 3, 4, 5, 6, 7, 8, 9, 10, 20] hX mixed ?_ | refine aD ?_ | refine aA ?_ | refine aB ?_); (simp [go_sem]; try (refine ⟨by kernel_rfl, ?_⟩)))))
  by_cases h1 : rz (a * d)
  · by_cases h2 : rz (b * c)
    · rw [cP ⟨h1, h2⟩]
      first | refine aE (bJ ha hd h1 rfl) rfl (by simp [go_sem]) rfl ?_ | refine aF (bJ ha hd h1 rfl) rfl (by simp [go_sem]) rfl ?_
      try (simp [go_sem]; try (refine ⟨by kernel_rfl, ?_⟩))
      (repeat (first | refine aC ?_ | refine a7 ?_ | ((first | refine a8 [0, 1, 2, 3, 4, 5, 6, 7, 8, 9, 10, 20] hX ?_ | refine a6 [0, 1, 2, 3, 4, 5, 6, 7, 8, 9, 10, 20] hX mixed ?_ | refine aD ?_ | refine aA ?_ | refine aB ?_); (simp [go_sem]; try (refine ⟨by kernel_rfl, ?_⟩)))))
      first | refine aE (bJ hb hc h2 rfl) rfl (by simp [go_sem]) rfl ?_ | refine aF (bJ hb hc h2 rfl) rfl (by simp [go_sem]) rfl ?_
      try (simp [go_sem]; try (refine ⟨by kernel_rfl, ?_⟩))
      (repeat (first | refine aC ?_ | refine a7 ?_ | ((first | refine a8 [0, 1, 2, 3, 4, 5, 6, 7, 8, 9, 10, 20] hX ?_ | refine a6 [0, 1, 2, 3, 4, 5, 6, 7, 8, 9, 10, 20] hX mixed ?_ | refine aD ?_ | refine aA ?_ | refine aB ?_); (simp [go_sem]; try (refine ⟨by kernel_rfl, ?_⟩)))))
      first | refine aE (cE _ _ h1 h2 (Int.mul_ne_zero (by omega) h0)) rfl (by simp [go_sem]) rfl ?_ | refine aF (cE _ _ h1 h2 (Int.mul_ne_zero (by omega) h0)) rfl (by simp [go_sem]) rfl ?_
      try (simp [go_sem]; try (refine ⟨by kernel_rfl, ?_⟩))
      (repeat (first | refine aC ?_ | refine a7 ?_ | ((first | refine a8 [0, 1, 2, 3, 4, 5, 6, 7, 8, 9, 10, 20] hX ?_ | refine a6 [0, 1, 2, 3, 4, 5, 6, 7, 8, 9, 10, 20] hX mixed ?_ | refine aD ?_ | refine aA ?_ | refine aB ?_); (simp [go_sem]; try (refine ⟨by kernel_rfl, ?_⟩)))))
    · rw [dA fun h => h2 h.2]
      first | refine aE (bJ ha hd h1 rfl) rfl (by simp [go_sem]) rfl ?_ | refine aF (bJ ha hd h1 rfl) rfl (by simp [go_sem]) rfl ?_
      try (simp [go_sem]; try (refine ⟨by kernel_rfl, ?_⟩))
      (repeat (first | refine aC ?_ | refine a7 ?_ | ((first | refine a8 [0, 1, 2, 3, 4, 5, 6, 7, 8, 9, 10, 20] hX ?_ | refine a6 [0, 1, 2, 3, 4, 5, 6, 7, 8, 9, 10, 20] hX mixed ?_ | refine aD ?_ | refine aA ?_ | refine aB ?_); (simp [go_sem]; try (refine ⟨by kernel_rfl, ?_⟩)))))
      first | refine aE (bT hb hc h2) rfl (by simp [go_sem]) rfl ?_ | refine aF (bT hb hc h2) rfl (by simp [go_sem]) rfl ?_
      try (simp [go_sem]; try (refine ⟨by kernel_rfl, ?_⟩))
      (repeat (first | refine aC ?_ | refine a7 ?_ | ((first | refine a8 [0, 1, 2, 3, 4, 5, 6, 7, 8, 9, 10, 20] hX ?_ | refine a6 [0, 1, 2, 3, 4, 5, 6, 7, 8, 9, 10, 20] hX mixed ?_ | refine aD ?_ | refine aA ?_ | refine aB ?_); (simp [go_sem]; try (refine ⟨by kernel_rfl, ?_⟩)))))
      first | refine aE (aZ (a * d) 0 0 6 (by decide)) rfl (by simp [go_sem]) rfl ?_ | refine aF (aZ (a * d) 0 0 6 (by decide)) rfl (by simp [go_sem]) rfl ?_
      try (simp [go_sem]; try (refine ⟨by kernel_rfl, ?_⟩))
      (repeat (first | refine aC ?_ | refine a7 ?_ | ((first | refine a8 [0, 1, 2, 3, 4, 5, 6, 7, 8, 9, 10, 20] hX ?_ | refine a6 [0, 1, 2, 3, 4, 5, 6, 7, 8, 9, 10, 20] hX mixed ?_ | refine aD ?_ | refine aA ?_ | refine aB ?_); (simp [go_sem]; try (refine ⟨by kernel_rfl, ?_⟩)))))
  · rw [dA fun h => h1 h.1]
    first | refine aE (bT ha hd h1) rfl (by simp [go_sem]) rfl ?_ | refine aF (bT ha hd h1) rfl (by simp [go_sem]) rfl ?_
    try (simp [go_sem]; try (refine ⟨by kernel_rfl, ?_⟩))
    (repeat (first | refine aC ?_ | refine a7 ?_ | ((first | refine a8 [0, 1, 2, 3, 4, 5, 6, 7, 8, 9, 10, 20] hX ?_ | refine a6 [0, 1, 2, 3, 4, 5, 6, 7, 8, 9, 10, 20] hX mixed ?_ | refine aD ?_ | refine aA ?_ | refine aB ?_); (simp [go_sem]; try (refine ⟨by kernel_rfl, ?_⟩)))))
    by_cases h2 : rz (b * c)
    · first | refine aE (bJ hb hc h2 rfl) rfl (by simp [go_sem]) rfl ?_ | refine aF (bJ hb hc h2 rfl) rfl (by simp [go_sem]) rfl ?_
      try (simp [go_sem]; try (refine ⟨by kernel_rfl, ?_⟩))
      (repeat (first | refine aC ?_ | refine a7 ?_ | ((first | refine a8 [0, 1, 2, 3, 4, 5, 6, 7, 8, 9, 10, 20] hX ?_ | refine a6 [0, 1, 2, 3, 4, 5, 6, 7, 8, 9, 10, 20] hX mixed ?_ | refine aD ?_ | refine aA ?_ | refine aB ?_); (simp [go_sem]; try (refine ⟨by kernel_rfl, ?_⟩)))))
      first | refine aE (aZ 0 (b * c) 6 0 (by decide)) rfl (by simp [go_sem]) rfl ?_ | refine aF (aZ 0 (b * c) 6 0 (by decide)) rfl (by simp [go_sem]) rfl ?_
      try (simp [go_sem]; try (refine ⟨by kernel_rfl, ?_⟩))
      (repeat (first | refine aC ?_ | refine a7 ?_ | ((first | refine a8 [0, 1, 2, 3, 4, 5, 6, 7, 8, 9, 10, 20] hX ?_ | refine a6 [0, 1, 2, 3, 4, 5, 6, 7, 8, 9, 10, 20] hX mixed ?_ | refine aD ?_ | refine aA ?_ | refine aB ?_); (simp [go_sem]; try (refine ⟨by kernel_rfl, ?_⟩)))))
    · first | refine aE (bT hb hc h2) rfl (by simp [go_sem]) rfl ?_ | refine aF (bT hb hc h2) rfl (by simp [go_sem]) rfl ?_
      try (simp [go_sem]; try (refine ⟨by kernel_rfl, ?_⟩))
      (repeat (first | refine aC ?_ | refine a7 ?_ | ((first | refine a8 [0, 1, 2, 3, 4, 5, 6, 7, 8, 9, 10, 20] hX ?_ | refine a6 [0, 1, 2, 3, 4, 5, 6, 7, 8, 9, 10, 20] hX mixed ?_ | refine aD ?_ | refine aA ?_ | refine aB ?_); (simp [go_sem]; try (refine ⟨by kernel_rfl, ?_⟩)))))
      first | refine aE (aZ 0 0 6 6 (by decide)) rfl (by simp [go_sem]) rfl ?_ | refine aF (aZ 0 0 6 6 (by decide)) rfl (by simp [go_sem]) rfl ?_
      try (simp [go_sem]; try (refine ⟨by kernel_rfl, ?_⟩))
      (repeat (first | refine aC ?_ | refine a7 ?_ | ((first | refine a8 [0, 1, 2, 3, 4, 5, 6, 7, 8, 9, 10, 20] hX ?_ | refine a6 [0, 1, 2, 3, 4, 5, 6, 7, 8, 9, 10, 20] hX mixed ?_ | refine aD ?_ | refine aA ?_ | refine aB ?_); (simp [go_sem]; try (refine ⟨by kernel_rfl, ?_⟩)))))
theorem zS {p q : Int} (h : rf p q) : rf (-p) q := ⟨fG h.1, h.2.1, h.2.2.1, by rw [Int.neg_gcd]; exact h.2.2.2⟩
set_option maxHeartbeats 4000000 in
theorem xM (a b c d : Int) (hab : rf a b) (hcd : rf c d) : Means false Tryz.prog 8 [frZ a b, frZ c d] (resF (sumP a d (-c) b ∧ rz (b * d)) (a * d + -c * b) (b * d)) := by
  have hA := u5 a b (-c) d hab (zS hcd)
  by_cases h : sumP a d (-c) b ∧ rz (b * d)
  · rw [cP h] at hA ⊢
    refine aK false 25 [.cell 4 26, .tmp 5] Tryz.func8 rfl rfl rfl (by simp) (by decide) rfl fun X hX => ?_
    (repeat (first | refine aC ?_ | refine a7 ?_ | ((first | refine a8 [0, 1, 2, 3, 4, 5, 13] hX ?_ | refine a6 [0, 1, 2, 3, 4, 5, 13] hX mixed ?_ | refine aD ?_ | refine aA ?_ | refine aB ?_); (simp [go_sem]; try (refine ⟨by kernel_rfl, ?_⟩)))))
    first | refine aE (aY a b hab) rfl (by simp [go_sem]) rfl ?_ | refine aF (aY a b hab) rfl (by simp [go_sem]) rfl ?_
    try (simp [go_sem]; try (refine ⟨by kernel_rfl, ?_⟩))
    first | refine aI (fun hg => aY c d hcd) rfl (by simp [go_sem]) rfl ?_ | refine aH (fun hg => aY c d hcd) rfl (by simp [go_sem]) rfl ?_
    try (simp [go_sem]; try (refine ⟨by kernel_rfl, ?_⟩))
    refine aG (b := false) (by simp [go_sem]) (fun h => by cases h) (fun _ => ?_)
    (repeat (first | refine aC ?_ | refine a7 ?_ | ((first | refine a8 [0, 1, 2, 3, 4, 5, 13] hX ?_ | refine a6 [0, 1, 2, 3, 4, 5, 13] hX mixed ?_ | refine aD ?_ | refine aA ?_ | refine aB ?_); (simp [go_sem]; try (refine ⟨by kernel_rfl, ?_⟩)))))
    first | refine aE (j0 c hcd.1) rfl (by simp [go_sem]) rfl ?_ | refine aF (j0 c hcd.1) rfl (by simp [go_sem]) rfl ?_
    try (simp [go_sem]; try (refine ⟨by kernel_rfl, ?_⟩))
    first | refine aE (hA) rfl (by simp [go_sem]) rfl ?_ | refine aF (hA) rfl (by simp [go_sem]) rfl ?_
    try (simp [go_sem]; try (refine ⟨by kernel_rfl, ?_⟩))
    (repeat (first | refine aC ?_ | refine a7 ?_ | ((first | refine a8 [0, 1, 2, 3, 4, 5, 13] hX ?_ | refine a6 [0, 1, 2, 3, 4, 5, 13] hX mixed ?_ | refine aD ?_ | refine aA ?_ | refine aB ?_); (simp [go_sem]; try (refine ⟨by kernel_rfl, ?_⟩)))))
  · rw [dA h] at hA ⊢
    refine aK false 25 [.cell 4 26, .tmp 5] Tryz.func8 rfl rfl rfl (by simp) (by decide) rfl fun X hX => ?_
    (repeat (first | refine aC ?_ | refine a7 ?_ | ((first | refine a8 [0, 1, 2, 3, 4, 5, 13] hX ?_ | refine a6 [0, 1, 2, 3, 4, 5, 13] hX mixed ?_ | refine aD ?_ | refine aA ?_ | refine aB ?_); (simp [go_sem]; try (refine ⟨by kernel_rfl, ?_⟩)))))
    first | refine aE (aY a b hab) rfl (by simp [go_sem]) rfl ?_ | refine aF (aY a b hab) rfl (by simp [go_sem]) rfl ?_
    try (simp [go_sem]; try (refine ⟨by kernel_rfl, ?_⟩))
    first | refine aI (fun hg => aY c d hcd) rfl (by simp [go_sem]) rfl ?_ | refine aH (fun hg => aY c d hcd) rfl (by simp [go_sem]) rfl ?_
    try (simp [go_sem]; try (refine ⟨by kernel_rfl, ?_⟩))
    refine aG (b := false) (by simp [go_sem]) (fun h => by cases h) (fun _ => ?_)
    (repeat (first | refine aC ?_ | refine a7 ?_ | ((first | refine a8 [0, 1, 2, 3, 4, 5, 13] hX ?_ | refine a6 [0, 1, 2, 3, 4, 5, 13] hX mixed ?_ | refine aD ?_ | refine aA ?_ | refine aB ?_); (simp [go_sem]; try (refine ⟨by kernel_rfl, ?_⟩)))))
    first | refine aE (j0 c hcd.1) rfl (by simp [go_sem]) rfl ?_ | refine aF (j0 c hcd.1) rfl (by simp [go_sem]) rfl ?_
    try (simp [go_sem]; try (refine ⟨by kernel_rfl, ?_⟩))
    first | refine aE (hA) rfl (by simp [go_sem]) rfl ?_ | refine aF (hA) rfl (by simp [go_sem]) rfl ?_
    try (simp [go_sem]; try (refine ⟨by kernel_rfl, ?_⟩))
    (repeat (first | refine aC ?_ | refine a7 ?_ | ((first | refine a8 [0, 1, 2, 3, 4, 5, 13] hX ?_ | refine a6 [0, 1, 2, 3, 4, 5, 13] hX mixed ?_ | refine aD ?_ | refine aA ?_ | refine aB ?_); (simp [go_sem]; try (refine ⟨by kernel_rfl, ?_⟩)))))
end Go.Proofs.YtebinaffldlihaaGreatDoor
