import Derived.Test.YtebinaffldlihaaGreatDoorBigH
set_option linter.all false
namespace Go.Proofs.YtebinaffldlihaaGreatDoor
open Go.RowKit Go.Ab
attribute [local irreducible] AWP Go.Ab.Sub Means MeansH CallK CallG CallT CallGT
theorem aJ (z : Int) : (sg z = -1 ∧ z < 0 ∧ ab z = -z) ∨ (sg z = 0 ∧ z = 0 ∧ ab z = 0) ∨ (sg z = 1 ∧ 0 < z ∧ ab z = z) := by
  unfold sg ab
  by_cases h : z < 0
  · rw [if_pos h, if_pos h]; exact .inl ⟨rfl, h, rfl⟩
  · by_cases h2 : 0 < z
    · rw [if_neg h, if_pos h2, if_neg h]; exact .inr (.inr ⟨rfl, h2, rfl⟩)
    · rw [if_neg h, if_neg h2, if_neg h]; exact .inr (.inl ⟨rfl, by omega, by omega⟩)
theorem dN (z : Int) : -1 ≤ sg z ∧ sg z ≤ 1 := by rcases aJ z with h | h | h <;> omega
theorem m8 (z : Int) : sg (-z) = -sg z := by rcases aJ z with h | h | h <;> rcases aJ (-z) with h2 | h2 | h2 <;> omega
theorem jY (z : Int) : ab (-z) = ab z := by rcases aJ z with h | h | h <;> rcases aJ (-z) with h2 | h2 | h2 <;> omega
theorem tQ {z s t : Int} (h : z = s * t) (ht : 0 < t) (hs : s = 1 ∨ s = -1) : sg z = s ∧ ab z = t := by
  rcases hs with rfl | rfl
  · rcases aJ z with h2 | h2 | h2 <;> omega
  · rcases aJ z with h2 | h2 | h2 <;> omega
theorem kU (z w : Int) : ab (z * w) = ab z * ab w := by
  rcases aJ z with ⟨_, hz, e1⟩ | ⟨_, rfl, e1⟩ | ⟨_, hz, e1⟩
  · rcases aJ w with ⟨_, hw, e2⟩ | ⟨_, rfl, e2⟩ | ⟨_, hw, e2⟩
    · have := Int.mul_pos_of_neg_of_neg hz hw
      rw [e1, e2, Int.neg_mul_neg, ab, if_neg (by omega)]
    · rw [e2, Int.mul_zero, Int.mul_zero]; rfl
    · have := Int.mul_neg_of_neg_of_pos hz hw
      rw [e1, e2, Int.neg_mul, ab, if_pos (by omega)]
  · rw [e1, Int.zero_mul, Int.zero_mul]; rfl
  · rcases aJ w with ⟨_, hw, e2⟩ | ⟨_, rfl, e2⟩ | ⟨_, hw, e2⟩
    · have := Int.mul_neg_of_pos_of_neg hz hw
      rw [e1, e2, Int.mul_neg, ab, if_pos (by omega)]
    · rw [e2, Int.mul_zero, Int.mul_zero]; rfl
    · have := Int.mul_pos hz hw
      rw [e1, e2, ab, if_neg (by omega)]
theorem eX (z w : Int) : sg (z * w) = sg z * sg w := by
  rcases aJ z with ⟨e1, hz, _⟩ | ⟨e1, rfl, _⟩ | ⟨e1, hz, _⟩
  · rcases aJ w with ⟨e2, hw, _⟩ | ⟨e2, rfl, _⟩ | ⟨e2, hw, _⟩
    · have := Int.mul_pos_of_neg_of_neg hz hw
      rw [e1, e2, sg, if_neg (by omega), if_pos (by omega)]; rfl
    · rw [e2, Int.mul_zero, Int.mul_zero]; rfl
    · have := Int.mul_neg_of_neg_of_pos hz hw
      rw [e1, e2, sg, if_pos (by omega)]; rfl
  · rw [e1, Int.zero_mul, Int.zero_mul]; rfl
  · rcases aJ w with ⟨e2, hw, _⟩ | ⟨e2, rfl, _⟩ | ⟨e2, hw, _⟩
    · have := Int.mul_neg_of_pos_of_neg hz hw
      rw [e1, e2, sg, if_pos (by omega)]; rfl
    · rw [e2, Int.mul_zero, Int.mul_zero]; rfl
    · have := Int.mul_pos hz hw
      rw [e1, e2, sg, if_neg (by omega), if_pos (by omega)]; rfl
theorem aR (z : Int) : val (dg (ab z)) = ab z := aU (aV z)
theorem iQ {n : Int} (h : 0 ≤ n) : dg (val (dg n)) = dg n := by rw [aU h]
theorem bB {z : Int} (h : rz z) : (dg (ab z)).length ≤ 60 := (aP 60).2 h
noncomputable def r60 (x : Int) : Int := if rz x then x else 0
noncomputable def e60 (x : Int) : Int := if rz x then 0 else 6
noncomputable abbrev res (x : Int) : AV := .tup [bigZ (r60 x), ii (e60 x)]
theorem bV {x : Int} (h : rz x) : r60 x = x := if_pos h
theorem pO {x : Int} (h : rz x) : e60 x = 0 := if_pos h
theorem m9 (z : Int) (hl : (dg (ab z)).length ≤ 100000) : Means false Tryz.prog 59 [bb true, bigZ z] (res z) := t8 z hl
theorem aX (z : Int) (h : rz z) : Means false Tryz.prog 44 [bigZ z] (bb true) := by
  have := eQ (sg z) (dg (ab z)) (by have := bB h; omega)
  have e : decide (isR (sg z) (dg (ab z))) = true := decide_eq_true (iA h)
  rwa [e] at this
theorem qO {a b : Int} {m n : Nat} (ha : 0 ≤ a) (hb : 0 ≤ b) (h1 : (dg a).length ≤ m) (h2 : (dg b).length ≤ n) : (dg (a * b)).length ≤ m + n := by
  rw [aP] at h1 h2 ⊢
  rw [Int.pow_add]
  by_cases h0 : b = 0
  · subst h0
    rw [Int.mul_zero]
    exact Int.mul_pos (bE m) (bE n)
  · exact Int.mul_lt_mul h1 (by omega) (by omega) (by have := bE m; omega)
set_option maxHeartbeats 4000000 in
set_option maxRecDepth 20000 in
theorem xS (z w : Int) (hz : rz z) (hw : rz w) : Means false Tryz.prog 33 [bigZ z, bigZ w] (res (z * w)) := by
  have hlz := bB hz
  have hlw := bB hw
  have hs := eX z w
  have hb := dN (z * w)
  have hww := w64 (x := sg z * sg w) (by omega) (by omega)
  have hmul := tT (dg (ab z)) (dg (ab w)) (aN _) (aN _) (by omega) (by omega)
  rw [aR, aR] at hmul
  have hll := qO (aV z) (aV w) hlz hlw
  have hp : 0 ≤ ab z * ab w := Int.mul_nonneg (aV z) (aV w)
  have hsgn := bS (sg z * sg w) (dg (ab z * ab w)) (z * w) (by omega) (aN _) (by rw [aU hp, kU]) (fun _ => hs)
  have hch := m9 (z * w) (by rw [kU]; omega)
  refine aK false 32 [.cell 4 24, .tmp 5] Tryz.func33 rfl rfl rfl (by simp) (by decide) rfl fun X hX => ?_
  (repeat (first | refine aC ?_ | refine a7 ?_ | ((first | refine a8 [0, 1, 2, 3, 4, 5, 13] hX ?_ | refine a6 [0, 1, 2, 3, 4, 5, 13] hX mixed ?_ | refine aD ?_ | refine aA ?_ | refine aB ?_); (simp [go_sem]; try (refine ⟨by kernel_rfl, ?_⟩)))))
  first | refine aE (aX z hz) rfl (by simp [go_sem]) rfl ?_ | refine aF (aX z hz) rfl (by simp [go_sem]) rfl ?_
  try (simp [go_sem]; try (refine ⟨by kernel_rfl, ?_⟩))
  first | refine aI (fun hg => aX w hw) rfl (by simp [go_sem]) rfl ?_ | refine aH (fun hg => aX w hw) rfl (by simp [go_sem]) rfl ?_
  try (simp [go_sem]; try (refine ⟨by kernel_rfl, ?_⟩))
  refine aG (b := false) (by simp [go_sem]) (fun h => by cases h) (fun _ => ?_)
  (repeat (first | refine aC ?_ | refine a7 ?_ | ((first | refine a8 [0, 1, 2, 3, 4, 5, 13] hX ?_ | refine a6 [0, 1, 2, 3, 4, 5, 13] hX mixed ?_ | refine aD ?_ | refine aA ?_ | refine aB ?_); (simp [go_sem, hww]; (try simp (disch := omega) only [w64, td, tm]); try (refine ⟨by kernel_rfl, ?_⟩)))))
  first | refine aE (hmul) rfl (by simp [go_sem]) rfl ?_ | refine aF (hmul) rfl (by simp [go_sem]) rfl ?_
  try (simp [go_sem]; try (refine ⟨by kernel_rfl, ?_⟩))
  first | refine aE (hsgn) rfl (by simp [go_sem]) rfl ?_ | refine aF (hsgn) rfl (by simp [go_sem]) rfl ?_
  try (simp [go_sem]; try (refine ⟨by kernel_rfl, ?_⟩))
  first | refine aE (hch) rfl (by simp [go_sem]) rfl ?_ | refine aF (hch) rfl (by simp [go_sem]) rfl ?_
  try (simp [go_sem]; try (refine ⟨by kernel_rfl, ?_⟩))
  (repeat refine And.intro (by first | omega | (unfold maxLen; omega) | kernel_rfl | (refine ⟨by first | omega | (unfold maxLen; omega), by first | omega | (unfold maxLen; omega)⟩) | grind) ?_)
  (repeat (first | refine aC ?_ | refine a7 ?_ | ((first | refine a8 [0, 1, 2, 3, 4, 5, 13] hX ?_ | refine a6 [0, 1, 2, 3, 4, 5, 13] hX mixed ?_ | refine aD ?_ | refine aA ?_ | refine aB ?_); (simp [go_sem]; try (refine ⟨by kernel_rfl, ?_⟩)))))
theorem j0 (z : Int) (hz : rz z) : Means false Tryz.prog 38 [bigZ z] (bigZ (-z)) := by
  have hlz := bB hz
  have hb := dN z
  have hww := w64 (x := - sg z) (by omega) (by omega)
  have hcl := gK (dg (ab z)) (by omega)
  have hsgn := bS (- sg z) (dg (ab z)) (-z) (by omega) (aN _) (by rw [aR, jY]) (fun _ => m8 z)
  refine aK false 14 [.cell 2 24] Tryz.func38 rfl rfl rfl (by simp) (by decide) rfl fun X hX => ?_
  (repeat (first | refine aC ?_ | refine a7 ?_ | ((first | refine a8 [0, 1, 2, 5] hX ?_ | refine a6 [0, 1, 2, 5] hX mixed ?_ | refine aD ?_ | refine aA ?_ | refine aB ?_); (simp [go_sem]; try (refine ⟨by kernel_rfl, ?_⟩)))))
  first | refine aE (aX z hz) rfl (by simp [go_sem]) rfl ?_ | refine aF (aX z hz) rfl (by simp [go_sem]) rfl ?_
  try (simp [go_sem]; try (refine ⟨by kernel_rfl, ?_⟩))
  refine aG (b := false) (by simp [go_sem]) (fun h => by cases h) (fun _ => ?_)
  (repeat (first | refine aC ?_ | refine a7 ?_ | ((first | refine a8 [0, 1, 2, 5] hX ?_ | refine a6 [0, 1, 2, 5] hX mixed ?_ | refine aD ?_ | refine aA ?_ | refine aB ?_); (simp [go_sem, hww]; (try simp (disch := omega) only [w64, td, tm]); try (refine ⟨by kernel_rfl, ?_⟩)))))
  first | refine aE (hcl) rfl (by simp [go_sem]) rfl ?_ | refine aF (hcl) rfl (by simp [go_sem]) rfl ?_
  try (simp [go_sem]; try (refine ⟨by kernel_rfl, ?_⟩))
  first | refine aE (hsgn) rfl (by simp [go_sem]) rfl ?_ | refine aF (hsgn) rfl (by simp [go_sem]) rfl ?_
  try (simp [go_sem]; try (refine ⟨by kernel_rfl, ?_⟩))
  (repeat refine And.intro (by first | omega | (unfold maxLen; omega) | kernel_rfl | (refine ⟨by first | omega | (unfold maxLen; omega), by first | omega | (unfold maxLen; omega)⟩) | grind) ?_)
  (repeat (first | refine aC ?_ | refine a7 ?_ | ((first | refine a8 [0, 1, 2, 5] hX ?_ | refine a6 [0, 1, 2, 5] hX mixed ?_ | refine aD ?_ | refine aA ?_ | refine aB ?_); (simp [go_sem]; try (refine ⟨by kernel_rfl, ?_⟩)))))
theorem lY (z w : Int) (hz : rz z) (hw : rz w) : Means false Tryz.prog 53 [bigZ z, bigZ w] (ii (cmpI z w)) := by
  have hlz := bB hz
  have hlw := bB hw
  have hcm := fJ (dg (ab z)) (dg (ab w)) (by omega) (by omega) (aN _) (aN _) (iQ (aV z)) (iQ (aV w))
  rw [aR, aR] at hcm
  have hcc : -1 ≤ cmpI (ab z) (ab w) ∧ cmpI (ab z) (ab w) ≤ 1 := by unfold cmpI; split <;> (try split) <;> omega
  refine aK false 31 [.tmp 4] Tryz.func53 rfl rfl rfl (by simp) (by decide) rfl fun X hX => ?_
  (repeat (first | refine aC ?_ | refine a7 ?_ | ((first | refine a8 [0, 1, 2, 3, 4, 12, 17] hX ?_ | refine a6 [0, 1, 2, 3, 4, 12, 17] hX mixed ?_ | refine aD ?_ | refine aA ?_ | refine aB ?_); (simp [go_sem]; try (refine ⟨by kernel_rfl, ?_⟩)))))
  first | refine aE (aX z hz) rfl (by simp [go_sem]) rfl ?_ | refine aF (aX z hz) rfl (by simp [go_sem]) rfl ?_
  try (simp [go_sem]; try (refine ⟨by kernel_rfl, ?_⟩))
  first | refine aI (fun hg => aX w hw) rfl (by simp [go_sem]) rfl ?_ | refine aH (fun hg => aX w hw) rfl (by simp [go_sem]) rfl ?_
  try (simp [go_sem]; try (refine ⟨by kernel_rfl, ?_⟩))
  refine aG (b := false) (by simp [go_sem]) (fun h => by cases h) (fun _ => ?_)
  (repeat (first | refine aC ?_ | refine a7 ?_ | ((first | refine a8 [0, 1, 2, 3, 4, 12, 17] hX ?_ | refine a6 [0, 1, 2, 3, 4, 12, 17] hX mixed ?_ | refine aD ?_ | refine aA ?_ | refine aB ?_); (simp [go_sem]; (try simp (disch := omega) only [w64, td, tm]); try (refine ⟨by kernel_rfl, ?_⟩)))))
  refine aG (b := decide (sg z ≠ sg w)) (by simp [go_sem]; try omega) (fun hd => ?_) (fun hd => ?_)
  · simp only [decide_eq_true_eq] at hd
    have e : cmpI (sg z) (sg w) = cmpI z w := by
      refine mQ ?_ ?_ <;> rcases aJ z with h | h | h <;> rcases aJ w with h2 | h2 | h2 <;> omega
    (repeat (first | refine aC ?_ | refine a7 ?_ | ((first | refine a8 [0, 1, 2, 3, 4, 12, 17] hX ?_ | refine a6 [0, 1, 2, 3, 4, 12, 17] hX mixed ?_ | refine aD ?_ | refine aA ?_ | refine aB ?_); (simp [go_sem]; try (refine ⟨by kernel_rfl, ?_⟩)))))
    first | refine aE (lW (sg z) (sg w)) rfl (by simp [go_sem]) rfl ?_ | refine aF (lW (sg z) (sg w)) rfl (by simp [go_sem]) rfl ?_
    try (simp [go_sem]; try (refine ⟨by kernel_rfl, ?_⟩))
    (repeat (first | refine aC ?_ | refine a7 ?_ | ((first | refine a8 [0, 1, 2, 3, 4, 12, 17] hX ?_ | refine a6 [0, 1, 2, 3, 4, 12, 17] hX mixed ?_ | refine aD ?_ | refine aA ?_ | refine aB ?_); (simp [go_sem, e]; try (refine ⟨by kernel_rfl, ?_⟩)))))
  · simp at hd
    have e : sg w * cmpI (ab z) (ab w) = cmpI z w := by
      rcases aJ w with ⟨h1, h2, h3⟩ | ⟨h1, h2, h3⟩ | ⟨h1, h2, h3⟩ <;> rcases aJ z with ⟨h4, h5, h6⟩ | ⟨h4, h5, h6⟩ | ⟨h4, h5, h6⟩ <;> first | omega | (rw [h1, h3, h6]; unfold cmpI; split <;> (try split) <;> (try split) <;> omega) | skip
    have hew := w64 (x := cmpI z w) (by unfold cmpI; split <;> (try split) <;> omega) (by unfold cmpI; split <;> (try split) <;> omega)
    (repeat (first | refine aC ?_ | refine a7 ?_ | ((first | refine a8 [0, 1, 2, 3, 4, 12, 17] hX ?_ | refine a6 [0, 1, 2, 3, 4, 12, 17] hX mixed ?_ | refine aD ?_ | refine aA ?_ | refine aB ?_); (simp [go_sem, hd]; (try simp (disch := omega) only [w64, td, tm]); try (refine ⟨by kernel_rfl, ?_⟩)))))
    first | refine aE (hcm) rfl (by simp [go_sem]) rfl ?_ | refine aF (hcm) rfl (by simp [go_sem]) rfl ?_
    try (simp [go_sem, hd, hew, e]; try (refine ⟨by kernel_rfl, ?_⟩))
    (repeat refine And.intro (by first | omega | (unfold maxLen; omega) | kernel_rfl | (refine ⟨by first | omega | (unfold maxLen; omega), by first | omega | (unfold maxLen; omega)⟩) | grind) ?_)
    (repeat (first | refine aC ?_ | refine a7 ?_ | ((first | refine a8 [0, 1, 2, 3, 4, 12, 17] hX ?_ | refine a6 [0, 1, 2, 3, 4, 12, 17] hX mixed ?_ | refine aD ?_ | refine aA ?_ | refine aB ?_); (simp [go_sem]; try (refine ⟨by kernel_rfl, ?_⟩)))))
theorem A8 (a b : Int) : Means false Tryz.prog 87 [.sl [ii a, ii b]] (ii (if a = 0 then b else a)) := by
  refine aK false 18 [.tmp 2] Tryz.func87 rfl rfl rfl (by simp) (by decide) rfl fun X hX => ?_
  (repeat (first | refine aC ?_ | refine a7 ?_ | ((first | refine a8 [0, 2, 3, 5, 6, 7, 8, 9, 14] hX ?_ | refine a6 [0, 2, 3, 5, 6, 7, 8, 9, 14] hX mixed ?_ | refine aD ?_ | refine aA ?_ | refine aB ?_); (simp [go_sem]; try (refine ⟨by kernel_rfl, ?_⟩)))))
  refine aQ (fun n : Nat => ⟨mkE [(3, ii 0), (6, .sl [ii a, ii b]), (7, ii 2), (8, ii n)], []⟩) (fun n => n ≤ 2 ∧ (1 ≤ n → a = 0) ∧ (2 ≤ n → b = 0)) (fun n => 2 - n) 0 ?_ ?_ ?_
  · refine aL _ [] (by simp [go_sem]) ?_
    simp [go_sem]
  · simp
  · rintro n ⟨hn, ha, hb⟩
    match n, hn with
    | 0, _ =>
      (repeat (first | refine aC ?_ | refine a7 ?_ | ((first | refine a8 [0, 2, 3, 5, 6, 7, 8, 9, 14] hX ?_ | refine a6 [0, 2, 3, 5, 6, 7, 8, 9, 14] hX mixed ?_ | refine aD ?_ | refine aA ?_ | refine aB ?_); (simp [go_sem]; try (refine ⟨by kernel_rfl, ?_⟩)))))
      refine aG (b := true) (by simp [go_sem]) (fun _ => ?_) (fun h => by cases h)
      (repeat (first | refine aC ?_ | refine a7 ?_ | ((first | refine a8 [0, 2, 3, 5, 6, 7, 8, 9, 14] hX ?_ | refine a6 [0, 2, 3, 5, 6, 7, 8, 9, 14] hX mixed ?_ | refine aD ?_ | refine aA ?_ | refine aB ?_); (simp [go_sem]; (try simp (disch := omega) only [w64, td, tm]); try (refine ⟨by kernel_rfl, ?_⟩)))))
      refine aG (b := decide (a ≠ 0)) (by simp [go_sem]) (fun h => ?_) (fun h => ?_)
      · simp at h
        (repeat (first | refine aC ?_ | refine a7 ?_ | ((first | refine a8 [0, 2, 3, 5, 6, 7, 8, 9, 14] hX ?_ | refine a6 [0, 2, 3, 5, 6, 7, 8, 9, 14] hX mixed ?_ | refine aD ?_ | refine aA ?_ | refine aB ?_); (simp [go_sem, h]; try (refine ⟨by kernel_rfl, ?_⟩)))))
      · simp at h
        (repeat (first | refine aC ?_ | refine a7 ?_ | ((first | refine a8 [0, 2, 3, 5, 6, 7, 8, 9, 14] hX ?_ | refine a6 [0, 2, 3, 5, 6, 7, 8, 9, 14] hX mixed ?_ | refine aD ?_ | refine aA ?_ | refine aB ?_); (simp [go_sem]; (try simp (disch := omega) only [w64, td, tm]); try (refine ⟨by kernel_rfl, ?_⟩)))))
        refine ⟨1, ⟨by omega, fun _ => h, fun h => by omega⟩, by omega, ?_⟩
        refine aL _ [] (by simp [go_sem]) ?_
        simp [go_sem]
    | 1, _ =>
      have ha0 := ha (by omega)
      (repeat (first | refine aC ?_ | refine a7 ?_ | ((first | refine a8 [0, 2, 3, 5, 6, 7, 8, 9, 14] hX ?_ | refine a6 [0, 2, 3, 5, 6, 7, 8, 9, 14] hX mixed ?_ | refine aD ?_ | refine aA ?_ | refine aB ?_); (simp [go_sem]; try (refine ⟨by kernel_rfl, ?_⟩)))))
      refine aG (b := true) (by simp [go_sem]) (fun _ => ?_) (fun h => by cases h)
      (repeat (first | refine aC ?_ | refine a7 ?_ | ((first | refine a8 [0, 2, 3, 5, 6, 7, 8, 9, 14] hX ?_ | refine a6 [0, 2, 3, 5, 6, 7, 8, 9, 14] hX mixed ?_ | refine aD ?_ | refine aA ?_ | refine aB ?_); (simp [go_sem]; (try simp (disch := omega) only [w64, td, tm]); try (refine ⟨by kernel_rfl, ?_⟩)))))
      refine aG (b := decide (b ≠ 0)) (by simp [go_sem]) (fun h => ?_) (fun h => ?_)
      · simp at h
        (repeat (first | refine aC ?_ | refine a7 ?_ | ((first | refine a8 [0, 2, 3, 5, 6, 7, 8, 9, 14] hX ?_ | refine a6 [0, 2, 3, 5, 6, 7, 8, 9, 14] hX mixed ?_ | refine aD ?_ | refine aA ?_ | refine aB ?_); (simp [go_sem, ha0]; try (refine ⟨by kernel_rfl, ?_⟩)))))
      · simp at h
        (repeat (first | refine aC ?_ | refine a7 ?_ | ((first | refine a8 [0, 2, 3, 5, 6, 7, 8, 9, 14] hX ?_ | refine a6 [0, 2, 3, 5, 6, 7, 8, 9, 14] hX mixed ?_ | refine aD ?_ | refine aA ?_ | refine aB ?_); (simp [go_sem]; (try simp (disch := omega) only [w64, td, tm]); try (refine ⟨by kernel_rfl, ?_⟩)))))
        refine ⟨2, ⟨by omega, fun _ => ha0, fun _ => h⟩, by omega, ?_⟩
        refine aL _ [] (by simp [go_sem]) ?_
        simp [go_sem]
    | 2, _ =>
      have ha0 := ha (by omega)
      have hb0 := hb (by omega)
      (repeat (first | refine aC ?_ | refine a7 ?_ | ((first | refine a8 [0, 2, 3, 5, 6, 7, 8, 9, 14] hX ?_ | refine a6 [0, 2, 3, 5, 6, 7, 8, 9, 14] hX mixed ?_ | refine aD ?_ | refine aA ?_ | refine aB ?_); (simp [go_sem]; try (refine ⟨by kernel_rfl, ?_⟩)))))
      refine aG (b := false) (by simp [go_sem]) (fun h => by cases h) (fun _ => ?_)
      (repeat (first | refine aC ?_ | refine a7 ?_ | ((first | refine a8 [0, 2, 3, 5, 6, 7, 8, 9, 14] hX ?_ | refine a6 [0, 2, 3, 5, 6, 7, 8, 9, 14] hX mixed ?_ | refine aD ?_ | refine aA ?_ | refine aB ?_); (simp [go_sem, ha0, hb0]; try (refine ⟨by kernel_rfl, ?_⟩)))))
set_option maxHeartbeats 4000000 in
set_option maxRecDepth 20000 in
theorem xT (z w : Int) (hz : rz z) (hw : rz w) : Means false Tryz.prog 58 [bigZ z, bigZ w] (res (z + w)) := by
  have hlz := bB hz
  have hlw := bB hw
  have hsz := dN z
  have hsw := dN w
  have hza := aV z
  have hwa := aV w
  have hmm : -1 ≤ sg z * sg w ∧ sg z * sg w ≤ 1 := by rw [← eX]; exact dN _
  have hww := w64 (x := sg z * sg w) (by omega) (by omega)
  have hsum : ab (z + w) ≤ ab z + ab w := by rcases aJ z with h | h | h <;> rcases aJ w with h2 | h2 | h2 <;> rcases aJ (z + w) with h3 | h3 | h3 <;> omega
  have hl61 : (dg (ab z + ab w)).length ≤ 61 := by
    rw [aP]
    unfold rz at hz hw
    have : (1048576 : Int) ^ 61 = 1048576 ^ 60 * 1048576 := Int.pow_succ _ _
    omega
  have hl61' : (dg (ab (z + w))).length ≤ 61 := Nat.le_trans (aW hsum) hl61
  have hch := m9 (z + w) (by omega)
  have hcm := fJ (dg (ab z)) (dg (ab w)) (by omega) (by omega) (aN _) (aN _) (iQ hza) (iQ hwa)
  rw [aR, aR] at hcm
  refine aK false 69 [.cell 4 24, .tmp 5] Tryz.func58 rfl rfl rfl (by simp) (by decide) rfl fun X hX => ?_
  (repeat (first | refine aC ?_ | refine a7 ?_ | ((first | refine a8 [0, 1, 2, 3, 4, 5, 13, 18, 40] hX ?_ | refine a6 [0, 1, 2, 3, 4, 5, 13, 18, 40] hX mixed ?_ | refine aD ?_ | refine aA ?_ | refine aB ?_); (simp [go_sem]; try (refine ⟨by kernel_rfl, ?_⟩)))))
  first | refine aE (aX z hz) rfl (by simp [go_sem]) rfl ?_ | refine aF (aX z hz) rfl (by simp [go_sem]) rfl ?_
  try (simp [go_sem]; try (refine ⟨by kernel_rfl, ?_⟩))
  first | refine aI (fun hg => aX w hw) rfl (by simp [go_sem]) rfl ?_ | refine aH (fun hg => aX w hw) rfl (by simp [go_sem]) rfl ?_
  try (simp [go_sem]; try (refine ⟨by kernel_rfl, ?_⟩))
  refine aG (b := false) (by simp [go_sem]) (fun h => by cases h) (fun _ => ?_)
  (repeat (first | refine aC ?_ | refine a7 ?_ | ((first | refine a8 [0, 1, 2, 3, 4, 5, 13, 18, 40] hX ?_ | refine a6 [0, 1, 2, 3, 4, 5, 13, 18, 40] hX mixed ?_ | refine aD ?_ | refine aA ?_ | refine aB ?_); (simp [go_sem, hww]; (try simp (disch := omega) only [w64, td, tm]); try (refine ⟨by kernel_rfl, ?_⟩)))))
  refine aG (b := decide (0 ≤ sg z * sg w)) (by simp [go_sem]) (fun hd => ?_) (fun hd => ?_)
  · simp at hd
    have hab : ab (z + w) = ab z + ab w := by
      rcases aJ z with ⟨h, h1, h2⟩ | ⟨h, h1, h2⟩ | ⟨h, h1, h2⟩ <;> rcases aJ w with ⟨h3, h4, h5⟩ | ⟨h3, h4, h5⟩ | ⟨h3, h4, h5⟩ <;> rw [h, h3] at hd <;> rcases aJ (z + w) with h6 | h6 | h6 <;> omega
    have hsg : ab z + ab w ≠ 0 → sg (z + w) = (if sg z = 0 then sg w else sg z) := by
      intro _
      rcases aJ z with ⟨h, h1, h2⟩ | ⟨h, h1, h2⟩ | ⟨h, h1, h2⟩ <;> rcases aJ w with ⟨h3, h4, h5⟩ | ⟨h3, h4, h5⟩ | ⟨h3, h4, h5⟩ <;> rw [h, h3] at hd ⊢ <;> rcases aJ (z + w) with h6 | h6 | h6 <;> simp <;> omega
    have hadd := tO (dg (ab z)) (dg (ab w)) (aN _) (aN _) (by omega) (by omega)
    rw [aR, aR] at hadd
    have hvv : val (dg (ab z + ab w)) = ab z + ab w := aU (by omega)
    have hsgn := bS (if sg z = 0 then sg w else sg z) (dg (ab z + ab w)) (z + w) (by omega) (aN _) (by rw [hvv, hab]) (by rw [hvv]; exact hsg)
    (repeat (first | refine aC ?_ | refine a7 ?_ | ((first | refine a8 [0, 1, 2, 3, 4, 5, 13, 18, 40] hX ?_ | refine a6 [0, 1, 2, 3, 4, 5, 13, 18, 40] hX mixed ?_ | refine aD ?_ | refine aA ?_ | refine aB ?_); (simp [go_sem]; (try simp (disch := omega) only [w64, td, tm]); try (refine ⟨by kernel_rfl, ?_⟩)))))
    first | refine aE (A8 (sg z) (sg w)) rfl (by simp [go_sem]) rfl ?_ | refine aF (A8 (sg z) (sg w)) rfl (by simp [go_sem]) rfl ?_
    try (simp [go_sem]; try (refine ⟨by kernel_rfl, ?_⟩))
    first | refine aE (hadd) rfl (by simp [go_sem]) rfl ?_ | refine aF (hadd) rfl (by simp [go_sem]) rfl ?_
    try (simp [go_sem]; try (refine ⟨by kernel_rfl, ?_⟩))
    first | refine aE (hsgn) rfl (by simp [go_sem]) rfl ?_ | refine aF (hsgn) rfl (by simp [go_sem]) rfl ?_
    try (simp [go_sem]; try (refine ⟨by kernel_rfl, ?_⟩))
    first | refine aE (hch) rfl (by simp [go_sem]) rfl ?_ | refine aF (hch) rfl (by simp [go_sem]) rfl ?_
    try (simp [go_sem]; try (refine ⟨by kernel_rfl, ?_⟩))
    (repeat refine And.intro (by first | omega | (unfold maxLen; omega) | kernel_rfl | (refine ⟨by first | omega | (unfold maxLen; omega), by first | omega | (unfold maxLen; omega)⟩) | grind) ?_)
    (repeat (first | refine aC ?_ | refine a7 ?_ | ((first | refine a8 [0, 1, 2, 3, 4, 5, 13, 18, 40] hX ?_ | refine a6 [0, 1, 2, 3, 4, 5, 13, 18, 40] hX mixed ?_ | refine aD ?_ | refine aA ?_ | refine aB ?_); (simp [go_sem]; try (refine ⟨by kernel_rfl, ?_⟩)))))
  · simp at hd
    have hcl : cmpI (ab z) (ab w) < 0 ↔ ab z < ab w := mA
    (repeat (first | refine aC ?_ | refine a7 ?_ | ((first | refine a8 [0, 1, 2, 3, 4, 5, 13, 18, 40] hX ?_ | refine a6 [0, 1, 2, 3, 4, 5, 13, 18, 40] hX mixed ?_ | refine aD ?_ | refine aA ?_ | refine aB ?_); (simp [go_sem]; (try simp (disch := omega) only [w64, td, tm]); try (refine ⟨by kernel_rfl, ?_⟩)))))
    first | refine aE (hcm) rfl (by simp [go_sem]) rfl ?_ | refine aF (hcm) rfl (by simp [go_sem]) rfl ?_
    try (simp [go_sem]; try (refine ⟨by kernel_rfl, ?_⟩))
    (repeat (first | refine aC ?_ | refine a7 ?_ | ((first | refine a8 [0, 1, 2, 3, 4, 5, 13, 18, 40] hX ?_ | refine a6 [0, 1, 2, 3, 4, 5, 13, 18, 40] hX mixed ?_ | refine aD ?_ | refine aA ?_ | refine aB ?_); (simp [go_sem]; (try simp (disch := omega) only [w64, td, tm]); try (refine ⟨by kernel_rfl, ?_⟩)))))
    refine aG (b := decide (ab z < ab w)) (by simp [go_sem, mA]) (fun hd2 => ?_) (fun hd2 => ?_)
    · simp at hd2
      have hsub := tP (dg (ab w)) (dg (ab z)) (aN _) (aN _) (by omega) (by omega) (by rw [aR, aR]; omega)
      rw [aR, aR] at hsub
      have hvv : val (dg (ab w - ab z)) = ab w - ab z := aU (by omega)
      have hfin : ab (z + w) = ab w - ab z ∧ sg (z + w) = sg w := by
        rcases aJ z with ⟨h, h1, h2⟩ | ⟨h, h1, h2⟩ | ⟨h, h1, h2⟩ <;> rcases aJ w with ⟨h3, h4, h5⟩ | ⟨h3, h4, h5⟩ | ⟨h3, h4, h5⟩ <;> rw [h, h3] at hd <;> rcases aJ (z + w) with h6 | h6 | h6 <;> omega
      have hsgn := bS (sg w) (dg (ab w - ab z)) (z + w) (by have := aW (show ab w - ab z ≤ ab z + ab w by omega); omega) (aN _) (by rw [hvv, hfin.1]) (fun _ => hfin.2)
      (repeat (first | refine aC ?_ | refine a7 ?_ | ((first | refine a8 [0, 1, 2, 3, 4, 5, 13, 18, 40] hX ?_ | refine a6 [0, 1, 2, 3, 4, 5, 13, 18, 40] hX mixed ?_ | refine aD ?_ | refine aA ?_ | refine aB ?_); (simp [go_sem]; (try simp (disch := omega) only [w64, td, tm]); try (refine ⟨by kernel_rfl, ?_⟩)))))
      first | refine aE (hsub) rfl (by simp [go_sem]) rfl ?_ | refine aF (hsub) rfl (by simp [go_sem]) rfl ?_
      try (simp [go_sem]; try (refine ⟨by kernel_rfl, ?_⟩))
      first | refine aE (hsgn) rfl (by simp [go_sem]) rfl ?_ | refine aF (hsgn) rfl (by simp [go_sem]) rfl ?_
      try (simp [go_sem]; try (refine ⟨by kernel_rfl, ?_⟩))
      first | refine aE (hch) rfl (by simp [go_sem]) rfl ?_ | refine aF (hch) rfl (by simp [go_sem]) rfl ?_
      try (simp [go_sem]; try (refine ⟨by kernel_rfl, ?_⟩))
      (repeat refine And.intro (by first | omega | (unfold maxLen; omega) | kernel_rfl | (refine ⟨by first | omega | (unfold maxLen; omega), by first | omega | (unfold maxLen; omega)⟩) | grind) ?_)
      (repeat (first | refine aC ?_ | refine a7 ?_ | ((first | refine a8 [0, 1, 2, 3, 4, 5, 13, 18, 40] hX ?_ | refine a6 [0, 1, 2, 3, 4, 5, 13, 18, 40] hX mixed ?_ | refine aD ?_ | refine aA ?_ | refine aB ?_); (simp [go_sem]; try (refine ⟨by kernel_rfl, ?_⟩)))))
    · simp at hd2
      have hsub := tP (dg (ab z)) (dg (ab w)) (aN _) (aN _) (by omega) (by omega) (by rw [aR, aR]; omega)
      rw [aR, aR] at hsub
      have hvv : val (dg (ab z - ab w)) = ab z - ab w := aU (by omega)
      have hfin : ab (z + w) = ab z - ab w ∧ (ab z - ab w ≠ 0 → sg (z + w) = sg z) := by
        rcases aJ z with ⟨h, h1, h2⟩ | ⟨h, h1, h2⟩ | ⟨h, h1, h2⟩ <;> rcases aJ w with ⟨h3, h4, h5⟩ | ⟨h3, h4, h5⟩ | ⟨h3, h4, h5⟩ <;> rw [h, h3] at hd <;> rcases aJ (z + w) with h6 | h6 | h6 <;> omega
      have hsgn := bS (sg z) (dg (ab z - ab w)) (z + w) (by have := aW (show ab z - ab w ≤ ab z + ab w by omega); omega) (aN _) (by rw [hvv, hfin.1]) (by rw [hvv]; exact hfin.2)
      (repeat (first | refine aC ?_ | refine a7 ?_ | ((first | refine a8 [0, 1, 2, 3, 4, 5, 13, 18, 40] hX ?_ | refine a6 [0, 1, 2, 3, 4, 5, 13, 18, 40] hX mixed ?_ | refine aD ?_ | refine aA ?_ | refine aB ?_); (simp [go_sem]; (try simp (disch := omega) only [w64, td, tm]); try (refine ⟨by kernel_rfl, ?_⟩)))))
      first | refine aE (hsub) rfl (by simp [go_sem]) rfl ?_ | refine aF (hsub) rfl (by simp [go_sem]) rfl ?_
      try (simp [go_sem]; try (refine ⟨by kernel_rfl, ?_⟩))
      first | refine aE (hsgn) rfl (by simp [go_sem]) rfl ?_ | refine aF (hsgn) rfl (by simp [go_sem]) rfl ?_
      try (simp [go_sem]; try (refine ⟨by kernel_rfl, ?_⟩))
      first | refine aE (hch) rfl (by simp [go_sem]) rfl ?_ | refine aF (hch) rfl (by simp [go_sem]) rfl ?_
      try (simp [go_sem]; try (refine ⟨by kernel_rfl, ?_⟩))
      (repeat refine And.intro (by first | omega | (unfold maxLen; omega) | kernel_rfl | (refine ⟨by first | omega | (unfold maxLen; omega), by first | omega | (unfold maxLen; omega)⟩) | grind) ?_)
      (repeat (first | refine aC ?_ | refine a7 ?_ | ((first | refine a8 [0, 1, 2, 3, 4, 5, 13, 18, 40] hX ?_ | refine a6 [0, 1, 2, 3, 4, 5, 13, 18, 40] hX mixed ?_ | refine aD ?_ | refine aA ?_ | refine aB ?_); (simp [go_sem]; try (refine ⟨by kernel_rfl, ?_⟩)))))
theorem fG {z : Int} (h : rz z) : rz (-z) := by unfold rz at *; rwa [jY]
end Go.Proofs.YtebinaffldlihaaGreatDoor
