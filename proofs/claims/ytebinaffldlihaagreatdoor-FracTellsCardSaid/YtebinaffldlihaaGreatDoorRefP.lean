import Derived.Test.YtebinaffldlihaaGreatDoorRefF
set_option linter.all false
namespace Go.Proofs.YtebinaffldlihaaGreatDoor
open Go.RowKit Go.Ab
attribute [local irreducible] AWP Go.Ab.Sub Means MeansH CallK CallG CallT CallGT CallU
theorem rR (x : Int) (hl : (dg (ab x)).length ≤ 100000) : Means false Tryz.prog 61 [bigZ x] (res x) := by
  by_cases h : (dg (ab x)).length ≤ 60
  · have hr : rz x := (aP 60).1 h
    rw [res, bV hr, pO hr]
    exact wG _ _ h
  · have hr : ¬ rz x := fun q => h ((aP 60).2 q)
    have e : res x = .tup [big2 0 [], ii 6] := by rw [res, r60, e60, if_neg hr, if_neg hr]; rfl
    rw [e]
    exact wH _ _ h hl
theorem cU (s x : Int) (L : List Int) (hl : L.length ≤ 100000) (ho : okD L) (h1 : val L = ab x) (h2 : x ≠ 0 → s = sg x) : Means false Tryz.prog 62 [ii s, il L] (bigZ x) := by
  have hm := jA s L hl ho
  have e : big2 (if val L = 0 then 0 else s) (dg (val L)) = bigZ x := by
    show _ = big2 (sg x) (dg (ab x))
    rw [h1]
    by_cases q : x = 0
    · subst q; rfl
    · have : ab x ≠ 0 := by unfold ab; split <;> omega
      rw [if_neg this, h2 q]
  rwa [e] at hm
theorem iJ (z : Int) (hz : rz z) : Means false Tryz.prog 48 [bigZ z] (bigZ (-z)) := by
  have hlz := bB hz
  have hb := dN z
  have hww := w64 (x := - sg z) (by omega) (by omega)
  have cm := cU (- sg z) (-z) (dg (ab z)) (by omega) (aN _) (by rw [aR, jY]) (fun _ => (m8 z).symm)
  refine aK false 13 [.cell 2 24] Tryz.func48 rfl rfl rfl (by simp) (by decide) rfl fun X hX => ?_
  (repeat (first | refine aC ?_ | refine a7 ?_ | ((first | refine a8 [0, 1, 2, 5] hX ?_ | refine a6 [0, 1, 2, 5] hX mixed ?_ | refine aD ?_ | refine aA ?_ | refine aB ?_); (simp [go_sem]; try (refine ⟨by kernel_rfl, ?_⟩)))))
  first | refine aE (aO z hz) rfl (by simp [go_sem]) rfl ?_ | refine aF (aO z hz) rfl (by simp [go_sem]) rfl ?_
  try (simp [go_sem]; try (refine ⟨by kernel_rfl, ?_⟩))
  refine aG (b := false) (by simp [go_sem]) (fun h => by cases h) (fun _ => ?_)
  (repeat (first | refine aC ?_ | refine a7 ?_ | ((first | refine a8 [0, 1, 2, 5] hX ?_ | refine a6 [0, 1, 2, 5] hX mixed ?_ | refine aD ?_ | refine aA ?_ | refine aB ?_); (simp [go_sem, hww]; try (refine ⟨by kernel_rfl, ?_⟩)))))
  first | refine aE (cm) rfl (by simp [go_sem]) rfl ?_ | refine aF (cm) rfl (by simp [go_sem]) rfl ?_
  try (simp [go_sem]; try (refine ⟨by kernel_rfl, ?_⟩))
  (repeat (first | refine aC ?_ | refine a7 ?_ | ((first | refine a8 [0, 1, 2, 5] hX ?_ | refine a6 [0, 1, 2, 5] hX mixed ?_ | refine aD ?_ | refine aA ?_ | refine aB ?_); (simp [go_sem]; try (refine ⟨by kernel_rfl, ?_⟩)))))
theorem A2 (z w : Int) (h : sg z = 0 ∨ sg w = 0 ∨ sg z = sg w) : orI .i64 (sg z) (sg w) = (if sg z = 0 then sg w else sg z) := by
  rcases aJ z with ⟨a, _⟩ | ⟨a, _⟩ | ⟨a, _⟩ <;> rcases aJ w with ⟨b, _⟩ | ⟨b, _⟩ | ⟨b, _⟩ <;> rw [a, b] at h ⊢ <;> first | (exact absurd h (by decide)) | rfl | decide
set_option maxHeartbeats 4000000 in
set_option maxRecDepth 20000 in
theorem vI (z w : Int) (hz : rz z) (hw : rz w) : Means false Tryz.prog 36 [bigZ z, bigZ w] (res (z + w)) := by
  have hlz := bB hz
  have hlw := bB hw
  have hza := aV z
  have hwa := aV w
  have hsum : ab (z + w) ≤ ab z + ab w := by rcases aJ z with h | h | h <;> rcases aJ w with h2 | h2 | h2 <;> rcases aJ (z + w) with h3 | h3 | h3 <;> omega
  have hl61 : (dg (ab z + ab w)).length ≤ 61 := by
    rw [aP]
    unfold rz at hz hw
    have : (1048576 : Int) ^ 61 = 1048576 ^ 60 * 1048576 := Int.pow_succ _ _
    omega
  have hlr : (dg (ab (z + w))).length ≤ 61 := Nat.le_trans (aW hsum) hl61
  have ck := rR (z + w) (by omega)
  by_cases hc : sg z = 0 ∨ sg w = 0 ∨ sg z = sg w
  · have cp := mO (dg (ab z)) (dg (ab w)) (by omega) (by omega) (aN _) (aN _)
    rw [aR, aR] at cp
    have hab : ab z + ab w = ab (z + w) := by rcases aJ z with h | h | h <;> rcases aJ w with h2 | h2 | h2 <;> rcases aJ (z + w) with h3 | h3 | h3 <;> omega
    rw [hab] at cp
    have hor := A2 z w hc
    have cm := cU (if sg z = 0 then sg w else sg z) (z + w) (dg (ab (z + w))) (by omega) (aN _) (by rw [aR]) (fun h => by
      rcases aJ z with h1 | h1 | h1 <;> rcases aJ w with h2 | h2 | h2 <;> rcases aJ (z + w) with h3 | h3 | h3 <;> rw [h1.1, h2.1, h3.1] <;> first | omega | (simp; done) | (exfalso; omega))
    have hcb : (decide (sg z = 0) || (decide (sg w = 0) || decide (sg z = sg w))) = true := by simpa using hc
    refine aK false 71 [.cell 4 24, .tmp 5] Tryz.func36 rfl rfl rfl (by simp) (by decide) rfl fun X hX => ?_
    (repeat (first | refine aC ?_ | refine a7 ?_ | ((first | refine a8 [0, 1, 2, 3, 4, 5, 13, 29, 48] hX ?_ | refine a6 [0, 1, 2, 3, 4, 5, 13, 29, 48] hX mixed ?_ | refine aD ?_ | refine aA ?_ | refine aB ?_); (simp [go_sem]; try (refine ⟨by kernel_rfl, ?_⟩)))))
    first | refine aE (aO z hz) rfl (by simp [go_sem]) rfl ?_ | refine aF (aO z hz) rfl (by simp [go_sem]) rfl ?_
    try (simp [go_sem]; try (refine ⟨by kernel_rfl, ?_⟩))
    first | refine aI (fun hg => aO w hw) rfl (by simp [go_sem]) rfl ?_ | refine aH (fun hg => aO w hw) rfl (by simp [go_sem]) rfl ?_
    try (simp [go_sem]; try (refine ⟨by kernel_rfl, ?_⟩))
    refine aG (b := false) (by simp [go_sem]) (fun h => by cases h) (fun _ => ?_)
    (repeat (first | refine aC ?_ | refine a7 ?_ | ((first | refine a8 [0, 1, 2, 3, 4, 5, 13, 29, 48] hX ?_ | refine a6 [0, 1, 2, 3, 4, 5, 13, 29, 48] hX mixed ?_ | refine aD ?_ | refine aA ?_ | refine aB ?_); (simp [go_sem]; try (refine ⟨by kernel_rfl, ?_⟩)))))
    refine aG (b := true) (by simp [go_sem, Bool.or_assoc]; simpa using hc) (fun _ => ?_) (fun h => by cases h)
    (repeat (first | refine aC ?_ | refine a7 ?_ | ((first | refine a8 [0, 1, 2, 3, 4, 5, 13, 29, 48] hX ?_ | refine a6 [0, 1, 2, 3, 4, 5, 13, 29, 48] hX mixed ?_ | refine aD ?_ | refine aA ?_ | refine aB ?_); (simp [go_sem, hor]; try (refine ⟨by kernel_rfl, ?_⟩)))))
    first | refine aE (cp) rfl (by simp [go_sem]) rfl ?_ | refine aF (cp) rfl (by simp [go_sem]) rfl ?_
    try (simp [go_sem, hor]; try (refine ⟨by kernel_rfl, ?_⟩))
    first | refine aE (cm) rfl (by simp [go_sem]) rfl ?_ | refine aF (cm) rfl (by simp [go_sem]) rfl ?_
    try (simp [go_sem]; try (refine ⟨by kernel_rfl, ?_⟩))
    first | refine aE (ck) rfl (by simp [go_sem]) rfl ?_ | refine aF (ck) rfl (by simp [go_sem]) rfl ?_
    try (simp [go_sem]; try (refine ⟨by kernel_rfl, ?_⟩))
    (repeat (first | refine aC ?_ | refine a7 ?_ | ((first | refine a8 [0, 1, 2, 3, 4, 5, 13, 29, 48] hX ?_ | refine a6 [0, 1, 2, 3, 4, 5, 13, 29, 48] hX mixed ?_ | refine aD ?_ | refine aA ?_ | refine aB ?_); (simp [go_sem]; try (refine ⟨by kernel_rfl, ?_⟩)))))
  · have hc0 : ¬ sg z = 0 := fun h => hc (.inl h)
    have hc1 : ¬ sg w = 0 := fun h => hc (.inr (.inl h))
    have hc2 : ¬ sg z = sg w := fun h => hc (.inr (.inr h))
    have cl := mP (dg (ab z)) (dg (ab w)) (by omega) (by omega) (aN _) (aN _)
    rw [aR, aR] at cl
    by_cases hlt : ab z < ab w
    · have cn := gT (dg (ab w)) (dg (ab z)) (by omega) (by omega) (aN _) (aN _) (by rw [aR, aR]; omega)
      rw [aR, aR] at cn
      have hab : ab w - ab z = ab (z + w) := by rcases aJ z with h | h | h <;> rcases aJ w with h2 | h2 | h2 <;> rcases aJ (z + w) with h3 | h3 | h3 <;> omega
      rw [hab] at cn
      have cm := cU (sg w) (z + w) (dg (ab (z + w))) (by omega) (aN _) (by rw [aR]) (fun h => by rcases aJ z with h1 | h1 | h1 <;> rcases aJ w with h2 | h2 | h2 <;> rcases aJ (z + w) with h3 | h3 | h3 <;> omega)
      rw [decide_eq_true hlt] at cl
      refine aK false 71 [.cell 4 24, .tmp 5] Tryz.func36 rfl rfl rfl (by simp) (by decide) rfl fun X hX => ?_
      (repeat (first | refine aC ?_ | refine a7 ?_ | ((first | refine a8 [0, 1, 2, 3, 4, 5, 13, 29, 48] hX ?_ | refine a6 [0, 1, 2, 3, 4, 5, 13, 29, 48] hX mixed ?_ | refine aD ?_ | refine aA ?_ | refine aB ?_); (simp [go_sem]; try (refine ⟨by kernel_rfl, ?_⟩)))))
      first | refine aE (aO z hz) rfl (by simp [go_sem]) rfl ?_ | refine aF (aO z hz) rfl (by simp [go_sem]) rfl ?_
      try (simp [go_sem]; try (refine ⟨by kernel_rfl, ?_⟩))
      first | refine aI (fun hg => aO w hw) rfl (by simp [go_sem]) rfl ?_ | refine aH (fun hg => aO w hw) rfl (by simp [go_sem]) rfl ?_
      try (simp [go_sem]; try (refine ⟨by kernel_rfl, ?_⟩))
      refine aG (b := false) (by simp [go_sem]) (fun h => by cases h) (fun _ => ?_)
      (repeat (first | refine aC ?_ | refine a7 ?_ | ((first | refine a8 [0, 1, 2, 3, 4, 5, 13, 29, 48] hX ?_ | refine a6 [0, 1, 2, 3, 4, 5, 13, 29, 48] hX mixed ?_ | refine aD ?_ | refine aA ?_ | refine aB ?_); (simp [go_sem]; try (refine ⟨by kernel_rfl, ?_⟩)))))
      refine aG (b := false) (by simp [go_sem, hc0, hc1, hc2]) (fun h => by cases h) (fun _ => ?_)
      (repeat (first | refine aC ?_ | refine a7 ?_ | ((first | refine a8 [0, 1, 2, 3, 4, 5, 13, 29, 48] hX ?_ | refine a6 [0, 1, 2, 3, 4, 5, 13, 29, 48] hX mixed ?_ | refine aD ?_ | refine aA ?_ | refine aB ?_); (simp [go_sem]; try (refine ⟨by kernel_rfl, ?_⟩)))))
      first | refine aE (cl) rfl (by simp [go_sem]) rfl ?_ | refine aF (cl) rfl (by simp [go_sem]) rfl ?_
      try (simp [go_sem]; try (refine ⟨by kernel_rfl, ?_⟩))
      refine aG (b := true) (by simp [go_sem]) (fun _ => ?_) (fun h => by cases h)
      (repeat (first | refine aC ?_ | refine a7 ?_ | ((first | refine a8 [0, 1, 2, 3, 4, 5, 13, 29, 48] hX ?_ | refine a6 [0, 1, 2, 3, 4, 5, 13, 29, 48] hX mixed ?_ | refine aD ?_ | refine aA ?_ | refine aB ?_); (simp [go_sem]; try (refine ⟨by kernel_rfl, ?_⟩)))))
      first | refine aE (cn) rfl (by simp [go_sem]) rfl ?_ | refine aF (cn) rfl (by simp [go_sem]) rfl ?_
      try (simp [go_sem]; try (refine ⟨by kernel_rfl, ?_⟩))
      first | refine aE (cm) rfl (by simp [go_sem]) rfl ?_ | refine aF (cm) rfl (by simp [go_sem]) rfl ?_
      try (simp [go_sem]; try (refine ⟨by kernel_rfl, ?_⟩))
      first | refine aE (ck) rfl (by simp [go_sem]) rfl ?_ | refine aF (ck) rfl (by simp [go_sem]) rfl ?_
      try (simp [go_sem]; try (refine ⟨by kernel_rfl, ?_⟩))
      (repeat (first | refine aC ?_ | refine a7 ?_ | ((first | refine a8 [0, 1, 2, 3, 4, 5, 13, 29, 48] hX ?_ | refine a6 [0, 1, 2, 3, 4, 5, 13, 29, 48] hX mixed ?_ | refine aD ?_ | refine aA ?_ | refine aB ?_); (simp [go_sem]; try (refine ⟨by kernel_rfl, ?_⟩)))))
    · have cn := gT (dg (ab z)) (dg (ab w)) (by omega) (by omega) (aN _) (aN _) (by rw [aR, aR]; omega)
      rw [aR, aR] at cn
      have hab : ab z - ab w = ab (z + w) := by rcases aJ z with h | h | h <;> rcases aJ w with h2 | h2 | h2 <;> rcases aJ (z + w) with h3 | h3 | h3 <;> omega
      rw [hab] at cn
      have cm := cU (sg z) (z + w) (dg (ab (z + w))) (by omega) (aN _) (by rw [aR]) (fun h => by rcases aJ z with h1 | h1 | h1 <;> rcases aJ w with h2 | h2 | h2 <;> rcases aJ (z + w) with h3 | h3 | h3 <;> omega)
      rw [decide_eq_false hlt] at cl
      refine aK false 71 [.cell 4 24, .tmp 5] Tryz.func36 rfl rfl rfl (by simp) (by decide) rfl fun X hX => ?_
      (repeat (first | refine aC ?_ | refine a7 ?_ | ((first | refine a8 [0, 1, 2, 3, 4, 5, 13, 29, 48] hX ?_ | refine a6 [0, 1, 2, 3, 4, 5, 13, 29, 48] hX mixed ?_ | refine aD ?_ | refine aA ?_ | refine aB ?_); (simp [go_sem]; try (refine ⟨by kernel_rfl, ?_⟩)))))
      first | refine aE (aO z hz) rfl (by simp [go_sem]) rfl ?_ | refine aF (aO z hz) rfl (by simp [go_sem]) rfl ?_
      try (simp [go_sem]; try (refine ⟨by kernel_rfl, ?_⟩))
      first | refine aI (fun hg => aO w hw) rfl (by simp [go_sem]) rfl ?_ | refine aH (fun hg => aO w hw) rfl (by simp [go_sem]) rfl ?_
      try (simp [go_sem]; try (refine ⟨by kernel_rfl, ?_⟩))
      refine aG (b := false) (by simp [go_sem]) (fun h => by cases h) (fun _ => ?_)
      (repeat (first | refine aC ?_ | refine a7 ?_ | ((first | refine a8 [0, 1, 2, 3, 4, 5, 13, 29, 48] hX ?_ | refine a6 [0, 1, 2, 3, 4, 5, 13, 29, 48] hX mixed ?_ | refine aD ?_ | refine aA ?_ | refine aB ?_); (simp [go_sem]; try (refine ⟨by kernel_rfl, ?_⟩)))))
      refine aG (b := false) (by simp [go_sem, hc0, hc1, hc2]) (fun h => by cases h) (fun _ => ?_)
      (repeat (first | refine aC ?_ | refine a7 ?_ | ((first | refine a8 [0, 1, 2, 3, 4, 5, 13, 29, 48] hX ?_ | refine a6 [0, 1, 2, 3, 4, 5, 13, 29, 48] hX mixed ?_ | refine aD ?_ | refine aA ?_ | refine aB ?_); (simp [go_sem]; try (refine ⟨by kernel_rfl, ?_⟩)))))
      first | refine aE (cl) rfl (by simp [go_sem]) rfl ?_ | refine aF (cl) rfl (by simp [go_sem]) rfl ?_
      try (simp [go_sem]; try (refine ⟨by kernel_rfl, ?_⟩))
      refine aG (b := false) (by simp [go_sem]) (fun h => by cases h) (fun _ => ?_)
      (repeat (first | refine aC ?_ | refine a7 ?_ | ((first | refine a8 [0, 1, 2, 3, 4, 5, 13, 29, 48] hX ?_ | refine a6 [0, 1, 2, 3, 4, 5, 13, 29, 48] hX mixed ?_ | refine aD ?_ | refine aA ?_ | refine aB ?_); (simp [go_sem]; try (refine ⟨by kernel_rfl, ?_⟩)))))
      first | refine aE (cn) rfl (by simp [go_sem]) rfl ?_ | refine aF (cn) rfl (by simp [go_sem]) rfl ?_
      try (simp [go_sem]; try (refine ⟨by kernel_rfl, ?_⟩))
      first | refine aE (cm) rfl (by simp [go_sem]) rfl ?_ | refine aF (cm) rfl (by simp [go_sem]) rfl ?_
      try (simp [go_sem]; try (refine ⟨by kernel_rfl, ?_⟩))
      first | refine aE (ck) rfl (by simp [go_sem]) rfl ?_ | refine aF (ck) rfl (by simp [go_sem]) rfl ?_
      try (simp [go_sem]; try (refine ⟨by kernel_rfl, ?_⟩))
      (repeat (first | refine aC ?_ | refine a7 ?_ | ((first | refine a8 [0, 1, 2, 3, 4, 5, 13, 29, 48] hX ?_ | refine a6 [0, 1, 2, 3, 4, 5, 13, 29, 48] hX mixed ?_ | refine aD ?_ | refine aA ?_ | refine aB ?_); (simp [go_sem]; try (refine ⟨by kernel_rfl, ?_⟩)))))
theorem zE (z w : Int) (hz : rz z) (hw : rz w) : Means false Tryz.prog 39 [bigZ z, bigZ w] (res (z - w)) := by
  have hadd := vI z (-w) hz (fG hw)
  rw [← Int.sub_eq_add_neg] at hadd
  refine aK false 21 [.cell 4 24, .tmp 5] Tryz.func39 rfl rfl rfl (by simp) (by decide) rfl fun X hX => ?_
  (repeat (first | refine aC ?_ | refine a7 ?_ | ((first | refine a8 [0, 1, 2, 3, 4, 5, 6, 7, 10] hX ?_ | refine a6 [0, 1, 2, 3, 4, 5, 6, 7, 10] hX mixed ?_ | refine aD ?_ | refine aA ?_ | refine aB ?_); (simp [go_sem]; try (refine ⟨by kernel_rfl, ?_⟩)))))
  first | refine aE (aO w hw) rfl (by simp [go_sem]) rfl ?_ | refine aF (aO w hw) rfl (by simp [go_sem]) rfl ?_
  try (simp [go_sem]; try (refine ⟨by kernel_rfl, ?_⟩))
  refine aG (b := false) (by simp [go_sem]) (fun h => by cases h) (fun _ => ?_)
  (repeat (first | refine aC ?_ | refine a7 ?_ | ((first | refine a8 [0, 1, 2, 3, 4, 5, 6, 7, 10] hX ?_ | refine a6 [0, 1, 2, 3, 4, 5, 6, 7, 10] hX mixed ?_ | refine aD ?_ | refine aA ?_ | refine aB ?_); (simp [go_sem]; try (refine ⟨by kernel_rfl, ?_⟩)))))
  first | refine aE (iJ w hw) rfl (by simp [go_sem]) rfl ?_ | refine aF (iJ w hw) rfl (by simp [go_sem]) rfl ?_
  try (simp [go_sem]; try (refine ⟨by kernel_rfl, ?_⟩))
  first | refine aE (hadd) rfl (by simp [go_sem]) rfl ?_ | refine aF (hadd) rfl (by simp [go_sem]) rfl ?_
  try (simp [go_sem]; try (refine ⟨by kernel_rfl, ?_⟩))
  try (repeat refine And.intro (by first | omega | (unfold maxLen; omega) | kernel_rfl | (refine ⟨by first | omega | (unfold maxLen; omega), by first | omega | (unfold maxLen; omega)⟩) | grind) ?_)
  (repeat (first | refine aC ?_ | refine a7 ?_ | ((first | refine a8 [0, 1, 2, 3, 4, 5, 6, 7, 10] hX ?_ | refine a6 [0, 1, 2, 3, 4, 5, 6, 7, 10] hX mixed ?_ | refine aD ?_ | refine aA ?_ | refine aB ?_); (simp [go_sem]; try (refine ⟨by kernel_rfl, ?_⟩)))))
set_option maxHeartbeats 4000000 in
theorem eB (z w : Int) (hz : rz z) (hw : rz w) : Means false Tryz.prog 35 [bigZ z, bigZ w] (res (z * w)) := by
  have hlz := bB hz
  have hlw := bB hw
  have ht := kD (dg (ab z)) (dg (ab w)) (by omega) (by omega) (aN _) (aN _)
  rw [aR, aR] at ht
  have eab : ab z * ab w = ab (z * w) := (kU z w).symm
  rw [eab] at ht
  have hl120 : (dg (ab (z * w))).length ≤ 120 := by
    rw [aP, ← eab]
    unfold rz at hz hw
    have e : (1048576 : Int) ^ 120 = 1048576 ^ 60 * 1048576 ^ 60 := by rw [← Int.pow_add]
    rw [e]
    have h1 := aV z
    have h2 := aV w
    rcases Int.lt_or_le 0 (ab w) with q | q
    · exact Int.lt_of_lt_of_le (Int.mul_lt_mul_of_pos_right hz q) (Int.mul_le_mul_of_nonneg_left (by omega) (by omega))
    · have : ab w = 0 := by omega
      rw [this, Int.mul_zero]; exact Int.mul_pos (bE 60) (bE 60)
  have hm := cU (sg z * sg w) (z * w) (dg (ab (z * w))) (by omega) (aN _) (by rw [aR]) (fun _ => (eX z w).symm)
  have hws : IntKind.i64.wrap (sg z * sg w) = sg z * sg w := by
    rw [← eX]
    have := dN (z * w)
    exact w64 (by omega) (by omega)
  have ck := rR (z * w) (by omega)
  refine aK false 29 [.cell 4 24, .tmp 5] Tryz.func35 rfl rfl rfl (by simp) (by decide) rfl fun X hX => ?_
  (repeat (first | refine aC ?_ | refine a7 ?_ | ((first | refine a8 [0, 1, 2, 3, 4, 5, 13] hX ?_ | refine a6 [0, 1, 2, 3, 4, 5, 13] hX mixed ?_ | refine aD ?_ | refine aA ?_ | refine aB ?_); (simp [go_sem]; try (refine ⟨by kernel_rfl, ?_⟩)))))
  first | refine aE (aO z hz) rfl (by simp [go_sem]) rfl ?_ | refine aF (aO z hz) rfl (by simp [go_sem]) rfl ?_
  try (simp [go_sem]; try (refine ⟨by kernel_rfl, ?_⟩))
  first | refine aI (fun hg => aO w hw) rfl (by simp [go_sem]) rfl ?_ | refine aH (fun hg => aO w hw) rfl (by simp [go_sem]) rfl ?_
  try (simp [go_sem]; try (refine ⟨by kernel_rfl, ?_⟩))
  refine aG (b := false) (by simp [go_sem]) (fun h => by cases h) (fun _ => ?_)
  (repeat (first | refine aC ?_ | refine a7 ?_ | ((first | refine a8 [0, 1, 2, 3, 4, 5, 13] hX ?_ | refine a6 [0, 1, 2, 3, 4, 5, 13] hX mixed ?_ | refine aD ?_ | refine aA ?_ | refine aB ?_); (simp [go_sem, hws]; try (refine ⟨by kernel_rfl, ?_⟩)))))
  first | refine aE (ht) rfl (by simp [go_sem]) rfl ?_ | refine aF (ht) rfl (by simp [go_sem]) rfl ?_
  try (simp [go_sem, hws]; try (refine ⟨by kernel_rfl, ?_⟩))
  first | refine aE (hm) rfl (by simp [go_sem]) rfl ?_ | refine aF (hm) rfl (by simp [go_sem]) rfl ?_
  try (simp [go_sem]; try (refine ⟨by kernel_rfl, ?_⟩))
  first | refine aE (ck) rfl (by simp [go_sem]) rfl ?_ | refine aF (ck) rfl (by simp [go_sem]) rfl ?_
  try (simp [go_sem]; try (refine ⟨by kernel_rfl, ?_⟩))
  (repeat (first | refine aC ?_ | refine a7 ?_ | ((first | refine a8 [0, 1, 2, 3, 4, 5, 13] hX ?_ | refine a6 [0, 1, 2, 3, 4, 5, 13] hX mixed ?_ | refine aD ?_ | refine aA ?_ | refine aB ?_); (simp [go_sem]; try (refine ⟨by kernel_rfl, ?_⟩)))))
end Go.Proofs.YtebinaffldlihaaGreatDoor
