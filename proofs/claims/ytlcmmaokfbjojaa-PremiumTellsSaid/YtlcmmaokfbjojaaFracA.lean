/-
  Layer 5: rightness, lowest terms, sums, products.
-/
import Derived.Test.YtlcmmaokfbjojaaFracP
set_option linter.all false
namespace Go.Proofs.Ytlcmmaokfbjojaa
open Go.RowKit Go.Ab
attribute [local irreducible] AWP Go.Ab.Sub Means MeansH CallK CallG CallT CallGT

@[go_sem] theorem c_sg0 : sg 0 = 0 := rfl
@[go_sem] theorem c_dg0 : dg (ab 0) = [] := rfl
abbrev frac4 (s1 : Int) (L1 : List Int) (s2 : Int) (L2 : List Int) : AV := .agg [ii s1, il L1, ii s2, il L2]
abbrev frZ (p q : Int) : AV := frac4 (sg p) (dg (ab p)) (sg q) (dg (ab q))
/-- The integer of a sign and digits. -/
def zv (s : Int) (L : List Int) : Int := s * val L
theorem zv_bigZ (z : Int) : zv (sg z) (dg (ab z)) = z := by unfold zv; rw [val_ab, sg_ab]
theorem zv_of {s : Int} {L : List Int} (h : isR s L) : rz (zv s L) ∧ s = sg (zv s L) ∧ L = dg (ab (zv s L)) := by
  obtain ⟨z, hz, rfl, rfl⟩ := isR_to h
  rw [zv_bigZ]; exact ⟨hz, rfl, rfl⟩
/-- A fraction that is given is right. -/
def isF (s1 : Int) (L1 : List Int) (s2 : Int) (L2 : List Int) : Prop := isR s1 L1 ∧ isR s2 L2 ∧ rf (zv s1 L1) (zv s2 L2)
noncomputable instance (s1 : Int) (L1 : List Int) (s2 : Int) (L2 : List Int) : Decidable (isF s1 L1 s2 L2) := Classical.propDecidable _
theorem isF_of {p q : Int} (h : rf p q) : isF (sg p) (dg (ab p)) (sg q) (dg (ab q)) := ⟨isR_of h.1, isR_of h.2.1, by rw [zv_bigZ, zv_bigZ]; exact h⟩
theorem isF_to {s1 s2 : Int} {L1 L2 : List Int} (h : isF s1 L1 s2 L2) : ∃ p q, rf p q ∧ s1 = sg p ∧ L1 = dg (ab p) ∧ s2 = sg q ∧ L2 = dg (ab q) := by
  obtain ⟨h1, h2, h3⟩ := h
  obtain ⟨_, a1, a2⟩ := zv_of h1
  obtain ⟨_, b1, b2⟩ := zv_of h2
  exact ⟨_, _, h3, a1, a2, b1, b2⟩

theorem one_m (z : Int) (hz : rz z) : Means false Try.prog 36 [bigZ z] (bb (decide (z = 1))) := by
  refine means_fn false 15 [.tmp 2] Try.func36 rfl rfl rfl (by simp) (by decide) rfl fun X hX => ?_
  (repeat (first | refine awp_seq ?_ | refine awp_block ?_ | ((first | refine awp_runG [0, 1, 2, 3, 4] hX ?_ | refine awp_drawnG [0, 1, 2, 3, 4] hX mixed ?_ | refine awp_ret ?_ | refine awp_skip ?_ | refine awp_exit ?_); (simp [go_sem]; try (refine ⟨by kernel_rfl, ?_⟩)))))
  first | refine callK_intro (Int_m z hz) rfl (by simp [go_sem]) rfl ?_ | refine callT_intro (Int_m z hz) rfl (by simp [go_sem]) rfl ?_
  try (simp [go_sem]; try (refine ⟨by kernel_rfl, ?_⟩))
  by_cases h : inI z = true
  · (repeat (first | refine awp_seq ?_ | refine awp_block ?_ | ((first | refine awp_runG [0, 1, 2, 3, 4] hX ?_ | refine awp_drawnG [0, 1, 2, 3, 4] hX mixed ?_ | refine awp_ret ?_ | refine awp_skip ?_ | refine awp_exit ?_); (simp [go_sem, h]; try (refine ⟨by kernel_rfl, ?_⟩)))))
  · have h1 : ¬ z = 1 := by
      rintro rfl
      exact h (by decide)
    have hf : inI z = false := by simpa using h
    (repeat (first | refine awp_seq ?_ | refine awp_block ?_ | ((first | refine awp_runG [0, 1, 2, 3, 4] hX ?_ | refine awp_drawnG [0, 1, 2, 3, 4] hX mixed ?_ | refine awp_ret ?_ | refine awp_skip ?_ | refine awp_exit ?_); (simp [go_sem, hf, h1]; try (refine ⟨by kernel_rfl, ?_⟩)))))

set_option maxHeartbeats 4000000 in
set_option maxRecDepth 20000 in
theorem Right_f (s1 : Int) (L1 : List Int) (l1 : L1.length ≤ 9223372036854775807) (s2 : Int) (L2 : List Int) (l2 : L2.length ≤ 9223372036854775807) : Means false Try.prog 20 [frac4 s1 L1 s2 L2] (bb (decide (isF s1 L1 s2 L2))) := by
  refine means_fn false 35 [.tmp 2] Try.func20 rfl rfl rfl (by simp) (by decide) rfl fun X hX => ?_
  (repeat (first | refine awp_seq ?_ | refine awp_block ?_ | ((first | refine awp_runG [0, 1, 2, 3, 4, 20] hX ?_ | refine awp_drawnG [0, 1, 2, 3, 4, 20] hX mixed ?_ | refine awp_ret ?_ | refine awp_skip ?_ | refine awp_exit ?_); (simp [go_sem]; try (refine ⟨by kernel_rfl, ?_⟩)))))
  first | refine callK_intro (right_m s1 L1 l1) rfl (by simp [go_sem]) rfl ?_ | refine callT_intro (right_m s1 L1 l1) rfl (by simp [go_sem]) rfl ?_
  try (simp [go_sem]; try (refine ⟨by kernel_rfl, ?_⟩))
  first | refine callG_intro (fun hg => right_m s2 L2 l2) rfl (by simp [go_sem]) rfl ?_ | refine callGT_intro (fun hg => right_m s2 L2 l2) rfl (by simp [go_sem]) rfl ?_
  try (simp [go_sem]; try (refine ⟨by kernel_rfl, ?_⟩))
  by_cases h : isR s1 L1 ∧ isR s2 L2 ∧ s2 = 1
  · obtain ⟨h1, h2, h3⟩ := h
    obtain ⟨p, hp, rfl, rfl⟩ := isR_to h1
    obtain ⟨q, hq, rfl, rfl⟩ := isR_to h2
    have hq0 : 0 < q := by rcases sg_cases q with h | h | h <;> omega
    have e : isF (sg p) (dg (ab p)) (sg q) (dg (ab q)) ↔ (Int.gcd p q : Int) = 1 := by
      unfold isF rf
      rw [zv_bigZ, zv_bigZ]
      constructor
      · rintro ⟨_, _, _, _, _, h⟩; omega
      · intro h; exact ⟨h1, h2, hp, hq, hq0, by omega⟩
    have zg : rz (Int.gcd p q : Int) := by
      unfold rz at *
      have := gcd_bd hp hq
      exact this
    have h2' : isR 1 (dg (ab q)) := by rw [← h3]; exact h2
    refine awp_cond (b := false) (by simp [go_sem, h1, h2, h2', h3]) (fun h => by cases h) (fun _ => ?_)
    (repeat (first | refine awp_seq ?_ | refine awp_block ?_ | ((first | refine awp_runG [0, 1, 2, 3, 4, 20] hX ?_ | refine awp_drawnG [0, 1, 2, 3, 4, 20] hX mixed ?_ | refine awp_ret ?_ | refine awp_skip ?_ | refine awp_exit ?_); (simp [go_sem]; try (refine ⟨by kernel_rfl, ?_⟩)))))
    first | refine callK_intro (Gcd_m p q hp hq) rfl (by simp [go_sem]) rfl ?_ | refine callT_intro (Gcd_m p q hp hq) rfl (by simp [go_sem]) rfl ?_
    try (simp [go_sem]; try (refine ⟨by kernel_rfl, ?_⟩))
    (repeat (first | refine awp_seq ?_ | refine awp_block ?_ | ((first | refine awp_runG [0, 1, 2, 3, 4, 20] hX ?_ | refine awp_drawnG [0, 1, 2, 3, 4, 20] hX mixed ?_ | refine awp_ret ?_ | refine awp_skip ?_ | refine awp_exit ?_); (simp [go_sem]; try (refine ⟨by kernel_rfl, ?_⟩)))))
    first | refine callG_intro (fun hg => one_m _ zg) rfl (by simp [go_sem]) rfl ?_ | refine callGT_intro (fun hg => one_m _ zg) rfl (by simp [go_sem]) rfl ?_
    try (simp [go_sem]; try (refine ⟨by kernel_rfl, ?_⟩))
    (repeat (first | refine awp_seq ?_ | refine awp_block ?_ | ((first | refine awp_runG [0, 1, 2, 3, 4, 20] hX ?_ | refine awp_drawnG [0, 1, 2, 3, 4, 20] hX mixed ?_ | refine awp_ret ?_ | refine awp_skip ?_ | refine awp_exit ?_); (simp [go_sem, e]; try (refine ⟨by kernel_rfl, ?_⟩)))))
  · have e : ¬ isF s1 L1 s2 L2 := fun hf => h ⟨hf.1, hf.2.1, by
      obtain ⟨p, q, hr, _, _, rfl, _⟩ := isF_to hf
      have := hr.2.2.1
      rcases sg_cases q with h | h | h <;> omega⟩
    refine awp_cond (b := true) (by simp [go_sem]; grind) (fun _ => ?_) (fun h => by cases h)
    (repeat (first | refine awp_seq ?_ | refine awp_block ?_ | ((first | refine awp_runG [0, 1, 2, 3, 4, 20] hX ?_ | refine awp_drawnG [0, 1, 2, 3, 4, 20] hX mixed ?_ | refine awp_ret ?_ | refine awp_skip ?_ | refine awp_exit ?_); (simp [go_sem, e]; try (refine ⟨by kernel_rfl, ?_⟩)))))
theorem Right_t (p q : Int) (h : rf p q) : Means false Try.prog 20 [frZ p q] (bb true) := by
  have := Right_f (sg p) (dg (ab p)) (by have := len60 h.1; omega) (sg q) (dg (ab q)) (by have := len60 h.2.1; omega)
  rwa [decide_eq_true (isF_of h)] at this

theorem np_dq {p q p' : Int} (_hq : q ≠ 0) (h : p' = sg q * p) (hg : 0 < (Int.gcd p q : Int)) : dq p' (Int.gcd p q : Int) = np p q := by
  unfold dq np
  have e1 : sg (Int.gcd p q : Int) = 1 := by rcases sg_cases (Int.gcd p q : Int) with h | h | h <;> omega
  have e2 : ab (Int.gcd p q : Int) = (Int.gcd p q : Int) := by unfold ab; rw [if_neg (by omega)]
  rw [e1, e2, Int.one_mul, h]
theorem nq_dq {p q q' : Int} (h : q' = ab q) (hg : 0 < (Int.gcd p q : Int)) : dq q' (Int.gcd p q : Int) = nq p q := by
  unfold dq nq
  have e1 : sg (Int.gcd p q : Int) = 1 := by rcases sg_cases (Int.gcd p q : Int) with h | h | h <;> omega
  have e2 : ab (Int.gcd p q : Int) = (Int.gcd p q : Int) := by unfold ab; rw [if_neg (by omega)]
  rw [e1, e2, Int.one_mul, h]
set_option maxHeartbeats 4000000 in
set_option maxRecDepth 20000 in
theorem New_m (p q : Int) (hp : rz p) (hq : rz q) (h0 : q ≠ 0) : Means false Try.prog 39 [bigZ p, bigZ q] (.tup [frZ (np p q) (nq p q), ii 0]) := by
  have hs0 : ¬ sg q = 0 := by rcases sg_cases q with h | h | h <;> omega
  have hgp := gcd_pos (p := p) h0
  have hg0 : (Int.gcd p q : Int) ≠ 0 := by omega
  have zg : rz (Int.gcd p q : Int) := gcd_bd hp hq
  have znp := rz_neg hp
  have znq := rz_neg hq
  refine means_fn false 60 [.cell 4 38, .tmp 5] Try.func39 rfl rfl rfl (by simp) (by decide) rfl fun X hX => ?_
  (repeat (first | refine awp_seq ?_ | refine awp_block ?_ | ((first | refine awp_runG [0, 1, 2, 3, 4, 5, 6, 8, 11, 14, 24, 29] hX ?_ | refine awp_drawnG [0, 1, 2, 3, 4, 5, 6, 8, 11, 14, 24, 29] hX mixed ?_ | refine awp_ret ?_ | refine awp_skip ?_ | refine awp_exit ?_); (simp [go_sem]; try (refine ⟨by kernel_rfl, ?_⟩)))))
  first | refine callK_intro (right_t p hp) rfl (by simp [go_sem]) rfl ?_ | refine callT_intro (right_t p hp) rfl (by simp [go_sem]) rfl ?_
  try (simp [go_sem]; try (refine ⟨by kernel_rfl, ?_⟩))
  first | refine callG_intro (fun hg => right_t q hq) rfl (by simp [go_sem]) rfl ?_ | refine callGT_intro (fun hg => right_t q hq) rfl (by simp [go_sem]) rfl ?_
  try (simp [go_sem]; try (refine ⟨by kernel_rfl, ?_⟩))
  refine awp_cond (b := false) (by simp [go_sem]) (fun h => by cases h) (fun _ => ?_)
  (repeat (first | refine awp_seq ?_ | refine awp_block ?_ | ((first | refine awp_runG [0, 1, 2, 3, 4, 5, 6, 8, 11, 14, 24, 29] hX ?_ | refine awp_drawnG [0, 1, 2, 3, 4, 5, 6, 8, 11, 14, 24, 29] hX mixed ?_ | refine awp_ret ?_ | refine awp_skip ?_ | refine awp_exit ?_); (simp [go_sem]; try (refine ⟨by kernel_rfl, ?_⟩)))))
  refine awp_cond (b := false) (by simp [go_sem, hs0]) (fun h => by cases h) (fun _ => ?_)
  (repeat (first | refine awp_seq ?_ | refine awp_block ?_ | ((first | refine awp_runG [0, 1, 2, 3, 4, 5, 6, 8, 11, 14, 24, 29] hX ?_ | refine awp_drawnG [0, 1, 2, 3, 4, 5, 6, 8, 11, 14, 24, 29] hX mixed ?_ | refine awp_ret ?_ | refine awp_skip ?_ | refine awp_exit ?_); (simp [go_sem]; try (refine ⟨by kernel_rfl, ?_⟩)))))
  by_cases hn : q < 0
  · have hsq : sg q = -1 := by unfold sg; rw [if_pos hn]
    refine awp_cond (b := true) (by simp [go_sem, hsq]) (fun _ => ?_) (fun h => by cases h)
    (repeat (first | refine awp_seq ?_ | refine awp_block ?_ | ((first | refine awp_runG [0, 1, 2, 3, 4, 5, 6, 8, 11, 14, 24, 29] hX ?_ | refine awp_drawnG [0, 1, 2, 3, 4, 5, 6, 8, 11, 14, 24, 29] hX mixed ?_ | refine awp_ret ?_ | refine awp_skip ?_ | refine awp_exit ?_); (simp [go_sem]; try (refine ⟨by kernel_rfl, ?_⟩)))))
    first | refine callK_intro (Neg_m p hp) rfl (by simp [go_sem]) rfl ?_ | refine callT_intro (Neg_m p hp) rfl (by simp [go_sem]) rfl ?_
    try (simp [go_sem]; try (refine ⟨by kernel_rfl, ?_⟩))
    first | refine callK_intro (Neg_m q hq) rfl (by simp [go_sem]) rfl ?_ | refine callT_intro (Neg_m q hq) rfl (by simp [go_sem]) rfl ?_
    try (simp [go_sem]; try (refine ⟨by kernel_rfl, ?_⟩))
    (repeat (first | refine awp_seq ?_ | refine awp_block ?_ | ((first | refine awp_runG [0, 1, 2, 3, 4, 5, 6, 8, 11, 14, 24, 29] hX ?_ | refine awp_drawnG [0, 1, 2, 3, 4, 5, 6, 8, 11, 14, 24, 29] hX mixed ?_ | refine awp_ret ?_ | refine awp_skip ?_ | refine awp_exit ?_); (simp [go_sem]; try (refine ⟨by kernel_rfl, ?_⟩)))))
    first | refine callK_intro (Gcd_ok (g := (Int.gcd p q : Int)) znp znq (by rw [Int.neg_gcd, Int.gcd_neg])) rfl (by simp [go_sem]) rfl ?_ | refine callT_intro (Gcd_ok (g := (Int.gcd p q : Int)) znp znq (by rw [Int.neg_gcd, Int.gcd_neg])) rfl (by simp [go_sem]) rfl ?_
    try (simp [go_sem]; try (refine ⟨by kernel_rfl, ?_⟩))
    (repeat (first | refine awp_seq ?_ | refine awp_block ?_ | ((first | refine awp_runG [0, 1, 2, 3, 4, 5, 6, 8, 11, 14, 24, 29] hX ?_ | refine awp_drawnG [0, 1, 2, 3, 4, 5, 6, 8, 11, 14, 24, 29] hX mixed ?_ | refine awp_ret ?_ | refine awp_skip ?_ | refine awp_exit ?_); (simp [go_sem]; try (refine ⟨by kernel_rfl, ?_⟩)))))
    first | refine callK_intro (Div_ok znp zg hg0 (np_dq h0 (by rw [hsq, Int.neg_one_mul]) hgp) rfl) rfl (by simp [go_sem]) rfl ?_ | refine callT_intro (Div_ok znp zg hg0 (np_dq h0 (by rw [hsq, Int.neg_one_mul]) hgp) rfl) rfl (by simp [go_sem]) rfl ?_
    try (simp [go_sem]; try (refine ⟨by kernel_rfl, ?_⟩))
    (repeat (first | refine awp_seq ?_ | refine awp_block ?_ | ((first | refine awp_runG [0, 1, 2, 3, 4, 5, 6, 8, 11, 14, 24, 29] hX ?_ | refine awp_drawnG [0, 1, 2, 3, 4, 5, 6, 8, 11, 14, 24, 29] hX mixed ?_ | refine awp_ret ?_ | refine awp_skip ?_ | refine awp_exit ?_); (simp [go_sem]; try (refine ⟨by kernel_rfl, ?_⟩)))))
    first | refine callK_intro (Div_ok znq zg hg0 (nq_dq (by unfold ab; rw [if_pos hn]) hgp) rfl) rfl (by simp [go_sem]) rfl ?_ | refine callT_intro (Div_ok znq zg hg0 (nq_dq (by unfold ab; rw [if_pos hn]) hgp) rfl) rfl (by simp [go_sem]) rfl ?_
    try (simp [go_sem]; try (refine ⟨by kernel_rfl, ?_⟩))
    (repeat (first | refine awp_seq ?_ | refine awp_block ?_ | ((first | refine awp_runG [0, 1, 2, 3, 4, 5, 6, 8, 11, 14, 24, 29] hX ?_ | refine awp_drawnG [0, 1, 2, 3, 4, 5, 6, 8, 11, 14, 24, 29] hX mixed ?_ | refine awp_ret ?_ | refine awp_skip ?_ | refine awp_exit ?_); (simp [go_sem]; try (refine ⟨by kernel_rfl, ?_⟩)))))
  · have hsq : sg q = 1 := by rcases sg_cases q with h | h | h <;> omega
    refine awp_cond (b := false) (by simp [go_sem, hsq]) (fun h => by cases h) (fun _ => ?_)
    (repeat (first | refine awp_seq ?_ | refine awp_block ?_ | ((first | refine awp_runG [0, 1, 2, 3, 4, 5, 6, 8, 11, 14, 24, 29] hX ?_ | refine awp_drawnG [0, 1, 2, 3, 4, 5, 6, 8, 11, 14, 24, 29] hX mixed ?_ | refine awp_ret ?_ | refine awp_skip ?_ | refine awp_exit ?_); (simp [go_sem]; try (refine ⟨by kernel_rfl, ?_⟩)))))
    first | refine callK_intro (Gcd_ok (g := (Int.gcd p q : Int)) hp hq (rfl)) rfl (by simp [go_sem]) rfl ?_ | refine callT_intro (Gcd_ok (g := (Int.gcd p q : Int)) hp hq (rfl)) rfl (by simp [go_sem]) rfl ?_
    try (simp [go_sem]; try (refine ⟨by kernel_rfl, ?_⟩))
    (repeat (first | refine awp_seq ?_ | refine awp_block ?_ | ((first | refine awp_runG [0, 1, 2, 3, 4, 5, 6, 8, 11, 14, 24, 29] hX ?_ | refine awp_drawnG [0, 1, 2, 3, 4, 5, 6, 8, 11, 14, 24, 29] hX mixed ?_ | refine awp_ret ?_ | refine awp_skip ?_ | refine awp_exit ?_); (simp [go_sem]; try (refine ⟨by kernel_rfl, ?_⟩)))))
    first | refine callK_intro (Div_ok hp zg hg0 (np_dq h0 (by rw [hsq, Int.one_mul]) hgp) rfl) rfl (by simp [go_sem]) rfl ?_ | refine callT_intro (Div_ok hp zg hg0 (np_dq h0 (by rw [hsq, Int.one_mul]) hgp) rfl) rfl (by simp [go_sem]) rfl ?_
    try (simp [go_sem]; try (refine ⟨by kernel_rfl, ?_⟩))
    (repeat (first | refine awp_seq ?_ | refine awp_block ?_ | ((first | refine awp_runG [0, 1, 2, 3, 4, 5, 6, 8, 11, 14, 24, 29] hX ?_ | refine awp_drawnG [0, 1, 2, 3, 4, 5, 6, 8, 11, 14, 24, 29] hX mixed ?_ | refine awp_ret ?_ | refine awp_skip ?_ | refine awp_exit ?_); (simp [go_sem]; try (refine ⟨by kernel_rfl, ?_⟩)))))
    first | refine callK_intro (Div_ok hq zg hg0 (nq_dq (by unfold ab; rw [if_neg hn]) hgp) rfl) rfl (by simp [go_sem]) rfl ?_ | refine callT_intro (Div_ok hq zg hg0 (nq_dq (by unfold ab; rw [if_neg hn]) hgp) rfl) rfl (by simp [go_sem]) rfl ?_
    try (simp [go_sem]; try (refine ⟨by kernel_rfl, ?_⟩))
    (repeat (first | refine awp_seq ?_ | refine awp_block ?_ | ((first | refine awp_runG [0, 1, 2, 3, 4, 5, 6, 8, 11, 14, 24, 29] hX ?_ | refine awp_drawnG [0, 1, 2, 3, 4, 5, 6, 8, 11, 14, 24, 29] hX mixed ?_ | refine awp_ret ?_ | refine awp_skip ?_ | refine awp_exit ?_); (simp [go_sem]; try (refine ⟨by kernel_rfl, ?_⟩)))))

theorem New_0 (p : Int) (hp : rz p) : Means false Try.prog 39 [bigZ p, bigZ 0] (.tup [frZ 0 0, ii 15]) := by
  have h0 : rz 0 := rz_c (by decide)
  refine means_fn false 60 [.cell 4 38, .tmp 5] Try.func39 rfl rfl rfl (by simp) (by decide) rfl fun X hX => ?_
  (repeat (first | refine awp_seq ?_ | refine awp_block ?_ | ((first | refine awp_runG [0, 1, 2, 3, 4, 5, 6, 8, 11, 14, 24, 29] hX ?_ | refine awp_drawnG [0, 1, 2, 3, 4, 5, 6, 8, 11, 14, 24, 29] hX mixed ?_ | refine awp_ret ?_ | refine awp_skip ?_ | refine awp_exit ?_); (simp [go_sem]; try (refine ⟨by kernel_rfl, ?_⟩)))))
  first | refine callK_intro (right_t p hp) rfl (by simp [go_sem]) rfl ?_ | refine callT_intro (right_t p hp) rfl (by simp [go_sem]) rfl ?_
  try (simp [go_sem]; try (refine ⟨by kernel_rfl, ?_⟩))
  first | refine callG_intro (fun hg => right_t 0 h0) rfl (by simp [go_sem]) rfl ?_ | refine callGT_intro (fun hg => right_t 0 h0) rfl (by simp [go_sem]) rfl ?_
  try (simp [go_sem]; try (refine ⟨by kernel_rfl, ?_⟩))
  refine awp_cond (b := false) (by simp [go_sem]) (fun h => by cases h) (fun _ => ?_)
  (repeat (first | refine awp_seq ?_ | refine awp_block ?_ | ((first | refine awp_runG [0, 1, 2, 3, 4, 5, 6, 8, 11, 14, 24, 29] hX ?_ | refine awp_drawnG [0, 1, 2, 3, 4, 5, 6, 8, 11, 14, 24, 29] hX mixed ?_ | refine awp_ret ?_ | refine awp_skip ?_ | refine awp_exit ?_); (simp [go_sem]; try (refine ⟨by kernel_rfl, ?_⟩)))))
  refine awp_cond (b := true) (by simp [go_sem]) (fun _ => ?_) (fun h => by cases h)
  (repeat (first | refine awp_seq ?_ | refine awp_block ?_ | ((first | refine awp_runG [0, 1, 2, 3, 4, 5, 6, 8, 11, 14, 24, 29] hX ?_ | refine awp_drawnG [0, 1, 2, 3, 4, 5, 6, 8, 11, 14, 24, 29] hX mixed ?_ | refine awp_ret ?_ | refine awp_skip ?_ | refine awp_exit ?_); (simp [go_sem]; try (refine ⟨by kernel_rfl, ?_⟩)))))

set_option maxHeartbeats 4000000 in
theorem Of_f (p q : Int) (hp : -9223372036854775808 ≤ p ∧ p ≤ 9223372036854775807) (hq : -9223372036854775808 ≤ q ∧ q ≤ 9223372036854775807) (h0 : q ≠ 0) : Means false Try.prog 22 [ii p, ii q] (.tup [frZ (np p q) (nq p q), ii 0]) := by
  refine means_fn false 13 [.cell 4 38, .tmp 5] Try.func22 rfl rfl rfl (by simp) (by decide) rfl fun X hX => ?_
  (repeat (first | refine awp_seq ?_ | refine awp_block ?_ | ((first | refine awp_runG [0, 1, 4, 5] hX ?_ | refine awp_drawnG [0, 1, 4, 5] hX mixed ?_ | refine awp_ret ?_ | refine awp_skip ?_ | refine awp_exit ?_); (simp [go_sem]; try (refine ⟨by kernel_rfl, ?_⟩)))))
  first | refine callK_intro (Of_m p hp) rfl (by simp [go_sem]) rfl ?_ | refine callT_intro (Of_m p hp) rfl (by simp [go_sem]) rfl ?_
  try (simp [go_sem]; try (refine ⟨by kernel_rfl, ?_⟩))
  first | refine callK_intro (Of_m q hq) rfl (by simp [go_sem]) rfl ?_ | refine callT_intro (Of_m q hq) rfl (by simp [go_sem]) rfl ?_
  try (simp [go_sem]; try (refine ⟨by kernel_rfl, ?_⟩))
  first | refine callK_intro (New_m p q (rz_i hp) (rz_i hq) h0) rfl (by simp [go_sem]) rfl ?_ | refine callT_intro (New_m p q (rz_i hp) (rz_i hq) h0) rfl (by simp [go_sem]) rfl ?_
  try (simp [go_sem]; try (refine ⟨by kernel_rfl, ?_⟩))
  (repeat (first | refine awp_seq ?_ | refine awp_block ?_ | ((first | refine awp_runG [0, 1, 4, 5] hX ?_ | refine awp_drawnG [0, 1, 4, 5] hX mixed ?_ | refine awp_ret ?_ | refine awp_skip ?_ | refine awp_exit ?_); (simp [go_sem]; try (refine ⟨by kernel_rfl, ?_⟩)))))
theorem Of_f0 (p : Int) (hp : -9223372036854775808 ≤ p ∧ p ≤ 9223372036854775807) : Means false Try.prog 22 [ii p, ii 0] (.tup [frZ 0 0, ii 15]) := by
  refine means_fn false 13 [.cell 4 38, .tmp 5] Try.func22 rfl rfl rfl (by simp) (by decide) rfl fun X hX => ?_
  (repeat (first | refine awp_seq ?_ | refine awp_block ?_ | ((first | refine awp_runG [0, 1, 4, 5] hX ?_ | refine awp_drawnG [0, 1, 4, 5] hX mixed ?_ | refine awp_ret ?_ | refine awp_skip ?_ | refine awp_exit ?_); (simp [go_sem]; try (refine ⟨by kernel_rfl, ?_⟩)))))
  first | refine callK_intro (Of_m p hp) rfl (by simp [go_sem]) rfl ?_ | refine callT_intro (Of_m p hp) rfl (by simp [go_sem]) rfl ?_
  try (simp [go_sem]; try (refine ⟨by kernel_rfl, ?_⟩))
  first | refine callK_intro (Of_m 0 (by decide)) rfl (by simp [go_sem]) rfl ?_ | refine callT_intro (Of_m 0 (by decide)) rfl (by simp [go_sem]) rfl ?_
  try (simp [go_sem]; try (refine ⟨by kernel_rfl, ?_⟩))
  first | refine callK_intro (New_0 p (rz_i hp)) rfl (by simp [go_sem]) rfl ?_ | refine callT_intro (New_0 p (rz_i hp)) rfl (by simp [go_sem]) rfl ?_
  try (simp [go_sem]; try (refine ⟨by kernel_rfl, ?_⟩))
  (repeat (first | refine awp_seq ?_ | refine awp_block ?_ | ((first | refine awp_runG [0, 1, 4, 5] hX ?_ | refine awp_drawnG [0, 1, 4, 5] hX mixed ?_ | refine awp_ret ?_ | refine awp_skip ?_ | refine awp_exit ?_); (simp [go_sem]; try (refine ⟨by kernel_rfl, ?_⟩)))))

theorem Mul_no {a b : Int} (ha : rz a) (hb : rz b) (h : ¬ rz (a * b)) : Means false Try.prog 31 [bigZ a, bigZ b] (.tup [bigZ 0, ii 6]) := by
  have := Mul_m a b ha hb
  rwa [res, r60, e60, if_neg h, if_neg h] at this
noncomputable def sumP (a b c d : Int) : Prop := rz (a * b) ∧ rz (c * d) ∧ rz (a * b + c * d)
noncomputable instance (a b c d : Int) : Decidable (sumP a b c d) := Classical.propDecidable _
set_option maxHeartbeats 4000000 in
theorem sum_m (a b c d : Int) (ha : rz a) (hb : rz b) (hc : rz c) (hd : rz d) : Means false Try.prog 30 [bigZ a, bigZ b, bigZ c, bigZ d] (.tup [bigZ (if sumP a b c d then a * b + c * d else 0), ii (if sumP a b c d then 0 else 6)]) := by
  refine means_fn false 38 [.cell 8 36, .tmp 9] Try.func30 rfl rfl rfl (by simp) (by decide) rfl fun X hX => ?_
  (repeat (first | refine awp_seq ?_ | refine awp_block ?_ | ((first | refine awp_runG [0, 1, 2, 3, 4, 5, 6, 7, 8, 9, 10, 11, 12, 20, 30] hX ?_ | refine awp_drawnG [0, 1, 2, 3, 4, 5, 6, 7, 8, 9, 10, 11, 12, 20, 30] hX mixed ?_ | refine awp_ret ?_ | refine awp_skip ?_ | refine awp_exit ?_); (simp [go_sem]; try (refine ⟨by kernel_rfl, ?_⟩)))))
  by_cases h1 : rz (a * b)
  · first | refine callK_intro (Mul_ok ha hb h1 rfl) rfl (by simp [go_sem]) rfl ?_ | refine callT_intro (Mul_ok ha hb h1 rfl) rfl (by simp [go_sem]) rfl ?_
    try (simp [go_sem]; try (refine ⟨by kernel_rfl, ?_⟩))
    (repeat (first | refine awp_seq ?_ | refine awp_block ?_ | ((first | refine awp_runG [0, 1, 2, 3, 4, 5, 6, 7, 8, 9, 10, 11, 12, 20, 30] hX ?_ | refine awp_drawnG [0, 1, 2, 3, 4, 5, 6, 7, 8, 9, 10, 11, 12, 20, 30] hX mixed ?_ | refine awp_ret ?_ | refine awp_skip ?_ | refine awp_exit ?_); (simp [go_sem]; try (refine ⟨by kernel_rfl, ?_⟩)))))
    refine awp_cond (b := false) (by simp [go_sem]) (fun h => by cases h) (fun _ => ?_)
    (repeat (first | refine awp_seq ?_ | refine awp_block ?_ | ((first | refine awp_runG [0, 1, 2, 3, 4, 5, 6, 7, 8, 9, 10, 11, 12, 20, 30] hX ?_ | refine awp_drawnG [0, 1, 2, 3, 4, 5, 6, 7, 8, 9, 10, 11, 12, 20, 30] hX mixed ?_ | refine awp_ret ?_ | refine awp_skip ?_ | refine awp_exit ?_); (simp [go_sem]; try (refine ⟨by kernel_rfl, ?_⟩)))))
    by_cases h2 : rz (c * d)
    · first | refine callK_intro (Mul_ok hc hd h2 rfl) rfl (by simp [go_sem]) rfl ?_ | refine callT_intro (Mul_ok hc hd h2 rfl) rfl (by simp [go_sem]) rfl ?_
      try (simp [go_sem]; try (refine ⟨by kernel_rfl, ?_⟩))
      (repeat (first | refine awp_seq ?_ | refine awp_block ?_ | ((first | refine awp_runG [0, 1, 2, 3, 4, 5, 6, 7, 8, 9, 10, 11, 12, 20, 30] hX ?_ | refine awp_drawnG [0, 1, 2, 3, 4, 5, 6, 7, 8, 9, 10, 11, 12, 20, 30] hX mixed ?_ | refine awp_ret ?_ | refine awp_skip ?_ | refine awp_exit ?_); (simp [go_sem]; try (refine ⟨by kernel_rfl, ?_⟩)))))
      refine awp_cond (b := false) (by simp [go_sem]) (fun h => by cases h) (fun _ => ?_)
      (repeat (first | refine awp_seq ?_ | refine awp_block ?_ | ((first | refine awp_runG [0, 1, 2, 3, 4, 5, 6, 7, 8, 9, 10, 11, 12, 20, 30] hX ?_ | refine awp_drawnG [0, 1, 2, 3, 4, 5, 6, 7, 8, 9, 10, 11, 12, 20, 30] hX mixed ?_ | refine awp_ret ?_ | refine awp_skip ?_ | refine awp_exit ?_); (simp [go_sem]; try (refine ⟨by kernel_rfl, ?_⟩)))))
      first | refine callK_intro (Add_m _ _ h1 h2) rfl (by simp [go_sem]) rfl ?_ | refine callT_intro (Add_m _ _ h1 h2) rfl (by simp [go_sem]) rfl ?_
      try (simp [go_sem]; try (refine ⟨by kernel_rfl, ?_⟩))
      have e : sumP a b c d ↔ rz (a * b + c * d) := ⟨fun h => h.2.2, fun h => ⟨h1, h2, h⟩⟩
      (repeat (first | refine awp_seq ?_ | refine awp_block ?_ | ((first | refine awp_runG [0, 1, 2, 3, 4, 5, 6, 7, 8, 9, 10, 11, 12, 20, 30] hX ?_ | refine awp_drawnG [0, 1, 2, 3, 4, 5, 6, 7, 8, 9, 10, 11, 12, 20, 30] hX mixed ?_ | refine awp_ret ?_ | refine awp_skip ?_ | refine awp_exit ?_); (simp [go_sem, e, r60, e60]; try (refine ⟨by kernel_rfl, ?_⟩)))))
    · have e : ¬ sumP a b c d := fun h => h2 h.2.1
      first | refine callK_intro (Mul_no hc hd h2) rfl (by simp [go_sem]) rfl ?_ | refine callT_intro (Mul_no hc hd h2) rfl (by simp [go_sem]) rfl ?_
      try (simp [go_sem]; try (refine ⟨by kernel_rfl, ?_⟩))
      (repeat (first | refine awp_seq ?_ | refine awp_block ?_ | ((first | refine awp_runG [0, 1, 2, 3, 4, 5, 6, 7, 8, 9, 10, 11, 12, 20, 30] hX ?_ | refine awp_drawnG [0, 1, 2, 3, 4, 5, 6, 7, 8, 9, 10, 11, 12, 20, 30] hX mixed ?_ | refine awp_ret ?_ | refine awp_skip ?_ | refine awp_exit ?_); (simp [go_sem]; try (refine ⟨by kernel_rfl, ?_⟩)))))
      refine awp_cond (b := true) (by simp [go_sem]) (fun _ => ?_) (fun h => by cases h)
      (repeat (first | refine awp_seq ?_ | refine awp_block ?_ | ((first | refine awp_runG [0, 1, 2, 3, 4, 5, 6, 7, 8, 9, 10, 11, 12, 20, 30] hX ?_ | refine awp_drawnG [0, 1, 2, 3, 4, 5, 6, 7, 8, 9, 10, 11, 12, 20, 30] hX mixed ?_ | refine awp_ret ?_ | refine awp_skip ?_ | refine awp_exit ?_); (simp [go_sem, e]; try (refine ⟨by kernel_rfl, ?_⟩)))))
  · have e : ¬ sumP a b c d := fun h => h1 h.1
    first | refine callK_intro (Mul_no ha hb h1) rfl (by simp [go_sem]) rfl ?_ | refine callT_intro (Mul_no ha hb h1) rfl (by simp [go_sem]) rfl ?_
    try (simp [go_sem]; try (refine ⟨by kernel_rfl, ?_⟩))
    (repeat (first | refine awp_seq ?_ | refine awp_block ?_ | ((first | refine awp_runG [0, 1, 2, 3, 4, 5, 6, 7, 8, 9, 10, 11, 12, 20, 30] hX ?_ | refine awp_drawnG [0, 1, 2, 3, 4, 5, 6, 7, 8, 9, 10, 11, 12, 20, 30] hX mixed ?_ | refine awp_ret ?_ | refine awp_skip ?_ | refine awp_exit ?_); (simp [go_sem]; try (refine ⟨by kernel_rfl, ?_⟩)))))
    refine awp_cond (b := true) (by simp [go_sem]) (fun _ => ?_) (fun h => by cases h)
    (repeat (first | refine awp_seq ?_ | refine awp_block ?_ | ((first | refine awp_runG [0, 1, 2, 3, 4, 5, 6, 7, 8, 9, 10, 11, 12, 20, 30] hX ?_ | refine awp_drawnG [0, 1, 2, 3, 4, 5, 6, 7, 8, 9, 10, 11, 12, 20, 30] hX mixed ?_ | refine awp_ret ?_ | refine awp_skip ?_ | refine awp_exit ?_); (simp [go_sem, e]; try (refine ⟨by kernel_rfl, ?_⟩)))))

/-- What a quotient of results is. -/
noncomputable def resF (ok : Prop) [Decidable ok] (p q : Int) : AV := if ok then .tup [frZ (np p q) (nq p q), ii 0] else .tup [frZ 0 0, ii 6]
theorem resF_t {ok : Prop} [Decidable ok] {p q : Int} (h : ok) : resF ok p q = .tup [frZ (np p q) (nq p q), ii 0] := if_pos h
theorem resF_f {ok : Prop} [Decidable ok] {p q : Int} (h : ¬ ok) : resF ok p q = .tup [frZ 0 0, ii 6] := if_neg h
theorem sum_ok {a b c d : Int} (ha : rz a) (hb : rz b) (hc : rz c) (hd : rz d) (h : sumP a b c d) : Means false Try.prog 30 [bigZ a, bigZ b, bigZ c, bigZ d] (.tup [bigZ (a * b + c * d), ii 0]) := by
  have := sum_m a b c d ha hb hc hd
  rwa [if_pos h, if_pos h] at this
theorem sum_no {a b c d : Int} (ha : rz a) (hb : rz b) (hc : rz c) (hd : rz d) (h : ¬ sumP a b c d) : Means false Try.prog 30 [bigZ a, bigZ b, bigZ c, bigZ d] (.tup [bigZ 0, ii 6]) := by
  have := sum_m a b c d ha hb hc hd
  rwa [if_neg h, if_neg h] at this
theorem quotient_no (p q e f : Int) (h : ¬ (e = 0 ∧ f = 0)) : Means false Try.prog 32 [bigZ p, ii e, bigZ q, ii f] (.tup [frZ 0 0, ii 6]) := by
  refine means_fn false 22 [.cell 8 38, .tmp 9] Try.func32 rfl rfl rfl (by simp) (by decide) rfl fun X hX => ?_
  (repeat (first | refine awp_seq ?_ | refine awp_block ?_ | ((first | refine awp_runG [0, 1, 2, 3, 4, 6, 8, 9, 15] hX ?_ | refine awp_drawnG [0, 1, 2, 3, 4, 6, 8, 9, 15] hX mixed ?_ | refine awp_ret ?_ | refine awp_skip ?_ | refine awp_exit ?_); (simp [go_sem]; try (refine ⟨by kernel_rfl, ?_⟩)))))
  refine awp_cond (b := true) (by simp [go_sem]; omega) (fun _ => ?_) (fun h => by cases h)
  (repeat (first | refine awp_seq ?_ | refine awp_block ?_ | ((first | refine awp_runG [0, 1, 2, 3, 4, 6, 8, 9, 15] hX ?_ | refine awp_drawnG [0, 1, 2, 3, 4, 6, 8, 9, 15] hX mixed ?_ | refine awp_ret ?_ | refine awp_skip ?_ | refine awp_exit ?_); (simp [go_sem]; try (refine ⟨by kernel_rfl, ?_⟩)))))
theorem quotient_ok (p q : Int) (hp : rz p) (hq : rz q) (h0 : q ≠ 0) : Means false Try.prog 32 [bigZ p, ii 0, bigZ q, ii 0] (.tup [frZ (np p q) (nq p q), ii 0]) := by
  refine means_fn false 22 [.cell 8 38, .tmp 9] Try.func32 rfl rfl rfl (by simp) (by decide) rfl fun X hX => ?_
  (repeat (first | refine awp_seq ?_ | refine awp_block ?_ | ((first | refine awp_runG [0, 1, 2, 3, 4, 6, 8, 9, 15] hX ?_ | refine awp_drawnG [0, 1, 2, 3, 4, 6, 8, 9, 15] hX mixed ?_ | refine awp_ret ?_ | refine awp_skip ?_ | refine awp_exit ?_); (simp [go_sem]; try (refine ⟨by kernel_rfl, ?_⟩)))))
  refine awp_cond (b := false) (by simp [go_sem]) (fun h => by cases h) (fun _ => ?_)
  (repeat (first | refine awp_seq ?_ | refine awp_block ?_ | ((first | refine awp_runG [0, 1, 2, 3, 4, 6, 8, 9, 15] hX ?_ | refine awp_drawnG [0, 1, 2, 3, 4, 6, 8, 9, 15] hX mixed ?_ | refine awp_ret ?_ | refine awp_skip ?_ | refine awp_exit ?_); (simp [go_sem]; try (refine ⟨by kernel_rfl, ?_⟩)))))
  first | refine callK_intro (New_m p q hp hq h0) rfl (by simp [go_sem]) rfl ?_ | refine callT_intro (New_m p q hp hq h0) rfl (by simp [go_sem]) rfl ?_
  try (simp [go_sem]; try (refine ⟨by kernel_rfl, ?_⟩))
  (repeat (first | refine awp_seq ?_ | refine awp_block ?_ | ((first | refine awp_runG [0, 1, 2, 3, 4, 6, 8, 9, 15] hX ?_ | refine awp_drawnG [0, 1, 2, 3, 4, 6, 8, 9, 15] hX mixed ?_ | refine awp_ret ?_ | refine awp_skip ?_ | refine awp_exit ?_); (simp [go_sem]; try (refine ⟨by kernel_rfl, ?_⟩)))))

set_option maxHeartbeats 4000000 in
set_option maxRecDepth 20000 in
theorem Add_f (a b c d : Int) (hab : rf a b) (hcd : rf c d) : Means false Try.prog 17 [frZ a b, frZ c d] (resF (sumP a d c b ∧ rz (b * d)) (a * d + c * b) (b * d)) := by
  have ha := hab.1
  have hb := hab.2.1
  have hc := hcd.1
  have hd := hcd.2.1
  have hb0 := hab.2.2.1
  have hd0 := hcd.2.2.1
  have hbd : b * d ≠ 0 := Int.mul_ne_zero (by omega) (by omega)
  refine means_fn false 46 [.cell 4 38, .tmp 5] Try.func17 rfl rfl rfl (by simp) (by decide) rfl fun X hX => ?_
  (repeat (first | refine awp_seq ?_ | refine awp_block ?_ | ((first | refine awp_runG [0, 1, 2, 3, 4, 5, 6, 7, 8, 9, 17] hX ?_ | refine awp_drawnG [0, 1, 2, 3, 4, 5, 6, 7, 8, 9, 17] hX mixed ?_ | refine awp_ret ?_ | refine awp_skip ?_ | refine awp_exit ?_); (simp [go_sem]; try (refine ⟨by kernel_rfl, ?_⟩)))))
  first | refine callK_intro (Right_t a b hab) rfl (by simp [go_sem]) rfl ?_ | refine callT_intro (Right_t a b hab) rfl (by simp [go_sem]) rfl ?_
  try (simp [go_sem]; try (refine ⟨by kernel_rfl, ?_⟩))
  first | refine callG_intro (fun hg => Right_t c d hcd) rfl (by simp [go_sem]) rfl ?_ | refine callGT_intro (fun hg => Right_t c d hcd) rfl (by simp [go_sem]) rfl ?_
  try (simp [go_sem]; try (refine ⟨by kernel_rfl, ?_⟩))
  refine awp_cond (b := false) (by simp [go_sem]) (fun h => by cases h) (fun _ => ?_)
  (repeat (first | refine awp_seq ?_ | refine awp_block ?_ | ((first | refine awp_runG [0, 1, 2, 3, 4, 5, 6, 7, 8, 9, 17] hX ?_ | refine awp_drawnG [0, 1, 2, 3, 4, 5, 6, 7, 8, 9, 17] hX mixed ?_ | refine awp_ret ?_ | refine awp_skip ?_ | refine awp_exit ?_); (simp [go_sem]; try (refine ⟨by kernel_rfl, ?_⟩)))))
  by_cases h1 : sumP a d c b
  · by_cases h2 : rz (b * d)
    · rw [resF_t ⟨h1, h2⟩]
      first | refine callK_intro (sum_ok ha hd hc hb h1) rfl (by simp [go_sem]) rfl ?_ | refine callT_intro (sum_ok ha hd hc hb h1) rfl (by simp [go_sem]) rfl ?_
      try (simp [go_sem]; try (refine ⟨by kernel_rfl, ?_⟩))
      (repeat (first | refine awp_seq ?_ | refine awp_block ?_ | ((first | refine awp_runG [0, 1, 2, 3, 4, 5, 6, 7, 8, 9, 17] hX ?_ | refine awp_drawnG [0, 1, 2, 3, 4, 5, 6, 7, 8, 9, 17] hX mixed ?_ | refine awp_ret ?_ | refine awp_skip ?_ | refine awp_exit ?_); (simp [go_sem]; try (refine ⟨by kernel_rfl, ?_⟩)))))
      first | refine callK_intro (Mul_ok hb hd h2 rfl) rfl (by simp [go_sem]) rfl ?_ | refine callT_intro (Mul_ok hb hd h2 rfl) rfl (by simp [go_sem]) rfl ?_
      try (simp [go_sem]; try (refine ⟨by kernel_rfl, ?_⟩))
      (repeat (first | refine awp_seq ?_ | refine awp_block ?_ | ((first | refine awp_runG [0, 1, 2, 3, 4, 5, 6, 7, 8, 9, 17] hX ?_ | refine awp_drawnG [0, 1, 2, 3, 4, 5, 6, 7, 8, 9, 17] hX mixed ?_ | refine awp_ret ?_ | refine awp_skip ?_ | refine awp_exit ?_); (simp [go_sem]; try (refine ⟨by kernel_rfl, ?_⟩)))))
      first | refine callK_intro (quotient_ok _ _ h1.2.2 h2 hbd) rfl (by simp [go_sem]) rfl ?_ | refine callT_intro (quotient_ok _ _ h1.2.2 h2 hbd) rfl (by simp [go_sem]) rfl ?_
      try (simp [go_sem]; try (refine ⟨by kernel_rfl, ?_⟩))
      (repeat (first | refine awp_seq ?_ | refine awp_block ?_ | ((first | refine awp_runG [0, 1, 2, 3, 4, 5, 6, 7, 8, 9, 17] hX ?_ | refine awp_drawnG [0, 1, 2, 3, 4, 5, 6, 7, 8, 9, 17] hX mixed ?_ | refine awp_ret ?_ | refine awp_skip ?_ | refine awp_exit ?_); (simp [go_sem]; try (refine ⟨by kernel_rfl, ?_⟩)))))
    · rw [resF_f fun h => h2 h.2]
      first | refine callK_intro (sum_ok ha hd hc hb h1) rfl (by simp [go_sem]) rfl ?_ | refine callT_intro (sum_ok ha hd hc hb h1) rfl (by simp [go_sem]) rfl ?_
      try (simp [go_sem]; try (refine ⟨by kernel_rfl, ?_⟩))
      (repeat (first | refine awp_seq ?_ | refine awp_block ?_ | ((first | refine awp_runG [0, 1, 2, 3, 4, 5, 6, 7, 8, 9, 17] hX ?_ | refine awp_drawnG [0, 1, 2, 3, 4, 5, 6, 7, 8, 9, 17] hX mixed ?_ | refine awp_ret ?_ | refine awp_skip ?_ | refine awp_exit ?_); (simp [go_sem]; try (refine ⟨by kernel_rfl, ?_⟩)))))
      first | refine callK_intro (Mul_no hb hd h2) rfl (by simp [go_sem]) rfl ?_ | refine callT_intro (Mul_no hb hd h2) rfl (by simp [go_sem]) rfl ?_
      try (simp [go_sem]; try (refine ⟨by kernel_rfl, ?_⟩))
      (repeat (first | refine awp_seq ?_ | refine awp_block ?_ | ((first | refine awp_runG [0, 1, 2, 3, 4, 5, 6, 7, 8, 9, 17] hX ?_ | refine awp_drawnG [0, 1, 2, 3, 4, 5, 6, 7, 8, 9, 17] hX mixed ?_ | refine awp_ret ?_ | refine awp_skip ?_ | refine awp_exit ?_); (simp [go_sem]; try (refine ⟨by kernel_rfl, ?_⟩)))))
      first | refine callK_intro (quotient_no (a * d + c * b) 0 0 6 (by decide)) rfl (by simp [go_sem]) rfl ?_ | refine callT_intro (quotient_no (a * d + c * b) 0 0 6 (by decide)) rfl (by simp [go_sem]) rfl ?_
      try (simp [go_sem]; try (refine ⟨by kernel_rfl, ?_⟩))
      (repeat (first | refine awp_seq ?_ | refine awp_block ?_ | ((first | refine awp_runG [0, 1, 2, 3, 4, 5, 6, 7, 8, 9, 17] hX ?_ | refine awp_drawnG [0, 1, 2, 3, 4, 5, 6, 7, 8, 9, 17] hX mixed ?_ | refine awp_ret ?_ | refine awp_skip ?_ | refine awp_exit ?_); (simp [go_sem]; try (refine ⟨by kernel_rfl, ?_⟩)))))
  · rw [resF_f fun h => h1 h.1]
    first | refine callK_intro (sum_no ha hd hc hb h1) rfl (by simp [go_sem]) rfl ?_ | refine callT_intro (sum_no ha hd hc hb h1) rfl (by simp [go_sem]) rfl ?_
    try (simp [go_sem]; try (refine ⟨by kernel_rfl, ?_⟩))
    (repeat (first | refine awp_seq ?_ | refine awp_block ?_ | ((first | refine awp_runG [0, 1, 2, 3, 4, 5, 6, 7, 8, 9, 17] hX ?_ | refine awp_drawnG [0, 1, 2, 3, 4, 5, 6, 7, 8, 9, 17] hX mixed ?_ | refine awp_ret ?_ | refine awp_skip ?_ | refine awp_exit ?_); (simp [go_sem]; try (refine ⟨by kernel_rfl, ?_⟩)))))
    by_cases h2 : rz (b * d)
    · first | refine callK_intro (Mul_ok hb hd h2 rfl) rfl (by simp [go_sem]) rfl ?_ | refine callT_intro (Mul_ok hb hd h2 rfl) rfl (by simp [go_sem]) rfl ?_
      try (simp [go_sem]; try (refine ⟨by kernel_rfl, ?_⟩))
      (repeat (first | refine awp_seq ?_ | refine awp_block ?_ | ((first | refine awp_runG [0, 1, 2, 3, 4, 5, 6, 7, 8, 9, 17] hX ?_ | refine awp_drawnG [0, 1, 2, 3, 4, 5, 6, 7, 8, 9, 17] hX mixed ?_ | refine awp_ret ?_ | refine awp_skip ?_ | refine awp_exit ?_); (simp [go_sem]; try (refine ⟨by kernel_rfl, ?_⟩)))))
      first | refine callK_intro (quotient_no 0 (b * d) 6 0 (by decide)) rfl (by simp [go_sem]) rfl ?_ | refine callT_intro (quotient_no 0 (b * d) 6 0 (by decide)) rfl (by simp [go_sem]) rfl ?_
      try (simp [go_sem]; try (refine ⟨by kernel_rfl, ?_⟩))
      (repeat (first | refine awp_seq ?_ | refine awp_block ?_ | ((first | refine awp_runG [0, 1, 2, 3, 4, 5, 6, 7, 8, 9, 17] hX ?_ | refine awp_drawnG [0, 1, 2, 3, 4, 5, 6, 7, 8, 9, 17] hX mixed ?_ | refine awp_ret ?_ | refine awp_skip ?_ | refine awp_exit ?_); (simp [go_sem]; try (refine ⟨by kernel_rfl, ?_⟩)))))
    · first | refine callK_intro (Mul_no hb hd h2) rfl (by simp [go_sem]) rfl ?_ | refine callT_intro (Mul_no hb hd h2) rfl (by simp [go_sem]) rfl ?_
      try (simp [go_sem]; try (refine ⟨by kernel_rfl, ?_⟩))
      (repeat (first | refine awp_seq ?_ | refine awp_block ?_ | ((first | refine awp_runG [0, 1, 2, 3, 4, 5, 6, 7, 8, 9, 17] hX ?_ | refine awp_drawnG [0, 1, 2, 3, 4, 5, 6, 7, 8, 9, 17] hX mixed ?_ | refine awp_ret ?_ | refine awp_skip ?_ | refine awp_exit ?_); (simp [go_sem]; try (refine ⟨by kernel_rfl, ?_⟩)))))
      first | refine callK_intro (quotient_no 0 0 6 6 (by decide)) rfl (by simp [go_sem]) rfl ?_ | refine callT_intro (quotient_no 0 0 6 6 (by decide)) rfl (by simp [go_sem]) rfl ?_
      try (simp [go_sem]; try (refine ⟨by kernel_rfl, ?_⟩))
      (repeat (first | refine awp_seq ?_ | refine awp_block ?_ | ((first | refine awp_runG [0, 1, 2, 3, 4, 5, 6, 7, 8, 9, 17] hX ?_ | refine awp_drawnG [0, 1, 2, 3, 4, 5, 6, 7, 8, 9, 17] hX mixed ?_ | refine awp_ret ?_ | refine awp_skip ?_ | refine awp_exit ?_); (simp [go_sem]; try (refine ⟨by kernel_rfl, ?_⟩)))))

set_option maxHeartbeats 4000000 in
set_option maxRecDepth 20000 in
theorem Mul_f (a b c d : Int) (hab : rf a b) (hcd : rf c d) : Means false Try.prog 18 [frZ a b, frZ c d] (resF (rz (a * c) ∧ rz (b * d)) (a * c) (b * d)) := by
  have ha := hab.1
  have hb := hab.2.1
  have hc := hcd.1
  have hd := hcd.2.1
  have hb0 := hab.2.2.1
  have hd0 := hcd.2.2.1
  have hbd : b * d ≠ 0 := Int.mul_ne_zero (by omega) (by omega)
  refine means_fn false 42 [.cell 4 38, .tmp 5] Try.func18 rfl rfl rfl (by simp) (by decide) rfl fun X hX => ?_
  (repeat (first | refine awp_seq ?_ | refine awp_block ?_ | ((first | refine awp_runG [0, 1, 2, 3, 4, 5, 6, 7, 8, 9, 17] hX ?_ | refine awp_drawnG [0, 1, 2, 3, 4, 5, 6, 7, 8, 9, 17] hX mixed ?_ | refine awp_ret ?_ | refine awp_skip ?_ | refine awp_exit ?_); (simp [go_sem]; try (refine ⟨by kernel_rfl, ?_⟩)))))
  first | refine callK_intro (Right_t a b hab) rfl (by simp [go_sem]) rfl ?_ | refine callT_intro (Right_t a b hab) rfl (by simp [go_sem]) rfl ?_
  try (simp [go_sem]; try (refine ⟨by kernel_rfl, ?_⟩))
  first | refine callG_intro (fun hg => Right_t c d hcd) rfl (by simp [go_sem]) rfl ?_ | refine callGT_intro (fun hg => Right_t c d hcd) rfl (by simp [go_sem]) rfl ?_
  try (simp [go_sem]; try (refine ⟨by kernel_rfl, ?_⟩))
  refine awp_cond (b := false) (by simp [go_sem]) (fun h => by cases h) (fun _ => ?_)
  (repeat (first | refine awp_seq ?_ | refine awp_block ?_ | ((first | refine awp_runG [0, 1, 2, 3, 4, 5, 6, 7, 8, 9, 17] hX ?_ | refine awp_drawnG [0, 1, 2, 3, 4, 5, 6, 7, 8, 9, 17] hX mixed ?_ | refine awp_ret ?_ | refine awp_skip ?_ | refine awp_exit ?_); (simp [go_sem]; try (refine ⟨by kernel_rfl, ?_⟩)))))
  by_cases h1 : rz (a * c)
  · by_cases h2 : rz (b * d)
    · rw [resF_t ⟨h1, h2⟩]
      first | refine callK_intro (Mul_ok ha hc h1 rfl) rfl (by simp [go_sem]) rfl ?_ | refine callT_intro (Mul_ok ha hc h1 rfl) rfl (by simp [go_sem]) rfl ?_
      try (simp [go_sem]; try (refine ⟨by kernel_rfl, ?_⟩))
      (repeat (first | refine awp_seq ?_ | refine awp_block ?_ | ((first | refine awp_runG [0, 1, 2, 3, 4, 5, 6, 7, 8, 9, 17] hX ?_ | refine awp_drawnG [0, 1, 2, 3, 4, 5, 6, 7, 8, 9, 17] hX mixed ?_ | refine awp_ret ?_ | refine awp_skip ?_ | refine awp_exit ?_); (simp [go_sem]; try (refine ⟨by kernel_rfl, ?_⟩)))))
      first | refine callK_intro (Mul_ok hb hd h2 rfl) rfl (by simp [go_sem]) rfl ?_ | refine callT_intro (Mul_ok hb hd h2 rfl) rfl (by simp [go_sem]) rfl ?_
      try (simp [go_sem]; try (refine ⟨by kernel_rfl, ?_⟩))
      (repeat (first | refine awp_seq ?_ | refine awp_block ?_ | ((first | refine awp_runG [0, 1, 2, 3, 4, 5, 6, 7, 8, 9, 17] hX ?_ | refine awp_drawnG [0, 1, 2, 3, 4, 5, 6, 7, 8, 9, 17] hX mixed ?_ | refine awp_ret ?_ | refine awp_skip ?_ | refine awp_exit ?_); (simp [go_sem]; try (refine ⟨by kernel_rfl, ?_⟩)))))
      first | refine callK_intro (quotient_ok _ _ h1 h2 hbd) rfl (by simp [go_sem]) rfl ?_ | refine callT_intro (quotient_ok _ _ h1 h2 hbd) rfl (by simp [go_sem]) rfl ?_
      try (simp [go_sem]; try (refine ⟨by kernel_rfl, ?_⟩))
      (repeat (first | refine awp_seq ?_ | refine awp_block ?_ | ((first | refine awp_runG [0, 1, 2, 3, 4, 5, 6, 7, 8, 9, 17] hX ?_ | refine awp_drawnG [0, 1, 2, 3, 4, 5, 6, 7, 8, 9, 17] hX mixed ?_ | refine awp_ret ?_ | refine awp_skip ?_ | refine awp_exit ?_); (simp [go_sem]; try (refine ⟨by kernel_rfl, ?_⟩)))))
    · rw [resF_f fun h => h2 h.2]
      first | refine callK_intro (Mul_ok ha hc h1 rfl) rfl (by simp [go_sem]) rfl ?_ | refine callT_intro (Mul_ok ha hc h1 rfl) rfl (by simp [go_sem]) rfl ?_
      try (simp [go_sem]; try (refine ⟨by kernel_rfl, ?_⟩))
      (repeat (first | refine awp_seq ?_ | refine awp_block ?_ | ((first | refine awp_runG [0, 1, 2, 3, 4, 5, 6, 7, 8, 9, 17] hX ?_ | refine awp_drawnG [0, 1, 2, 3, 4, 5, 6, 7, 8, 9, 17] hX mixed ?_ | refine awp_ret ?_ | refine awp_skip ?_ | refine awp_exit ?_); (simp [go_sem]; try (refine ⟨by kernel_rfl, ?_⟩)))))
      first | refine callK_intro (Mul_no hb hd h2) rfl (by simp [go_sem]) rfl ?_ | refine callT_intro (Mul_no hb hd h2) rfl (by simp [go_sem]) rfl ?_
      try (simp [go_sem]; try (refine ⟨by kernel_rfl, ?_⟩))
      (repeat (first | refine awp_seq ?_ | refine awp_block ?_ | ((first | refine awp_runG [0, 1, 2, 3, 4, 5, 6, 7, 8, 9, 17] hX ?_ | refine awp_drawnG [0, 1, 2, 3, 4, 5, 6, 7, 8, 9, 17] hX mixed ?_ | refine awp_ret ?_ | refine awp_skip ?_ | refine awp_exit ?_); (simp [go_sem]; try (refine ⟨by kernel_rfl, ?_⟩)))))
      first | refine callK_intro (quotient_no (a * c) 0 0 6 (by decide)) rfl (by simp [go_sem]) rfl ?_ | refine callT_intro (quotient_no (a * c) 0 0 6 (by decide)) rfl (by simp [go_sem]) rfl ?_
      try (simp [go_sem]; try (refine ⟨by kernel_rfl, ?_⟩))
      (repeat (first | refine awp_seq ?_ | refine awp_block ?_ | ((first | refine awp_runG [0, 1, 2, 3, 4, 5, 6, 7, 8, 9, 17] hX ?_ | refine awp_drawnG [0, 1, 2, 3, 4, 5, 6, 7, 8, 9, 17] hX mixed ?_ | refine awp_ret ?_ | refine awp_skip ?_ | refine awp_exit ?_); (simp [go_sem]; try (refine ⟨by kernel_rfl, ?_⟩)))))
  · rw [resF_f fun h => h1 h.1]
    first | refine callK_intro (Mul_no ha hc h1) rfl (by simp [go_sem]) rfl ?_ | refine callT_intro (Mul_no ha hc h1) rfl (by simp [go_sem]) rfl ?_
    try (simp [go_sem]; try (refine ⟨by kernel_rfl, ?_⟩))
    (repeat (first | refine awp_seq ?_ | refine awp_block ?_ | ((first | refine awp_runG [0, 1, 2, 3, 4, 5, 6, 7, 8, 9, 17] hX ?_ | refine awp_drawnG [0, 1, 2, 3, 4, 5, 6, 7, 8, 9, 17] hX mixed ?_ | refine awp_ret ?_ | refine awp_skip ?_ | refine awp_exit ?_); (simp [go_sem]; try (refine ⟨by kernel_rfl, ?_⟩)))))
    by_cases h2 : rz (b * d)
    · first | refine callK_intro (Mul_ok hb hd h2 rfl) rfl (by simp [go_sem]) rfl ?_ | refine callT_intro (Mul_ok hb hd h2 rfl) rfl (by simp [go_sem]) rfl ?_
      try (simp [go_sem]; try (refine ⟨by kernel_rfl, ?_⟩))
      (repeat (first | refine awp_seq ?_ | refine awp_block ?_ | ((first | refine awp_runG [0, 1, 2, 3, 4, 5, 6, 7, 8, 9, 17] hX ?_ | refine awp_drawnG [0, 1, 2, 3, 4, 5, 6, 7, 8, 9, 17] hX mixed ?_ | refine awp_ret ?_ | refine awp_skip ?_ | refine awp_exit ?_); (simp [go_sem]; try (refine ⟨by kernel_rfl, ?_⟩)))))
      first | refine callK_intro (quotient_no 0 (b * d) 6 0 (by decide)) rfl (by simp [go_sem]) rfl ?_ | refine callT_intro (quotient_no 0 (b * d) 6 0 (by decide)) rfl (by simp [go_sem]) rfl ?_
      try (simp [go_sem]; try (refine ⟨by kernel_rfl, ?_⟩))
      (repeat (first | refine awp_seq ?_ | refine awp_block ?_ | ((first | refine awp_runG [0, 1, 2, 3, 4, 5, 6, 7, 8, 9, 17] hX ?_ | refine awp_drawnG [0, 1, 2, 3, 4, 5, 6, 7, 8, 9, 17] hX mixed ?_ | refine awp_ret ?_ | refine awp_skip ?_ | refine awp_exit ?_); (simp [go_sem]; try (refine ⟨by kernel_rfl, ?_⟩)))))
    · first | refine callK_intro (Mul_no hb hd h2) rfl (by simp [go_sem]) rfl ?_ | refine callT_intro (Mul_no hb hd h2) rfl (by simp [go_sem]) rfl ?_
      try (simp [go_sem]; try (refine ⟨by kernel_rfl, ?_⟩))
      (repeat (first | refine awp_seq ?_ | refine awp_block ?_ | ((first | refine awp_runG [0, 1, 2, 3, 4, 5, 6, 7, 8, 9, 17] hX ?_ | refine awp_drawnG [0, 1, 2, 3, 4, 5, 6, 7, 8, 9, 17] hX mixed ?_ | refine awp_ret ?_ | refine awp_skip ?_ | refine awp_exit ?_); (simp [go_sem]; try (refine ⟨by kernel_rfl, ?_⟩)))))
      first | refine callK_intro (quotient_no 0 0 6 6 (by decide)) rfl (by simp [go_sem]) rfl ?_ | refine callT_intro (quotient_no 0 0 6 6 (by decide)) rfl (by simp [go_sem]) rfl ?_
      try (simp [go_sem]; try (refine ⟨by kernel_rfl, ?_⟩))
      (repeat (first | refine awp_seq ?_ | refine awp_block ?_ | ((first | refine awp_runG [0, 1, 2, 3, 4, 5, 6, 7, 8, 9, 17] hX ?_ | refine awp_drawnG [0, 1, 2, 3, 4, 5, 6, 7, 8, 9, 17] hX mixed ?_ | refine awp_ret ?_ | refine awp_skip ?_ | refine awp_exit ?_); (simp [go_sem]; try (refine ⟨by kernel_rfl, ?_⟩)))))

theorem rf_neg {p q : Int} (h : rf p q) : rf (-p) q := ⟨rz_neg h.1, h.2.1, h.2.2.1, by rw [Int.neg_gcd]; exact h.2.2.2⟩
set_option maxHeartbeats 4000000 in
theorem Sub_f (a b c d : Int) (hab : rf a b) (hcd : rf c d) : Means false Try.prog 33 [frZ a b, frZ c d] (resF (sumP a d (-c) b ∧ rz (b * d)) (a * d + -c * b) (b * d)) := by
  have hA := Add_f a b (-c) d hab (rf_neg hcd)
  by_cases h : sumP a d (-c) b ∧ rz (b * d)
  · rw [resF_t h] at hA ⊢
    refine means_fn false 25 [.cell 4 38, .tmp 5] Try.func33 rfl rfl rfl (by simp) (by decide) rfl fun X hX => ?_
    (repeat (first | refine awp_seq ?_ | refine awp_block ?_ | ((first | refine awp_runG [0, 1, 2, 3, 4, 5, 13] hX ?_ | refine awp_drawnG [0, 1, 2, 3, 4, 5, 13] hX mixed ?_ | refine awp_ret ?_ | refine awp_skip ?_ | refine awp_exit ?_); (simp [go_sem]; try (refine ⟨by kernel_rfl, ?_⟩)))))
    first | refine callK_intro (Right_t a b hab) rfl (by simp [go_sem]) rfl ?_ | refine callT_intro (Right_t a b hab) rfl (by simp [go_sem]) rfl ?_
    try (simp [go_sem]; try (refine ⟨by kernel_rfl, ?_⟩))
    first | refine callG_intro (fun hg => Right_t c d hcd) rfl (by simp [go_sem]) rfl ?_ | refine callGT_intro (fun hg => Right_t c d hcd) rfl (by simp [go_sem]) rfl ?_
    try (simp [go_sem]; try (refine ⟨by kernel_rfl, ?_⟩))
    refine awp_cond (b := false) (by simp [go_sem]) (fun h => by cases h) (fun _ => ?_)
    (repeat (first | refine awp_seq ?_ | refine awp_block ?_ | ((first | refine awp_runG [0, 1, 2, 3, 4, 5, 13] hX ?_ | refine awp_drawnG [0, 1, 2, 3, 4, 5, 13] hX mixed ?_ | refine awp_ret ?_ | refine awp_skip ?_ | refine awp_exit ?_); (simp [go_sem]; try (refine ⟨by kernel_rfl, ?_⟩)))))
    first | refine callK_intro (Neg_m c hcd.1) rfl (by simp [go_sem]) rfl ?_ | refine callT_intro (Neg_m c hcd.1) rfl (by simp [go_sem]) rfl ?_
    try (simp [go_sem]; try (refine ⟨by kernel_rfl, ?_⟩))
    first | refine callK_intro (hA) rfl (by simp [go_sem]) rfl ?_ | refine callT_intro (hA) rfl (by simp [go_sem]) rfl ?_
    try (simp [go_sem]; try (refine ⟨by kernel_rfl, ?_⟩))
    (repeat (first | refine awp_seq ?_ | refine awp_block ?_ | ((first | refine awp_runG [0, 1, 2, 3, 4, 5, 13] hX ?_ | refine awp_drawnG [0, 1, 2, 3, 4, 5, 13] hX mixed ?_ | refine awp_ret ?_ | refine awp_skip ?_ | refine awp_exit ?_); (simp [go_sem]; try (refine ⟨by kernel_rfl, ?_⟩)))))
  · rw [resF_f h] at hA ⊢
    refine means_fn false 25 [.cell 4 38, .tmp 5] Try.func33 rfl rfl rfl (by simp) (by decide) rfl fun X hX => ?_
    (repeat (first | refine awp_seq ?_ | refine awp_block ?_ | ((first | refine awp_runG [0, 1, 2, 3, 4, 5, 13] hX ?_ | refine awp_drawnG [0, 1, 2, 3, 4, 5, 13] hX mixed ?_ | refine awp_ret ?_ | refine awp_skip ?_ | refine awp_exit ?_); (simp [go_sem]; try (refine ⟨by kernel_rfl, ?_⟩)))))
    first | refine callK_intro (Right_t a b hab) rfl (by simp [go_sem]) rfl ?_ | refine callT_intro (Right_t a b hab) rfl (by simp [go_sem]) rfl ?_
    try (simp [go_sem]; try (refine ⟨by kernel_rfl, ?_⟩))
    first | refine callG_intro (fun hg => Right_t c d hcd) rfl (by simp [go_sem]) rfl ?_ | refine callGT_intro (fun hg => Right_t c d hcd) rfl (by simp [go_sem]) rfl ?_
    try (simp [go_sem]; try (refine ⟨by kernel_rfl, ?_⟩))
    refine awp_cond (b := false) (by simp [go_sem]) (fun h => by cases h) (fun _ => ?_)
    (repeat (first | refine awp_seq ?_ | refine awp_block ?_ | ((first | refine awp_runG [0, 1, 2, 3, 4, 5, 13] hX ?_ | refine awp_drawnG [0, 1, 2, 3, 4, 5, 13] hX mixed ?_ | refine awp_ret ?_ | refine awp_skip ?_ | refine awp_exit ?_); (simp [go_sem]; try (refine ⟨by kernel_rfl, ?_⟩)))))
    first | refine callK_intro (Neg_m c hcd.1) rfl (by simp [go_sem]) rfl ?_ | refine callT_intro (Neg_m c hcd.1) rfl (by simp [go_sem]) rfl ?_
    try (simp [go_sem]; try (refine ⟨by kernel_rfl, ?_⟩))
    first | refine callK_intro (hA) rfl (by simp [go_sem]) rfl ?_ | refine callT_intro (hA) rfl (by simp [go_sem]) rfl ?_
    try (simp [go_sem]; try (refine ⟨by kernel_rfl, ?_⟩))
    (repeat (first | refine awp_seq ?_ | refine awp_block ?_ | ((first | refine awp_runG [0, 1, 2, 3, 4, 5, 13] hX ?_ | refine awp_drawnG [0, 1, 2, 3, 4, 5, 13] hX mixed ?_ | refine awp_ret ?_ | refine awp_skip ?_ | refine awp_exit ?_); (simp [go_sem]; try (refine ⟨by kernel_rfl, ?_⟩)))))

end Go.Proofs.Ytlcmmaokfbjojaa
