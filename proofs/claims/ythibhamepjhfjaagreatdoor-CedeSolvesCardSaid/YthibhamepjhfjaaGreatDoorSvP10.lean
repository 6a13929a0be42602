/-
  Lemmas for the statement at the top.
-/
import Derived.Test.YthibhamepjhfjaaGreatDoorSvP9
import Derived.Shelf.Strings.Builder1
import Derived.Shelf.Strings.Builder2
import Derived.Shelf.Strings.OnBuilder
import Derived.Shelf.Small.Wraps
import Derived.Shelf.Strings.BuilderF
import Derived.Shelf.Strconv.Itoa0
import Derived.Shelf.Strconv.Itoa1
import Derived.Shelf.LaysM
import Derived.Shelf.Strconv.Itoa2
import Derived.Shelf.Strconv.Itoa3
import Derived.Shelf.Strings.Prefix
import Derived.Shelf.Bits.Mul64
import Derived.Shelf.Strings.Repeat
import Derived.Ground.Names2Prog
import Derived.Shelf.Slices.ReverseS
import Derived.Shelf.Slices.Clone
import Derived.Shelf.Slices.Cells
import Derived.Test.YthibhamepjhfjaaGreatDoorProg
import Derived.Test.YthibhamepjhfjaaGreatDoorSvFw5
import Derived.Shelf.Strings.SlTrimAscii
import Derived.Lib.QuietBelow
set_option linter.all false
namespace Go.Proofs.YthibhamepjhfjaaGreatDoor
open Go.RowKit Go.Ab
attribute [local irreducible] AWP Go.Ab.Sub Means MeansH CallK CallG CallT CallGT
@[go_sem] theorem c_sg0 : sg 0 = 0 := rfl
@[go_sem] theorem c_dg0 : dg (ab 0) = [] := rfl
abbrev frac4 (s1 : Int) (L1 : List Int) (s2 : Int) (L2 : List Int) : AV := .agg [ii s1, il L1, ii s2, il L2]
abbrev frZ (p q : Int) : AV := frac4 (sg p) (dg (ab p)) (sg q) (dg (ab q))
def zv (s : Int) (L : List Int) : Int := s * val L
theorem zv_bigZ (z : Int) : zv (sg z) (dg (ab z)) = z := by unfold zv; rw [val_ab, sg_ab]
theorem zv_of {s : Int} {L : List Int} (h : isR s L) : rz (zv s L) ∧ s = sg (zv s L) ∧ L = dg (ab (zv s L)) := by
  obtain ⟨z, hz, rfl, rfl⟩ := isR_to h
  rw [zv_bigZ]; exact ⟨hz, rfl, rfl⟩
def isF (s1 : Int) (L1 : List Int) (s2 : Int) (L2 : List Int) : Prop := isR s1 L1 ∧ isR s2 L2 ∧ rf (zv s1 L1) (zv s2 L2)
noncomputable instance (s1 : Int) (L1 : List Int) (s2 : Int) (L2 : List Int) : Decidable (isF s1 L1 s2 L2) := Classical.propDecidable _
theorem isF_of {p q : Int} (h : rf p q) : isF (sg p) (dg (ab p)) (sg q) (dg (ab q)) := ⟨isR_of h.1, isR_of h.2.1, by rw [zv_bigZ, zv_bigZ]; exact h⟩
theorem isF_to {s1 s2 : Int} {L1 L2 : List Int} (h : isF s1 L1 s2 L2) : ∃ p q, rf p q ∧ s1 = sg p ∧ L1 = dg (ab p) ∧ s2 = sg q ∧ L2 = dg (ab q) := by
  obtain ⟨h1, h2, h3⟩ := h
  obtain ⟨_, a1, a2⟩ := zv_of h1
  obtain ⟨_, b1, b2⟩ := zv_of h2
  exact ⟨_, _, h3, a1, a2, b1, b2⟩
theorem one_m (z : Int) (hz : rz z) : Means false Tryz.prog 75 [bigZ z] (bb (decide (z = 1))) := by
  refine means_fn false 15 [.tmp 2] Tryz.func75 rfl rfl rfl (by simp) (by decide) rfl fun X hX => ?_
  (repeat (first | refine awp_seq ?_ | refine awp_block ?_ | ((first | refine awp_runG [0, 1, 2, 3, 4] hX ?_ | refine awp_drawnG [0, 1, 2, 3, 4] hX mixed ?_ | refine awp_ret ?_ | refine awp_skip ?_ | refine awp_exit ?_); (simp [go_sem]; try (refine ⟨by kernel_rfl, ?_⟩)))))
  first | refine callK_intro (Int_m z hz) rfl (by simp [go_sem]) rfl ?_ | refine callT_intro (Int_m z hz) rfl (by simp [go_sem]) rfl ?_
  try (simp [go_sem]; try (refine ⟨by kernel_rfl, ?_⟩))
  by_cases h : inI z = true
  · (repeat (first | refine awp_seq ?_ | refine awp_block ?_ | ((first | refine awp_runG [0, 1, 2, 3, 4] hX ?_ | refine awp_drawnG [0, 1, 2, 3, 4] hX mixed ?_ | refine awp_ret ?_ | refine awp_skip ?_ | refine awp_exit ?_); (simp [go_sem, h]; try (refine ⟨by kernel_rfl, ?_⟩)))))
  · have h1 : ¬ z = 1 := by
      rintro rfl
      exact h (by decide)
    have hf : inI z = false := by simpa using h
    (repeat (first | refine awp_seq ?_ | refine awp_block ?_ | ((first | refine awp_runG [0, 1, 2, 3, 4] hX ?_ | refine awp_drawnG [0, 1, 2, 3, 4] hX mixed ?_ | refine awp_ret ?_ | refine awp_skip ?_ | refine awp_exit ?_); (simp [go_sem, hf, h1]; try (refine ⟨by kernel_rfl, ?_⟩)))))
set_option maxHeartbeats 4000000 in
set_option maxRecDepth 20000 in
theorem Right_f (s1 : Int) (L1 : List Int) (l1 : L1.length ≤ 9223372036854775807) (s2 : Int) (L2 : List Int) (l2 : L2.length ≤ 9223372036854775807) : Means false Tryz.prog 41 [frac4 s1 L1 s2 L2] (bb (decide (isF s1 L1 s2 L2))) := by
  refine means_fn false 35 [.tmp 2] Tryz.func41 rfl rfl rfl (by simp) (by decide) rfl fun X hX => ?_
  (repeat (first | refine awp_seq ?_ | refine awp_block ?_ | ((first | refine awp_runG [0, 1, 2, 3, 4, 20] hX ?_ | refine awp_drawnG [0, 1, 2, 3, 4, 20] hX mixed ?_ | refine awp_ret ?_ | refine awp_skip ?_ | refine awp_exit ?_); (simp [go_sem]; try (refine ⟨by kernel_rfl, ?_⟩)))))
  first | refine callK_intro (right_m s1 L1 l1) rfl (by simp [go_sem]) rfl ?_ | refine callT_intro (right_m s1 L1 l1) rfl (by simp [go_sem]) rfl ?_
  try (simp [go_sem]; try (refine ⟨by kernel_rfl, ?_⟩))
  first | refine callG_intro (fun hg => right_m s2 L2 l2) rfl (by simp [go_sem]) rfl ?_ | refine callGT_intro (fun hg => right_m s2 L2 l2) rfl (by simp [go_sem]) rfl ?_
  try (simp [go_sem]; try (refine ⟨by kernel_rfl, ?_⟩))
  by_cases h : isR s1 L1 ∧ isR s2 L2 ∧ s2 = 1
  · obtain ⟨h1, h2, h3⟩ := h
    obtain ⟨p, hp, rfl, rfl⟩ := isR_to h1
    obtain ⟨q, hq, rfl, rfl⟩ := isR_to h2
    have hq0 : 0 < q := by rcases sg_cases q with h | h | h <;> omega
    have e : isF (sg p) (dg (ab p)) (sg q) (dg (ab q)) ↔ (Int.gcd p q : Int) = 1 := by
      unfold isF rf
      rw [zv_bigZ, zv_bigZ]
      constructor
      · rintro ⟨_, _, _, _, _, h⟩; omega
      · intro h; exact ⟨h1, h2, hp, hq, hq0, by omega⟩
    have zg : rz (Int.gcd p q : Int) := by
      unfold rz at *
      have := gcd_bd hp hq
      exact this
    have h2' : isR 1 (dg (ab q)) := by rw [← h3]; exact h2
    refine awp_cond (b := false) (by simp [go_sem, h1, h2, h2', h3]) (fun h => by cases h) (fun _ => ?_)
    (repeat (first | refine awp_seq ?_ | refine awp_block ?_ | ((first | refine awp_runG [0, 1, 2, 3, 4, 20] hX ?_ | refine awp_drawnG [0, 1, 2, 3, 4, 20] hX mixed ?_ | refine awp_ret ?_ | refine awp_skip ?_ | refine awp_exit ?_); (simp [go_sem]; try (refine ⟨by kernel_rfl, ?_⟩)))))
    first | refine callK_intro (Gcd_m p q hp hq) rfl (by simp [go_sem]) rfl ?_ | refine callT_intro (Gcd_m p q hp hq) rfl (by simp [go_sem]) rfl ?_
    try (simp [go_sem]; try (refine ⟨by kernel_rfl, ?_⟩))
    (repeat (first | refine awp_seq ?_ | refine awp_block ?_ | ((first | refine awp_runG [0, 1, 2, 3, 4, 20] hX ?_ | refine awp_drawnG [0, 1, 2, 3, 4, 20] hX mixed ?_ | refine awp_ret ?_ | refine awp_skip ?_ | refine awp_exit ?_); (simp [go_sem]; try (refine ⟨by kernel_rfl, ?_⟩)))))
    first | refine callG_intro (fun hg => one_m _ zg) rfl (by simp [go_sem]) rfl ?_ | refine callGT_intro (fun hg => one_m _ zg) rfl (by simp [go_sem]) rfl ?_
    try (simp [go_sem]; try (refine ⟨by kernel_rfl, ?_⟩))
    (repeat (first | refine awp_seq ?_ | refine awp_block ?_ | ((first | refine awp_runG [0, 1, 2, 3, 4, 20] hX ?_ | refine awp_drawnG [0, 1, 2, 3, 4, 20] hX mixed ?_ | refine awp_ret ?_ | refine awp_skip ?_ | refine awp_exit ?_); (simp [go_sem, e]; try (refine ⟨by kernel_rfl, ?_⟩)))))
  · have e : ¬ isF s1 L1 s2 L2 := fun hf => h ⟨hf.1, hf.2.1, by
      obtain ⟨p, q, hr, _, _, rfl, _⟩ := isF_to hf
      have := hr.2.2.1
      rcases sg_cases q with h | h | h <;> omega⟩
    refine awp_cond (b := true) (by simp [go_sem]; grind) (fun _ => ?_) (fun h => by cases h)
    (repeat (first | refine awp_seq ?_ | refine awp_block ?_ | ((first | refine awp_runG [0, 1, 2, 3, 4, 20] hX ?_ | refine awp_drawnG [0, 1, 2, 3, 4, 20] hX mixed ?_ | refine awp_ret ?_ | refine awp_skip ?_ | refine awp_exit ?_); (simp [go_sem, e]; try (refine ⟨by kernel_rfl, ?_⟩)))))
theorem Right_t (p q : Int) (h : rf p q) : Means false Tryz.prog 41 [frZ p q] (bb true) := by
  have := Right_f (sg p) (dg (ab p)) (by have := len60 h.1; omega) (sg q) (dg (ab q)) (by have := len60 h.2.1; omega)
  rwa [decide_eq_true (isF_of h)] at this
theorem np_dq {p q p' : Int} (_hq : q ≠ 0) (h : p' = sg q * p) (hg : 0 < (Int.gcd p q : Int)) : dq p' (Int.gcd p q : Int) = np p q := by
  unfold dq np
  have e1 : sg (Int.gcd p q : Int) = 1 := by rcases sg_cases (Int.gcd p q : Int) with h | h | h <;> omega
  have e2 : ab (Int.gcd p q : Int) = (Int.gcd p q : Int) := by unfold ab; rw [if_neg (by omega)]
  rw [e1, e2, Int.one_mul, h]
theorem nq_dq {p q q' : Int} (h : q' = ab q) (hg : 0 < (Int.gcd p q : Int)) : dq q' (Int.gcd p q : Int) = nq p q := by
  unfold dq nq
  have e1 : sg (Int.gcd p q : Int) = 1 := by rcases sg_cases (Int.gcd p q : Int) with h | h | h <;> omega
  have e2 : ab (Int.gcd p q : Int) = (Int.gcd p q : Int) := by unfold ab; rw [if_neg (by omega)]
  rw [e1, e2, Int.one_mul, h]
set_option maxHeartbeats 4000000 in
set_option maxRecDepth 20000 in
theorem New_m (p q : Int) (hp : rz p) (hq : rz q) (h0 : q ≠ 0) : Means false Tryz.prog 25 [bigZ p, bigZ q] (.tup [frZ (np p q) (nq p q), ii 0]) := by
  have hs0 : ¬ sg q = 0 := by rcases sg_cases q with h | h | h <;> omega
  have hgp := gcd_pos (p := p) h0
  have hg0 : (Int.gcd p q : Int) ≠ 0 := by omega
  have zg : rz (Int.gcd p q : Int) := gcd_bd hp hq
  have znp := rz_neg hp
  have znq := rz_neg hq
  refine means_fn false 60 [.cell 4 41, .tmp 5] Tryz.func25 rfl rfl rfl (by simp) (by decide) rfl fun X hX => ?_
  (repeat (first | refine awp_seq ?_ | refine awp_block ?_ | ((first | refine awp_runG [0, 1, 2, 3, 4, 5, 6, 8, 11, 14, 24, 29] hX ?_ | refine awp_drawnG [0, 1, 2, 3, 4, 5, 6, 8, 11, 14, 24, 29] hX mixed ?_ | refine awp_ret ?_ | refine awp_skip ?_ | refine awp_exit ?_); (simp [go_sem]; try (refine ⟨by kernel_rfl, ?_⟩)))))
  first | refine callK_intro (right_t p hp) rfl (by simp [go_sem]) rfl ?_ | refine callT_intro (right_t p hp) rfl (by simp [go_sem]) rfl ?_
  try (simp [go_sem]; try (refine ⟨by kernel_rfl, ?_⟩))
  first | refine callG_intro (fun hg => right_t q hq) rfl (by simp [go_sem]) rfl ?_ | refine callGT_intro (fun hg => right_t q hq) rfl (by simp [go_sem]) rfl ?_
  try (simp [go_sem]; try (refine ⟨by kernel_rfl, ?_⟩))
  refine awp_cond (b := false) (by simp [go_sem]) (fun h => by cases h) (fun _ => ?_)
  (repeat (first | refine awp_seq ?_ | refine awp_block ?_ | ((first | refine awp_runG [0, 1, 2, 3, 4, 5, 6, 8, 11, 14, 24, 29] hX ?_ | refine awp_drawnG [0, 1, 2, 3, 4, 5, 6, 8, 11, 14, 24, 29] hX mixed ?_ | refine awp_ret ?_ | refine awp_skip ?_ | refine awp_exit ?_); (simp [go_sem]; try (refine ⟨by kernel_rfl, ?_⟩)))))
  refine awp_cond (b := false) (by simp [go_sem, hs0]) (fun h => by cases h) (fun _ => ?_)
  (repeat (first | refine awp_seq ?_ | refine awp_block ?_ | ((first | refine awp_runG [0, 1, 2, 3, 4, 5, 6, 8, 11, 14, 24, 29] hX ?_ | refine awp_drawnG [0, 1, 2, 3, 4, 5, 6, 8, 11, 14, 24, 29] hX mixed ?_ | refine awp_ret ?_ | refine awp_skip ?_ | refine awp_exit ?_); (simp [go_sem]; try (refine ⟨by kernel_rfl, ?_⟩)))))
  by_cases hn : q < 0
  · have hsq : sg q = -1 := by unfold sg; rw [if_pos hn]
    refine awp_cond (b := true) (by simp [go_sem, hsq]) (fun _ => ?_) (fun h => by cases h)
    (repeat (first | refine awp_seq ?_ | refine awp_block ?_ | ((first | refine awp_runG [0, 1, 2, 3, 4, 5, 6, 8, 11, 14, 24, 29] hX ?_ | refine awp_drawnG [0, 1, 2, 3, 4, 5, 6, 8, 11, 14, 24, 29] hX mixed ?_ | refine awp_ret ?_ | refine awp_skip ?_ | refine awp_exit ?_); (simp [go_sem]; try (refine ⟨by kernel_rfl, ?_⟩)))))
    first | refine callK_intro (Neg_m p hp) rfl (by simp [go_sem]) rfl ?_ | refine callT_intro (Neg_m p hp) rfl (by simp [go_sem]) rfl ?_
    try (simp [go_sem]; try (refine ⟨by kernel_rfl, ?_⟩))
    first | refine callK_intro (Neg_m q hq) rfl (by simp [go_sem]) rfl ?_ | refine callT_intro (Neg_m q hq) rfl (by simp [go_sem]) rfl ?_
    try (simp [go_sem]; try (refine ⟨by kernel_rfl, ?_⟩))
    (repeat (first | refine awp_seq ?_ | refine awp_block ?_ | ((first | refine awp_runG [0, 1, 2, 3, 4, 5, 6, 8, 11, 14, 24, 29] hX ?_ | refine awp_drawnG [0, 1, 2, 3, 4, 5, 6, 8, 11, 14, 24, 29] hX mixed ?_ | refine awp_ret ?_ | refine awp_skip ?_ | refine awp_exit ?_); (simp [go_sem]; try (refine ⟨by kernel_rfl, ?_⟩)))))
    first | refine callK_intro (Gcd_ok (g := (Int.gcd p q : Int)) znp znq (by rw [Int.neg_gcd, Int.gcd_neg])) rfl (by simp [go_sem]) rfl ?_ | refine callT_intro (Gcd_ok (g := (Int.gcd p q : Int)) znp znq (by rw [Int.neg_gcd, Int.gcd_neg])) rfl (by simp [go_sem]) rfl ?_
    try (simp [go_sem]; try (refine ⟨by kernel_rfl, ?_⟩))
    (repeat (first | refine awp_seq ?_ | refine awp_block ?_ | ((first | refine awp_runG [0, 1, 2, 3, 4, 5, 6, 8, 11, 14, 24, 29] hX ?_ | refine awp_drawnG [0, 1, 2, 3, 4, 5, 6, 8, 11, 14, 24, 29] hX mixed ?_ | refine awp_ret ?_ | refine awp_skip ?_ | refine awp_exit ?_); (simp [go_sem]; try (refine ⟨by kernel_rfl, ?_⟩)))))
    first | refine callK_intro (Div_ok znp zg hg0 (np_dq h0 (by rw [hsq, Int.neg_one_mul]) hgp) rfl) rfl (by simp [go_sem]) rfl ?_ | refine callT_intro (Div_ok znp zg hg0 (np_dq h0 (by rw [hsq, Int.neg_one_mul]) hgp) rfl) rfl (by simp [go_sem]) rfl ?_
    try (simp [go_sem]; try (refine ⟨by kernel_rfl, ?_⟩))
    (repeat (first | refine awp_seq ?_ | refine awp_block ?_ | ((first | refine awp_runG [0, 1, 2, 3, 4, 5, 6, 8, 11, 14, 24, 29] hX ?_ | refine awp_drawnG [0, 1, 2, 3, 4, 5, 6, 8, 11, 14, 24, 29] hX mixed ?_ | refine awp_ret ?_ | refine awp_skip ?_ | refine awp_exit ?_); (simp [go_sem]; try (refine ⟨by kernel_rfl, ?_⟩)))))
    first | refine callK_intro (Div_ok znq zg hg0 (nq_dq (by unfold ab; rw [if_pos hn]) hgp) rfl) rfl (by simp [go_sem]) rfl ?_ | refine callT_intro (Div_ok znq zg hg0 (nq_dq (by unfold ab; rw [if_pos hn]) hgp) rfl) rfl (by simp [go_sem]) rfl ?_
    try (simp [go_sem]; try (refine ⟨by kernel_rfl, ?_⟩))
    (repeat (first | refine awp_seq ?_ | refine awp_block ?_ | ((first | refine awp_runG [0, 1, 2, 3, 4, 5, 6, 8, 11, 14, 24, 29] hX ?_ | refine awp_drawnG [0, 1, 2, 3, 4, 5, 6, 8, 11, 14, 24, 29] hX mixed ?_ | refine awp_ret ?_ | refine awp_skip ?_ | refine awp_exit ?_); (simp [go_sem]; try (refine ⟨by kernel_rfl, ?_⟩)))))
  · have hsq : sg q = 1 := by rcases sg_cases q with h | h | h <;> omega
    refine awp_cond (b := false) (by simp [go_sem, hsq]) (fun h => by cases h) (fun _ => ?_)
    (repeat (first | refine awp_seq ?_ | refine awp_block ?_ | ((first | refine awp_runG [0, 1, 2, 3, 4, 5, 6, 8, 11, 14, 24, 29] hX ?_ | refine awp_drawnG [0, 1, 2, 3, 4, 5, 6, 8, 11, 14, 24, 29] hX mixed ?_ | refine awp_ret ?_ | refine awp_skip ?_ | refine awp_exit ?_); (simp [go_sem]; try (refine ⟨by kernel_rfl, ?_⟩)))))
    first | refine callK_intro (Gcd_ok (g := (Int.gcd p q : Int)) hp hq (rfl)) rfl (by simp [go_sem]) rfl ?_ | refine callT_intro (Gcd_ok (g := (Int.gcd p q : Int)) hp hq (rfl)) rfl (by simp [go_sem]) rfl ?_
    try (simp [go_sem]; try (refine ⟨by kernel_rfl, ?_⟩))
    (repeat (first | refine awp_seq ?_ | refine awp_block ?_ | ((first | refine awp_runG [0, 1, 2, 3, 4, 5, 6, 8, 11, 14, 24, 29] hX ?_ | refine awp_drawnG [0, 1, 2, 3, 4, 5, 6, 8, 11, 14, 24, 29] hX mixed ?_ | refine awp_ret ?_ | refine awp_skip ?_ | refine awp_exit ?_); (simp [go_sem]; try (refine ⟨by kernel_rfl, ?_⟩)))))
    first | refine callK_intro (Div_ok hp zg hg0 (np_dq h0 (by rw [hsq, Int.one_mul]) hgp) rfl) rfl (by simp [go_sem]) rfl ?_ | refine callT_intro (Div_ok hp zg hg0 (np_dq h0 (by rw [hsq, Int.one_mul]) hgp) rfl) rfl (by simp [go_sem]) rfl ?_
    try (simp [go_sem]; try (refine ⟨by kernel_rfl, ?_⟩))
    (repeat (first | refine awp_seq ?_ | refine awp_block ?_ | ((first | refine awp_runG [0, 1, 2, 3, 4, 5, 6, 8, 11, 14, 24, 29] hX ?_ | refine awp_drawnG [0, 1, 2, 3, 4, 5, 6, 8, 11, 14, 24, 29] hX mixed ?_ | refine awp_ret ?_ | refine awp_skip ?_ | refine awp_exit ?_); (simp [go_sem]; try (refine ⟨by kernel_rfl, ?_⟩)))))
    first | refine callK_intro (Div_ok hq zg hg0 (nq_dq (by unfold ab; rw [if_neg hn]) hgp) rfl) rfl (by simp [go_sem]) rfl ?_ | refine callT_intro (Div_ok hq zg hg0 (nq_dq (by unfold ab; rw [if_neg hn]) hgp) rfl) rfl (by simp [go_sem]) rfl ?_
    try (simp [go_sem]; try (refine ⟨by kernel_rfl, ?_⟩))
    (repeat (first | refine awp_seq ?_ | refine awp_block ?_ | ((first | refine awp_runG [0, 1, 2, 3, 4, 5, 6, 8, 11, 14, 24, 29] hX ?_ | refine awp_drawnG [0, 1, 2, 3, 4, 5, 6, 8, 11, 14, 24, 29] hX mixed ?_ | refine awp_ret ?_ | refine awp_skip ?_ | refine awp_exit ?_); (simp [go_sem]; try (refine ⟨by kernel_rfl, ?_⟩)))))
theorem New_0 (p : Int) (hp : rz p) : Means false Tryz.prog 25 [bigZ p, bigZ 0] (.tup [frZ 0 0, ii 15]) := by
  have h0 : rz 0 := rz_c (by decide)
  refine means_fn false 60 [.cell 4 41, .tmp 5] Tryz.func25 rfl rfl rfl (by simp) (by decide) rfl fun X hX => ?_
  (repeat (first | refine awp_seq ?_ | refine awp_block ?_ | ((first | refine awp_runG [0, 1, 2, 3, 4, 5, 6, 8, 11, 14, 24, 29] hX ?_ | refine awp_drawnG [0, 1, 2, 3, 4, 5, 6, 8, 11, 14, 24, 29] hX mixed ?_ | refine awp_ret ?_ | refine awp_skip ?_ | refine awp_exit ?_); (simp [go_sem]; try (refine ⟨by kernel_rfl, ?_⟩)))))
  first | refine callK_intro (right_t p hp) rfl (by simp [go_sem]) rfl ?_ | refine callT_intro (right_t p hp) rfl (by simp [go_sem]) rfl ?_
  try (simp [go_sem]; try (refine ⟨by kernel_rfl, ?_⟩))
  first | refine callG_intro (fun hg => right_t 0 h0) rfl (by simp [go_sem]) rfl ?_ | refine callGT_intro (fun hg => right_t 0 h0) rfl (by simp [go_sem]) rfl ?_
  try (simp [go_sem]; try (refine ⟨by kernel_rfl, ?_⟩))
  refine awp_cond (b := false) (by simp [go_sem]) (fun h => by cases h) (fun _ => ?_)
  (repeat (first | refine awp_seq ?_ | refine awp_block ?_ | ((first | refine awp_runG [0, 1, 2, 3, 4, 5, 6, 8, 11, 14, 24, 29] hX ?_ | refine awp_drawnG [0, 1, 2, 3, 4, 5, 6, 8, 11, 14, 24, 29] hX mixed ?_ | refine awp_ret ?_ | refine awp_skip ?_ | refine awp_exit ?_); (simp [go_sem]; try (refine ⟨by kernel_rfl, ?_⟩)))))
  refine awp_cond (b := true) (by simp [go_sem]) (fun _ => ?_) (fun h => by cases h)
  (repeat (first | refine awp_seq ?_ | refine awp_block ?_ | ((first | refine awp_runG [0, 1, 2, 3, 4, 5, 6, 8, 11, 14, 24, 29] hX ?_ | refine awp_drawnG [0, 1, 2, 3, 4, 5, 6, 8, 11, 14, 24, 29] hX mixed ?_ | refine awp_ret ?_ | refine awp_skip ?_ | refine awp_exit ?_); (simp [go_sem]; try (refine ⟨by kernel_rfl, ?_⟩)))))
set_option maxHeartbeats 4000000 in
theorem Of_f (p q : Int) (hp : -9223372036854775808 ≤ p ∧ p ≤ 9223372036854775807) (hq : -9223372036854775808 ≤ q ∧ q ≤ 9223372036854775807) (h0 : q ≠ 0) : Means false Tryz.prog 21 [ii p, ii q] (.tup [frZ (np p q) (nq p q), ii 0]) := by
  refine means_fn false 13 [.cell 4 41, .tmp 5] Tryz.func21 rfl rfl rfl (by simp) (by decide) rfl fun X hX => ?_
  (repeat (first | refine awp_seq ?_ | refine awp_block ?_ | ((first | refine awp_runG [0, 1, 4, 5] hX ?_ | refine awp_drawnG [0, 1, 4, 5] hX mixed ?_ | refine awp_ret ?_ | refine awp_skip ?_ | refine awp_exit ?_); (simp [go_sem]; try (refine ⟨by kernel_rfl, ?_⟩)))))
  first | refine callK_intro (Of_m p hp) rfl (by simp [go_sem]) rfl ?_ | refine callT_intro (Of_m p hp) rfl (by simp [go_sem]) rfl ?_
  try (simp [go_sem]; try (refine ⟨by kernel_rfl, ?_⟩))
  first | refine callK_intro (Of_m q hq) rfl (by simp [go_sem]) rfl ?_ | refine callT_intro (Of_m q hq) rfl (by simp [go_sem]) rfl ?_
  try (simp [go_sem]; try (refine ⟨by kernel_rfl, ?_⟩))
  first | refine callK_intro (New_m p q (rz_i hp) (rz_i hq) h0) rfl (by simp [go_sem]) rfl ?_ | refine callT_intro (New_m p q (rz_i hp) (rz_i hq) h0) rfl (by simp [go_sem]) rfl ?_
  try (simp [go_sem]; try (refine ⟨by kernel_rfl, ?_⟩))
  (repeat (first | refine awp_seq ?_ | refine awp_block ?_ | ((first | refine awp_runG [0, 1, 4, 5] hX ?_ | refine awp_drawnG [0, 1, 4, 5] hX mixed ?_ | refine awp_ret ?_ | refine awp_skip ?_ | refine awp_exit ?_); (simp [go_sem]; try (refine ⟨by kernel_rfl, ?_⟩)))))
theorem Of_f0 (p : Int) (hp : -9223372036854775808 ≤ p ∧ p ≤ 9223372036854775807) : Means false Tryz.prog 21 [ii p, ii 0] (.tup [frZ 0 0, ii 15]) := by
  refine means_fn false 13 [.cell 4 41, .tmp 5] Tryz.func21 rfl rfl rfl (by simp) (by decide) rfl fun X hX => ?_
  (repeat (first | refine awp_seq ?_ | refine awp_block ?_ | ((first | refine awp_runG [0, 1, 4, 5] hX ?_ | refine awp_drawnG [0, 1, 4, 5] hX mixed ?_ | refine awp_ret ?_ | refine awp_skip ?_ | refine awp_exit ?_); (simp [go_sem]; try (refine ⟨by kernel_rfl, ?_⟩)))))
  first | refine callK_intro (Of_m p hp) rfl (by simp [go_sem]) rfl ?_ | refine callT_intro (Of_m p hp) rfl (by simp [go_sem]) rfl ?_
  try (simp [go_sem]; try (refine ⟨by kernel_rfl, ?_⟩))
  first | refine callK_intro (Of_m 0 (by decide)) rfl (by simp [go_sem]) rfl ?_ | refine callT_intro (Of_m 0 (by decide)) rfl (by simp [go_sem]) rfl ?_
  try (simp [go_sem]; try (refine ⟨by kernel_rfl, ?_⟩))
  first | refine callK_intro (New_0 p (rz_i hp)) rfl (by simp [go_sem]) rfl ?_ | refine callT_intro (New_0 p (rz_i hp)) rfl (by simp [go_sem]) rfl ?_
  try (simp [go_sem]; try (refine ⟨by kernel_rfl, ?_⟩))
  (repeat (first | refine awp_seq ?_ | refine awp_block ?_ | ((first | refine awp_runG [0, 1, 4, 5] hX ?_ | refine awp_drawnG [0, 1, 4, 5] hX mixed ?_ | refine awp_ret ?_ | refine awp_skip ?_ | refine awp_exit ?_); (simp [go_sem]; try (refine ⟨by kernel_rfl, ?_⟩)))))
theorem Mul_no {a b : Int} (ha : rz a) (hb : rz b) (h : ¬ rz (a * b)) : Means false Tryz.prog 64 [bigZ a, bigZ b] (.tup [bigZ 0, ii 6]) := by
  have := Mul_m a b ha hb
  rwa [res, r60, e60, if_neg h, if_neg h] at this
noncomputable def sumP (a b c d : Int) : Prop := rz (a * b) ∧ rz (c * d) ∧ rz (a * b + c * d)
noncomputable instance (a b c d : Int) : Decidable (sumP a b c d) := Classical.propDecidable _
set_option maxHeartbeats 4000000 in
theorem sum_m (a b c d : Int) (ha : rz a) (hb : rz b) (hc : rz c) (hd : rz d) : Means false Tryz.prog 94 [bigZ a, bigZ b, bigZ c, bigZ d] (.tup [bigZ (if sumP a b c d then a * b + c * d else 0), ii (if sumP a b c d then 0 else 6)]) := by
  refine means_fn false 38 [.cell 8 39, .tmp 9] Tryz.func94 rfl rfl rfl (by simp) (by decide) rfl fun X hX => ?_
  (repeat (first | refine awp_seq ?_ | refine awp_block ?_ | ((first | refine awp_runG [0, 1, 2, 3, 4, 5, 6, 7, 8, 9, 10, 11, 12, 20, 30] hX ?_ | refine awp_drawnG [0, 1, 2, 3, 4, 5, 6, 7, 8, 9, 10, 11, 12, 20, 30] hX mixed ?_ | refine awp_ret ?_ | refine awp_skip ?_ | refine awp_exit ?_); (simp [go_sem]; try (refine ⟨by kernel_rfl, ?_⟩)))))
  by_cases h1 : rz (a * b)
  · first | refine callK_intro (Mul_ok ha hb h1 rfl) rfl (by simp [go_sem]) rfl ?_ | refine callT_intro (Mul_ok ha hb h1 rfl) rfl (by simp [go_sem]) rfl ?_
    try (simp [go_sem]; try (refine ⟨by kernel_rfl, ?_⟩))
    (repeat (first | refine awp_seq ?_ | refine awp_block ?_ | ((first | refine awp_runG [0, 1, 2, 3, 4, 5, 6, 7, 8, 9, 10, 11, 12, 20, 30] hX ?_ | refine awp_drawnG [0, 1, 2, 3, 4, 5, 6, 7, 8, 9, 10, 11, 12, 20, 30] hX mixed ?_ | refine awp_ret ?_ | refine awp_skip ?_ | refine awp_exit ?_); (simp [go_sem]; try (refine ⟨by kernel_rfl, ?_⟩)))))
    refine awp_cond (b := false) (by simp [go_sem]) (fun h => by cases h) (fun _ => ?_)
    (repeat (first | refine awp_seq ?_ | refine awp_block ?_ | ((first | refine awp_runG [0, 1, 2, 3, 4, 5, 6, 7, 8, 9, 10, 11, 12, 20, 30] hX ?_ | refine awp_drawnG [0, 1, 2, 3, 4, 5, 6, 7, 8, 9, 10, 11, 12, 20, 30] hX mixed ?_ | refine awp_ret ?_ | refine awp_skip ?_ | refine awp_exit ?_); (simp [go_sem]; try (refine ⟨by kernel_rfl, ?_⟩)))))
    by_cases h2 : rz (c * d)
    · first | refine callK_intro (Mul_ok hc hd h2 rfl) rfl (by simp [go_sem]) rfl ?_ | refine callT_intro (Mul_ok hc hd h2 rfl) rfl (by simp [go_sem]) rfl ?_
      try (simp [go_sem]; try (refine ⟨by kernel_rfl, ?_⟩))
      (repeat (first | refine awp_seq ?_ | refine awp_block ?_ | ((first | refine awp_runG [0, 1, 2, 3, 4, 5, 6, 7, 8, 9, 10, 11, 12, 20, 30] hX ?_ | refine awp_drawnG [0, 1, 2, 3, 4, 5, 6, 7, 8, 9, 10, 11, 12, 20, 30] hX mixed ?_ | refine awp_ret ?_ | refine awp_skip ?_ | refine awp_exit ?_); (simp [go_sem]; try (refine ⟨by kernel_rfl, ?_⟩)))))
      refine awp_cond (b := false) (by simp [go_sem]) (fun h => by cases h) (fun _ => ?_)
      (repeat (first | refine awp_seq ?_ | refine awp_block ?_ | ((first | refine awp_runG [0, 1, 2, 3, 4, 5, 6, 7, 8, 9, 10, 11, 12, 20, 30] hX ?_ | refine awp_drawnG [0, 1, 2, 3, 4, 5, 6, 7, 8, 9, 10, 11, 12, 20, 30] hX mixed ?_ | refine awp_ret ?_ | refine awp_skip ?_ | refine awp_exit ?_); (simp [go_sem]; try (refine ⟨by kernel_rfl, ?_⟩)))))
      first | refine callK_intro (Add_m _ _ h1 h2) rfl (by simp [go_sem]) rfl ?_ | refine callT_intro (Add_m _ _ h1 h2) rfl (by simp [go_sem]) rfl ?_
      try (simp [go_sem]; try (refine ⟨by kernel_rfl, ?_⟩))
      have e : sumP a b c d ↔ rz (a * b + c * d) := ⟨fun h => h.2.2, fun h => ⟨h1, h2, h⟩⟩
      (repeat (first | refine awp_seq ?_ | refine awp_block ?_ | ((first | refine awp_runG [0, 1, 2, 3, 4, 5, 6, 7, 8, 9, 10, 11, 12, 20, 30] hX ?_ | refine awp_drawnG [0, 1, 2, 3, 4, 5, 6, 7, 8, 9, 10, 11, 12, 20, 30] hX mixed ?_ | refine awp_ret ?_ | refine awp_skip ?_ | refine awp_exit ?_); (simp [go_sem, e, r60, e60]; try (refine ⟨by kernel_rfl, ?_⟩)))))
    · have e : ¬ sumP a b c d := fun h => h2 h.2.1
      first | refine callK_intro (Mul_no hc hd h2) rfl (by simp [go_sem]) rfl ?_ | refine callT_intro (Mul_no hc hd h2) rfl (by simp [go_sem]) rfl ?_
      try (simp [go_sem]; try (refine ⟨by kernel_rfl, ?_⟩))
      (repeat (first | refine awp_seq ?_ | refine awp_block ?_ | ((first | refine awp_runG [0, 1, 2, 3, 4, 5, 6, 7, 8, 9, 10, 11, 12, 20, 30] hX ?_ | refine awp_drawnG [0, 1, 2, 3, 4, 5, 6, 7, 8, 9, 10, 11, 12, 20, 30] hX mixed ?_ | refine awp_ret ?_ | refine awp_skip ?_ | refine awp_exit ?_); (simp [go_sem]; try (refine ⟨by kernel_rfl, ?_⟩)))))
      refine awp_cond (b := true) (by simp [go_sem]) (fun _ => ?_) (fun h => by cases h)
      (repeat (first | refine awp_seq ?_ | refine awp_block ?_ | ((first | refine awp_runG [0, 1, 2, 3, 4, 5, 6, 7, 8, 9, 10, 11, 12, 20, 30] hX ?_ | refine awp_drawnG [0, 1, 2, 3, 4, 5, 6, 7, 8, 9, 10, 11, 12, 20, 30] hX mixed ?_ | refine awp_ret ?_ | refine awp_skip ?_ | refine awp_exit ?_); (simp [go_sem, e]; try (refine ⟨by kernel_rfl, ?_⟩)))))
  · have e : ¬ sumP a b c d := fun h => h1 h.1
    first | refine callK_intro (Mul_no ha hb h1) rfl (by simp [go_sem]) rfl ?_ | refine callT_intro (Mul_no ha hb h1) rfl (by simp [go_sem]) rfl ?_
    try (simp [go_sem]; try (refine ⟨by kernel_rfl, ?_⟩))
    (repeat (first | refine awp_seq ?_ | refine awp_block ?_ | ((first | refine awp_runG [0, 1, 2, 3, 4, 5, 6, 7, 8, 9, 10, 11, 12, 20, 30] hX ?_ | refine awp_drawnG [0, 1, 2, 3, 4, 5, 6, 7, 8, 9, 10, 11, 12, 20, 30] hX mixed ?_ | refine awp_ret ?_ | refine awp_skip ?_ | refine awp_exit ?_); (simp [go_sem]; try (refine ⟨by kernel_rfl, ?_⟩)))))
    refine awp_cond (b := true) (by simp [go_sem]) (fun _ => ?_) (fun h => by cases h)
    (repeat (first | refine awp_seq ?_ | refine awp_block ?_ | ((first | refine awp_runG [0, 1, 2, 3, 4, 5, 6, 7, 8, 9, 10, 11, 12, 20, 30] hX ?_ | refine awp_drawnG [0, 1, 2, 3, 4, 5, 6, 7, 8, 9, 10, 11, 12, 20, 30] hX mixed ?_ | refine awp_ret ?_ | refine awp_skip ?_ | refine awp_exit ?_); (simp [go_sem, e]; try (refine ⟨by kernel_rfl, ?_⟩)))))
noncomputable def resF (ok : Prop) [Decidable ok] (p q : Int) : AV := if ok then .tup [frZ (np p q) (nq p q), ii 0] else .tup [frZ 0 0, ii 6]
theorem resF_t {ok : Prop} [Decidable ok] {p q : Int} (h : ok) : resF ok p q = .tup [frZ (np p q) (nq p q), ii 0] := if_pos h
theorem resF_f {ok : Prop} [Decidable ok] {p q : Int} (h : ¬ ok) : resF ok p q = .tup [frZ 0 0, ii 6] := if_neg h
theorem sum_ok {a b c d : Int} (ha : rz a) (hb : rz b) (hc : rz c) (hd : rz d) (h : sumP a b c d) : Means false Tryz.prog 94 [bigZ a, bigZ b, bigZ c, bigZ d] (.tup [bigZ (a * b + c * d), ii 0]) := by
  have := sum_m a b c d ha hb hc hd
  rwa [if_pos h, if_pos h] at this
theorem sum_no {a b c d : Int} (ha : rz a) (hb : rz b) (hc : rz c) (hd : rz d) (h : ¬ sumP a b c d) : Means false Tryz.prog 94 [bigZ a, bigZ b, bigZ c, bigZ d] (.tup [bigZ 0, ii 6]) := by
  have := sum_m a b c d ha hb hc hd
  rwa [if_neg h, if_neg h] at this
theorem quotient_no (p q e f : Int) (h : ¬ (e = 0 ∧ f = 0)) : Means false Tryz.prog 65 [bigZ p, ii e, bigZ q, ii f] (.tup [frZ 0 0, ii 6]) := by
  refine means_fn false 22 [.cell 8 41, .tmp 9] Tryz.func65 rfl rfl rfl (by simp) (by decide) rfl fun X hX => ?_
  (repeat (first | refine awp_seq ?_ | refine awp_block ?_ | ((first | refine awp_runG [0, 1, 2, 3, 4, 6, 8, 9, 15] hX ?_ | refine awp_drawnG [0, 1, 2, 3, 4, 6, 8, 9, 15] hX mixed ?_ | refine awp_ret ?_ | refine awp_skip ?_ | refine awp_exit ?_); (simp [go_sem]; try (refine ⟨by kernel_rfl, ?_⟩)))))
  refine awp_cond (b := true) (by simp [go_sem]; omega) (fun _ => ?_) (fun h => by cases h)
  (repeat (first | refine awp_seq ?_ | refine awp_block ?_ | ((first | refine awp_runG [0, 1, 2, 3, 4, 6, 8, 9, 15] hX ?_ | refine awp_drawnG [0, 1, 2, 3, 4, 6, 8, 9, 15] hX mixed ?_ | refine awp_ret ?_ | refine awp_skip ?_ | refine awp_exit ?_); (simp [go_sem]; try (refine ⟨by kernel_rfl, ?_⟩)))))
theorem quotient_ok (p q : Int) (hp : rz p) (hq : rz q) (h0 : q ≠ 0) : Means false Tryz.prog 65 [bigZ p, ii 0, bigZ q, ii 0] (.tup [frZ (np p q) (nq p q), ii 0]) := by
  refine means_fn false 22 [.cell 8 41, .tmp 9] Tryz.func65 rfl rfl rfl (by simp) (by decide) rfl fun X hX => ?_
  (repeat (first | refine awp_seq ?_ | refine awp_block ?_ | ((first | refine awp_runG [0, 1, 2, 3, 4, 6, 8, 9, 15] hX ?_ | refine awp_drawnG [0, 1, 2, 3, 4, 6, 8, 9, 15] hX mixed ?_ | refine awp_ret ?_ | refine awp_skip ?_ | refine awp_exit ?_); (simp [go_sem]; try (refine ⟨by kernel_rfl, ?_⟩)))))
  refine awp_cond (b := false) (by simp [go_sem]) (fun h => by cases h) (fun _ => ?_)
  (repeat (first | refine awp_seq ?_ | refine awp_block ?_ | ((first | refine awp_runG [0, 1, 2, 3, 4, 6, 8, 9, 15] hX ?_ | refine awp_drawnG [0, 1, 2, 3, 4, 6, 8, 9, 15] hX mixed ?_ | refine awp_ret ?_ | refine awp_skip ?_ | refine awp_exit ?_); (simp [go_sem]; try (refine ⟨by kernel_rfl, ?_⟩)))))
  first | refine callK_intro (New_m p q hp hq h0) rfl (by simp [go_sem]) rfl ?_ | refine callT_intro (New_m p q hp hq h0) rfl (by simp [go_sem]) rfl ?_
  try (simp [go_sem]; try (refine ⟨by kernel_rfl, ?_⟩))
  (repeat (first | refine awp_seq ?_ | refine awp_block ?_ | ((first | refine awp_runG [0, 1, 2, 3, 4, 6, 8, 9, 15] hX ?_ | refine awp_drawnG [0, 1, 2, 3, 4, 6, 8, 9, 15] hX mixed ?_ | refine awp_ret ?_ | refine awp_skip ?_ | refine awp_exit ?_); (simp [go_sem]; try (refine ⟨by kernel_rfl, ?_⟩)))))
set_option maxHeartbeats 4000000 in
set_option maxRecDepth 20000 in
theorem Add_f (a b c d : Int) (hab : rf a b) (hcd : rf c d) : Means false Tryz.prog 60 [frZ a b, frZ c d] (resF (sumP a d c b ∧ rz (b * d)) (a * d + c * b) (b * d)) := by
  have ha := hab.1
  have hb := hab.2.1
  have hc := hcd.1
  have hd := hcd.2.1
  have hb0 := hab.2.2.1
  have hd0 := hcd.2.2.1
  have hbd : b * d ≠ 0 := Int.mul_ne_zero (by omega) (by omega)
  refine means_fn false 46 [.cell 4 41, .tmp 5] Tryz.func60 rfl rfl rfl (by simp) (by decide) rfl fun X hX => ?_
  (repeat (first | refine awp_seq ?_ | refine awp_block ?_ | ((first | refine awp_runG [0, 1, 2, 3, 4, 5, 6, 7, 8, 9, 17] hX ?_ | refine awp_drawnG [0, 1, 2, 3, 4, 5, 6, 7, 8, 9, 17] hX mixed ?_ | refine awp_ret ?_ | refine awp_skip ?_ | refine awp_exit ?_); (simp [go_sem]; try (refine ⟨by kernel_rfl, ?_⟩)))))
  first | refine callK_intro (Right_t a b hab) rfl (by simp [go_sem]) rfl ?_ | refine callT_intro (Right_t a b hab) rfl (by simp [go_sem]) rfl ?_
  try (simp [go_sem]; try (refine ⟨by kernel_rfl, ?_⟩))
  first | refine callG_intro (fun hg => Right_t c d hcd) rfl (by simp [go_sem]) rfl ?_ | refine callGT_intro (fun hg => Right_t c d hcd) rfl (by simp [go_sem]) rfl ?_
  try (simp [go_sem]; try (refine ⟨by kernel_rfl, ?_⟩))
  refine awp_cond (b := false) (by simp [go_sem]) (fun h => by cases h) (fun _ => ?_)
  (repeat (first | refine awp_seq ?_ | refine awp_block ?_ | ((first | refine awp_runG [0, 1, 2, 3, 4, 5, 6, 7, 8, 9, 17] hX ?_ | refine awp_drawnG [0, 1, 2, 3, 4, 5, 6, 7, 8, 9, 17] hX mixed ?_ | refine awp_ret ?_ | refine awp_skip ?_ | refine awp_exit ?_); (simp [go_sem]; try (refine ⟨by kernel_rfl, ?_⟩)))))
  by_cases h1 : sumP a d c b
  · by_cases h2 : rz (b * d)
    · rw [resF_t ⟨h1, h2⟩]
      first | refine callK_intro (sum_ok ha hd hc hb h1) rfl (by simp [go_sem]) rfl ?_ | refine callT_intro (sum_ok ha hd hc hb h1) rfl (by simp [go_sem]) rfl ?_
      try (simp [go_sem]; try (refine ⟨by kernel_rfl, ?_⟩))
      (repeat (first | refine awp_seq ?_ | refine awp_block ?_ | ((first | refine awp_runG [0, 1, 2, 3, 4, 5, 6, 7, 8, 9, 17] hX ?_ | refine awp_drawnG [0, 1, 2, 3, 4, 5, 6, 7, 8, 9, 17] hX mixed ?_ | refine awp_ret ?_ | refine awp_skip ?_ | refine awp_exit ?_); (simp [go_sem]; try (refine ⟨by kernel_rfl, ?_⟩)))))
      first | refine callK_intro (Mul_ok hb hd h2 rfl) rfl (by simp [go_sem]) rfl ?_ | refine callT_intro (Mul_ok hb hd h2 rfl) rfl (by simp [go_sem]) rfl ?_
      try (simp [go_sem]; try (refine ⟨by kernel_rfl, ?_⟩))
      (repeat (first | refine awp_seq ?_ | refine awp_block ?_ | ((first | refine awp_runG [0, 1, 2, 3, 4, 5, 6, 7, 8, 9, 17] hX ?_ | refine awp_drawnG [0, 1, 2, 3, 4, 5, 6, 7, 8, 9, 17] hX mixed ?_ | refine awp_ret ?_ | refine awp_skip ?_ | refine awp_exit ?_); (simp [go_sem]; try (refine ⟨by kernel_rfl, ?_⟩)))))
      first | refine callK_intro (quotient_ok _ _ h1.2.2 h2 hbd) rfl (by simp [go_sem]) rfl ?_ | refine callT_intro (quotient_ok _ _ h1.2.2 h2 hbd) rfl (by simp [go_sem]) rfl ?_
      try (simp [go_sem]; try (refine ⟨by kernel_rfl, ?_⟩))
      (repeat (first | refine awp_seq ?_ | refine awp_block ?_ | ((first | refine awp_runG [0, 1, 2, 3, 4, 5, 6, 7, 8, 9, 17] hX ?_ | refine awp_drawnG [0, 1, 2, 3, 4, 5, 6, 7, 8, 9, 17] hX mixed ?_ | refine awp_ret ?_ | refine awp_skip ?_ | refine awp_exit ?_); (simp [go_sem]; try (refine ⟨by kernel_rfl, ?_⟩)))))
    · rw [resF_f fun h => h2 h.2]
      first | refine callK_intro (sum_ok ha hd hc hb h1) rfl (by simp [go_sem]) rfl ?_ | refine callT_intro (sum_ok ha hd hc hb h1) rfl (by simp [go_sem]) rfl ?_
      try (simp [go_sem]; try (refine ⟨by kernel_rfl, ?_⟩))
      (repeat (first | refine awp_seq ?_ | refine awp_block ?_ | ((first | refine awp_runG [0, 1, 2, 3, 4, 5, 6, 7, 8, 9, 17] hX ?_ | refine awp_drawnG [0, 1, 2, 3, 4, 5, 6, 7, 8, 9, 17] hX mixed ?_ | refine awp_ret ?_ | refine awp_skip ?_ | refine awp_exit ?_); (simp [go_sem]; try (refine ⟨by kernel_rfl, ?_⟩)))))
      first | refine callK_intro (Mul_no hb hd h2) rfl (by simp [go_sem]) rfl ?_ | refine callT_intro (Mul_no hb hd h2) rfl (by simp [go_sem]) rfl ?_
      try (simp [go_sem]; try (refine ⟨by kernel_rfl, ?_⟩))
      (repeat (first | refine awp_seq ?_ | refine awp_block ?_ | ((first | refine awp_runG [0, 1, 2, 3, 4, 5, 6, 7, 8, 9, 17] hX ?_ | refine awp_drawnG [0, 1, 2, 3, 4, 5, 6, 7, 8, 9, 17] hX mixed ?_ | refine awp_ret ?_ | refine awp_skip ?_ | refine awp_exit ?_); (simp [go_sem]; try (refine ⟨by kernel_rfl, ?_⟩)))))
      first | refine callK_intro (quotient_no (a * d + c * b) 0 0 6 (by decide)) rfl (by simp [go_sem]) rfl ?_ | refine callT_intro (quotient_no (a * d + c * b) 0 0 6 (by decide)) rfl (by simp [go_sem]) rfl ?_
      try (simp [go_sem]; try (refine ⟨by kernel_rfl, ?_⟩))
      (repeat (first | refine awp_seq ?_ | refine awp_block ?_ | ((first | refine awp_runG [0, 1, 2, 3, 4, 5, 6, 7, 8, 9, 17] hX ?_ | refine awp_drawnG [0, 1, 2, 3, 4, 5, 6, 7, 8, 9, 17] hX mixed ?_ | refine awp_ret ?_ | refine awp_skip ?_ | refine awp_exit ?_); (simp [go_sem]; try (refine ⟨by kernel_rfl, ?_⟩)))))
  · rw [resF_f fun h => h1 h.1]
    first | refine callK_intro (sum_no ha hd hc hb h1) rfl (by simp [go_sem]) rfl ?_ | refine callT_intro (sum_no ha hd hc hb h1) rfl (by simp [go_sem]) rfl ?_
    try (simp [go_sem]; try (refine ⟨by kernel_rfl, ?_⟩))
    (repeat (first | refine awp_seq ?_ | refine awp_block ?_ | ((first | refine awp_runG [0, 1, 2, 3, 4, 5, 6, 7, 8, 9, 17] hX ?_ | refine awp_drawnG [0, 1, 2, 3, 4, 5, 6, 7, 8, 9, 17] hX mixed ?_ | refine awp_ret ?_ | refine awp_skip ?_ | refine awp_exit ?_); (simp [go_sem]; try (refine ⟨by kernel_rfl, ?_⟩)))))
    by_cases h2 : rz (b * d)
    · first | refine callK_intro (Mul_ok hb hd h2 rfl) rfl (by simp [go_sem]) rfl ?_ | refine callT_intro (Mul_ok hb hd h2 rfl) rfl (by simp [go_sem]) rfl ?_
      try (simp [go_sem]; try (refine ⟨by kernel_rfl, ?_⟩))
      (repeat (first | refine awp_seq ?_ | refine awp_block ?_ | ((first | refine awp_runG [0, 1, 2, 3, 4, 5, 6, 7, 8, 9, 17] hX ?_ | refine awp_drawnG [0, 1, 2, 3, 4, 5, 6, 7, 8, 9, 17] hX mixed ?_ | refine awp_ret ?_ | refine awp_skip ?_ | refine awp_exit ?_); (simp [go_sem]; try (refine ⟨by kernel_rfl, ?_⟩)))))
      first | refine callK_intro (quotient_no 0 (b * d) 6 0 (by decide)) rfl (by simp [go_sem]) rfl ?_ | refine callT_intro (quotient_no 0 (b * d) 6 0 (by decide)) rfl (by simp [go_sem]) rfl ?_
      try (simp [go_sem]; try (refine ⟨by kernel_rfl, ?_⟩))
      (repeat (first | refine awp_seq ?_ | refine awp_block ?_ | ((first | refine awp_runG [0, 1, 2, 3, 4, 5, 6, 7, 8, 9, 17] hX ?_ | refine awp_drawnG [0, 1, 2, 3, 4, 5, 6, 7, 8, 9, 17] hX mixed ?_ | refine awp_ret ?_ | refine awp_skip ?_ | refine awp_exit ?_); (simp [go_sem]; try (refine ⟨by kernel_rfl, ?_⟩)))))
    · first | refine callK_intro (Mul_no hb hd h2) rfl (by simp [go_sem]) rfl ?_ | refine callT_intro (Mul_no hb hd h2) rfl (by simp [go_sem]) rfl ?_
      try (simp [go_sem]; try (refine ⟨by kernel_rfl, ?_⟩))
      (repeat (first | refine awp_seq ?_ | refine awp_block ?_ | ((first | refine awp_runG [0, 1, 2, 3, 4, 5, 6, 7, 8, 9, 17] hX ?_ | refine awp_drawnG [0, 1, 2, 3, 4, 5, 6, 7, 8, 9, 17] hX mixed ?_ | refine awp_ret ?_ | refine awp_skip ?_ | refine awp_exit ?_); (simp [go_sem]; try (refine ⟨by kernel_rfl, ?_⟩)))))
      first | refine callK_intro (quotient_no 0 0 6 6 (by decide)) rfl (by simp [go_sem]) rfl ?_ | refine callT_intro (quotient_no 0 0 6 6 (by decide)) rfl (by simp [go_sem]) rfl ?_
      try (simp [go_sem]; try (refine ⟨by kernel_rfl, ?_⟩))
      (repeat (first | refine awp_seq ?_ | refine awp_block ?_ | ((first | refine awp_runG [0, 1, 2, 3, 4, 5, 6, 7, 8, 9, 17] hX ?_ | refine awp_drawnG [0, 1, 2, 3, 4, 5, 6, 7, 8, 9, 17] hX mixed ?_ | refine awp_ret ?_ | refine awp_skip ?_ | refine awp_exit ?_); (simp [go_sem]; try (refine ⟨by kernel_rfl, ?_⟩)))))
set_option maxHeartbeats 4000000 in
set_option maxRecDepth 20000 in
theorem Mul_f (a b c d : Int) (hab : rf a b) (hcd : rf c d) : Means false Tryz.prog 26 [frZ a b, frZ c d] (resF (rz (a * c) ∧ rz (b * d)) (a * c) (b * d)) := by
  have ha := hab.1
  have hb := hab.2.1
  have hc := hcd.1
  have hd := hcd.2.1
  have hb0 := hab.2.2.1
  have hd0 := hcd.2.2.1
  have hbd : b * d ≠ 0 := Int.mul_ne_zero (by omega) (by omega)
  refine means_fn false 42 [.cell 4 41, .tmp 5] Tryz.func26 rfl rfl rfl (by simp) (by decide) rfl fun X hX => ?_
  (repeat (first | refine awp_seq ?_ | refine awp_block ?_ | ((first | refine awp_runG [0, 1, 2, 3, 4, 5, 6, 7, 8, 9, 17] hX ?_ | refine awp_drawnG [0, 1, 2, 3, 4, 5, 6, 7, 8, 9, 17] hX mixed ?_ | refine awp_ret ?_ | refine awp_skip ?_ | refine awp_exit ?_); (simp [go_sem]; try (refine ⟨by kernel_rfl, ?_⟩)))))
  first | refine callK_intro (Right_t a b hab) rfl (by simp [go_sem]) rfl ?_ | refine callT_intro (Right_t a b hab) rfl (by simp [go_sem]) rfl ?_
  try (simp [go_sem]; try (refine ⟨by kernel_rfl, ?_⟩))
  first | refine callG_intro (fun hg => Right_t c d hcd) rfl (by simp [go_sem]) rfl ?_ | refine callGT_intro (fun hg => Right_t c d hcd) rfl (by simp [go_sem]) rfl ?_
  try (simp [go_sem]; try (refine ⟨by kernel_rfl, ?_⟩))
  refine awp_cond (b := false) (by simp [go_sem]) (fun h => by cases h) (fun _ => ?_)
  (repeat (first | refine awp_seq ?_ | refine awp_block ?_ | ((first | refine awp_runG [0, 1, 2, 3, 4, 5, 6, 7, 8, 9, 17] hX ?_ | refine awp_drawnG [0, 1, 2, 3, 4, 5, 6, 7, 8, 9, 17] hX mixed ?_ | refine awp_ret ?_ | refine awp_skip ?_ | refine awp_exit ?_); (simp [go_sem]; try (refine ⟨by kernel_rfl, ?_⟩)))))
  by_cases h1 : rz (a * c)
  · by_cases h2 : rz (b * d)
    · rw [resF_t ⟨h1, h2⟩]
      first | refine callK_intro (Mul_ok ha hc h1 rfl) rfl (by simp [go_sem]) rfl ?_ | refine callT_intro (Mul_ok ha hc h1 rfl) rfl (by simp [go_sem]) rfl ?_
      try (simp [go_sem]; try (refine ⟨by kernel_rfl, ?_⟩))
      (repeat (first | refine awp_seq ?_ | refine awp_block ?_ | ((first | refine awp_runG [0, 1, 2, 3, 4, 5, 6, 7, 8, 9, 17] hX ?_ | refine awp_drawnG [0, 1, 2, 3, 4, 5, 6, 7, 8, 9, 17] hX mixed ?_ | refine awp_ret ?_ | refine awp_skip ?_ | refine awp_exit ?_); (simp [go_sem]; try (refine ⟨by kernel_rfl, ?_⟩)))))
      first | refine callK_intro (Mul_ok hb hd h2 rfl) rfl (by simp [go_sem]) rfl ?_ | refine callT_intro (Mul_ok hb hd h2 rfl) rfl (by simp [go_sem]) rfl ?_
      try (simp [go_sem]; try (refine ⟨by kernel_rfl, ?_⟩))
      (repeat (first | refine awp_seq ?_ | refine awp_block ?_ | ((first | refine awp_runG [0, 1, 2, 3, 4, 5, 6, 7, 8, 9, 17] hX ?_ | refine awp_drawnG [0, 1, 2, 3, 4, 5, 6, 7, 8, 9, 17] hX mixed ?_ | refine awp_ret ?_ | refine awp_skip ?_ | refine awp_exit ?_); (simp [go_sem]; try (refine ⟨by kernel_rfl, ?_⟩)))))
      first | refine callK_intro (quotient_ok _ _ h1 h2 hbd) rfl (by simp [go_sem]) rfl ?_ | refine callT_intro (quotient_ok _ _ h1 h2 hbd) rfl (by simp [go_sem]) rfl ?_
      try (simp [go_sem]; try (refine ⟨by kernel_rfl, ?_⟩))
      (repeat (first | refine awp_seq ?_ | refine awp_block ?_ | ((first | refine awp_runG [0, 1, 2, 3, 4, 5, 6, 7, 8, 9, 17] hX ?_ | refine awp_drawnG [0, 1, 2, 3, 4, 5, 6, 7, 8, 9, 17] hX mixed ?_ | refine awp_ret ?_ | refine awp_skip ?_ | refine awp_exit ?_); (simp [go_sem]; try (refine ⟨by kernel_rfl, ?_⟩)))))
    · rw [resF_f fun h => h2 h.2]
      first | refine callK_intro (Mul_ok ha hc h1 rfl) rfl (by simp [go_sem]) rfl ?_ | refine callT_intro (Mul_ok ha hc h1 rfl) rfl (by simp [go_sem]) rfl ?_
      try (simp [go_sem]; try (refine ⟨by kernel_rfl, ?_⟩))
      (repeat (first | refine awp_seq ?_ | refine awp_block ?_ | ((first | refine awp_runG [0, 1, 2, 3, 4, 5, 6, 7, 8, 9, 17] hX ?_ | refine awp_drawnG [0, 1, 2, 3, 4, 5, 6, 7, 8, 9, 17] hX mixed ?_ | refine awp_ret ?_ | refine awp_skip ?_ | refine awp_exit ?_); (simp [go_sem]; try (refine ⟨by kernel_rfl, ?_⟩)))))
      first | refine callK_intro (Mul_no hb hd h2) rfl (by simp [go_sem]) rfl ?_ | refine callT_intro (Mul_no hb hd h2) rfl (by simp [go_sem]) rfl ?_
      try (simp [go_sem]; try (refine ⟨by kernel_rfl, ?_⟩))
      (repeat (first | refine awp_seq ?_ | refine awp_block ?_ | ((first | refine awp_runG [0, 1, 2, 3, 4, 5, 6, 7, 8, 9, 17] hX ?_ | refine awp_drawnG [0, 1, 2, 3, 4, 5, 6, 7, 8, 9, 17] hX mixed ?_ | refine awp_ret ?_ | refine awp_skip ?_ | refine awp_exit ?_); (simp [go_sem]; try (refine ⟨by kernel_rfl, ?_⟩)))))
      first | refine callK_intro (quotient_no (a * c) 0 0 6 (by decide)) rfl (by simp [go_sem]) rfl ?_ | refine callT_intro (quotient_no (a * c) 0 0 6 (by decide)) rfl (by simp [go_sem]) rfl ?_
      try (simp [go_sem]; try (refine ⟨by kernel_rfl, ?_⟩))
      (repeat (first | refine awp_seq ?_ | refine awp_block ?_ | ((first | refine awp_runG [0, 1, 2, 3, 4, 5, 6, 7, 8, 9, 17] hX ?_ | refine awp_drawnG [0, 1, 2, 3, 4, 5, 6, 7, 8, 9, 17] hX mixed ?_ | refine awp_ret ?_ | refine awp_skip ?_ | refine awp_exit ?_); (simp [go_sem]; try (refine ⟨by kernel_rfl, ?_⟩)))))
  · rw [resF_f fun h => h1 h.1]
    first | refine callK_intro (Mul_no ha hc h1) rfl (by simp [go_sem]) rfl ?_ | refine callT_intro (Mul_no ha hc h1) rfl (by simp [go_sem]) rfl ?_
    try (simp [go_sem]; try (refine ⟨by kernel_rfl, ?_⟩))
    (repeat (first | refine awp_seq ?_ | refine awp_block ?_ | ((first | refine awp_runG [0, 1, 2, 3, 4, 5, 6, 7, 8, 9, 17] hX ?_ | refine awp_drawnG [0, 1, 2, 3, 4, 5, 6, 7, 8, 9, 17] hX mixed ?_ | refine awp_ret ?_ | refine awp_skip ?_ | refine awp_exit ?_); (simp [go_sem]; try (refine ⟨by kernel_rfl, ?_⟩)))))
    by_cases h2 : rz (b * d)
    · first | refine callK_intro (Mul_ok hb hd h2 rfl) rfl (by simp [go_sem]) rfl ?_ | refine callT_intro (Mul_ok hb hd h2 rfl) rfl (by simp [go_sem]) rfl ?_
      try (simp [go_sem]; try (refine ⟨by kernel_rfl, ?_⟩))
      (repeat (first | refine awp_seq ?_ | refine awp_block ?_ | ((first | refine awp_runG [0, 1, 2, 3, 4, 5, 6, 7, 8, 9, 17] hX ?_ | refine awp_drawnG [0, 1, 2, 3, 4, 5, 6, 7, 8, 9, 17] hX mixed ?_ | refine awp_ret ?_ | refine awp_skip ?_ | refine awp_exit ?_); (simp [go_sem]; try (refine ⟨by kernel_rfl, ?_⟩)))))
      first | refine callK_intro (quotient_no 0 (b * d) 6 0 (by decide)) rfl (by simp [go_sem]) rfl ?_ | refine callT_intro (quotient_no 0 (b * d) 6 0 (by decide)) rfl (by simp [go_sem]) rfl ?_
      try (simp [go_sem]; try (refine ⟨by kernel_rfl, ?_⟩))
      (repeat (first | refine awp_seq ?_ | refine awp_block ?_ | ((first | refine awp_runG [0, 1, 2, 3, 4, 5, 6, 7, 8, 9, 17] hX ?_ | refine awp_drawnG [0, 1, 2, 3, 4, 5, 6, 7, 8, 9, 17] hX mixed ?_ | refine awp_ret ?_ | refine awp_skip ?_ | refine awp_exit ?_); (simp [go_sem]; try (refine ⟨by kernel_rfl, ?_⟩)))))
    · first | refine callK_intro (Mul_no hb hd h2) rfl (by simp [go_sem]) rfl ?_ | refine callT_intro (Mul_no hb hd h2) rfl (by simp [go_sem]) rfl ?_
      try (simp [go_sem]; try (refine ⟨by kernel_rfl, ?_⟩))
      (repeat (first | refine awp_seq ?_ | refine awp_block ?_ | ((first | refine awp_runG [0, 1, 2, 3, 4, 5, 6, 7, 8, 9, 17] hX ?_ | refine awp_drawnG [0, 1, 2, 3, 4, 5, 6, 7, 8, 9, 17] hX mixed ?_ | refine awp_ret ?_ | refine awp_skip ?_ | refine awp_exit ?_); (simp [go_sem]; try (refine ⟨by kernel_rfl, ?_⟩)))))
      first | refine callK_intro (quotient_no 0 0 6 6 (by decide)) rfl (by simp [go_sem]) rfl ?_ | refine callT_intro (quotient_no 0 0 6 6 (by decide)) rfl (by simp [go_sem]) rfl ?_
      try (simp [go_sem]; try (refine ⟨by kernel_rfl, ?_⟩))
      (repeat (first | refine awp_seq ?_ | refine awp_block ?_ | ((first | refine awp_runG [0, 1, 2, 3, 4, 5, 6, 7, 8, 9, 17] hX ?_ | refine awp_drawnG [0, 1, 2, 3, 4, 5, 6, 7, 8, 9, 17] hX mixed ?_ | refine awp_ret ?_ | refine awp_skip ?_ | refine awp_exit ?_); (simp [go_sem]; try (refine ⟨by kernel_rfl, ?_⟩)))))
set_option maxHeartbeats 4000000 in
set_option maxRecDepth 20000 in
theorem Div_f (a b c d : Int) (hab : rf a b) (hcd : rf c d) (h0 : c ≠ 0) : Means false Tryz.prog 100 [frZ a b, frZ c d] (resF (rz (a * d) ∧ rz (b * c)) (a * d) (b * c)) := by
  have ha := hab.1
  have hb := hab.2.1
  have hc := hcd.1
  have hd := hcd.2.1
  have hb0 := hab.2.2.1
  have hd0 := hcd.2.2.1
  have hbd : b * d ≠ 0 := Int.mul_ne_zero (by omega) (by omega)
  refine means_fn false 49 [.cell 4 41, .tmp 5] Tryz.func100 rfl rfl rfl (by simp) (by decide) rfl fun X hX => ?_
  (repeat (first | refine awp_seq ?_ | refine awp_block ?_ | ((first | refine awp_runG [0, 1, 2, 3, 4, 5, 6, 7, 8, 9, 10, 20] hX ?_ | refine awp_drawnG [0, 1, 2, 3, 4, 5, 6, 7, 8, 9, 10, 20] hX mixed ?_ | refine awp_ret ?_ | refine awp_skip ?_ | refine awp_exit ?_); (simp [go_sem]; try (refine ⟨by kernel_rfl, ?_⟩)))))
  first | refine callK_intro (Right_t a b hab) rfl (by simp [go_sem]) rfl ?_ | refine callT_intro (Right_t a b hab) rfl (by simp [go_sem]) rfl ?_
  try (simp [go_sem]; try (refine ⟨by kernel_rfl, ?_⟩))
  first | refine callG_intro (fun hg => Right_t c d hcd) rfl (by simp [go_sem]) rfl ?_ | refine callGT_intro (fun hg => Right_t c d hcd) rfl (by simp [go_sem]) rfl ?_
  try (simp [go_sem]; try (refine ⟨by kernel_rfl, ?_⟩))
  have hsc : ¬ sg c = 0 := by rcases sg_cases c with h | h | h <;> omega
  refine awp_cond (b := false) (by simp [go_sem]) (fun h => by cases h) (fun _ => ?_)
  (repeat (first | refine awp_seq ?_ | refine awp_block ?_ | ((first | refine awp_runG [0, 1, 2, 3, 4, 5, 6, 7, 8, 9, 10, 20] hX ?_ | refine awp_drawnG [0, 1, 2, 3, 4, 5, 6, 7, 8, 9, 10, 20] hX mixed ?_ | refine awp_ret ?_ | refine awp_skip ?_ | refine awp_exit ?_); (simp [go_sem]; try (refine ⟨by kernel_rfl, ?_⟩)))))
  refine awp_cond (b := false) (by simp [go_sem, hsc]) (fun h => by cases h) (fun _ => ?_)
  (repeat (first | refine awp_seq ?_ | refine awp_block ?_ | ((first | refine awp_runG [0, 1, 2, 3, 4, 5, 6, 7, 8, 9, 10, 20] hX ?_ | refine awp_drawnG [0, 1, 2, 3, 4, 5, 6, 7, 8, 9, 10, 20] hX mixed ?_ | refine awp_ret ?_ | refine awp_skip ?_ | refine awp_exit ?_); (simp [go_sem]; try (refine ⟨by kernel_rfl, ?_⟩)))))
  by_cases h1 : rz (a * d)
  · by_cases h2 : rz (b * c)
    · rw [resF_t ⟨h1, h2⟩]
      first | refine callK_intro (Mul_ok ha hd h1 rfl) rfl (by simp [go_sem]) rfl ?_ | refine callT_intro (Mul_ok ha hd h1 rfl) rfl (by simp [go_sem]) rfl ?_
      try (simp [go_sem]; try (refine ⟨by kernel_rfl, ?_⟩))
      (repeat (first | refine awp_seq ?_ | refine awp_block ?_ | ((first | refine awp_runG [0, 1, 2, 3, 4, 5, 6, 7, 8, 9, 10, 20] hX ?_ | refine awp_drawnG [0, 1, 2, 3, 4, 5, 6, 7, 8, 9, 10, 20] hX mixed ?_ | refine awp_ret ?_ | refine awp_skip ?_ | refine awp_exit ?_); (simp [go_sem]; try (refine ⟨by kernel_rfl, ?_⟩)))))
      first | refine callK_intro (Mul_ok hb hc h2 rfl) rfl (by simp [go_sem]) rfl ?_ | refine callT_intro (Mul_ok hb hc h2 rfl) rfl (by simp [go_sem]) rfl ?_
      try (simp [go_sem]; try (refine ⟨by kernel_rfl, ?_⟩))
      (repeat (first | refine awp_seq ?_ | refine awp_block ?_ | ((first | refine awp_runG [0, 1, 2, 3, 4, 5, 6, 7, 8, 9, 10, 20] hX ?_ | refine awp_drawnG [0, 1, 2, 3, 4, 5, 6, 7, 8, 9, 10, 20] hX mixed ?_ | refine awp_ret ?_ | refine awp_skip ?_ | refine awp_exit ?_); (simp [go_sem]; try (refine ⟨by kernel_rfl, ?_⟩)))))
      first | refine callK_intro (quotient_ok _ _ h1 h2 (Int.mul_ne_zero (by omega) h0)) rfl (by simp [go_sem]) rfl ?_ | refine callT_intro (quotient_ok _ _ h1 h2 (Int.mul_ne_zero (by omega) h0)) rfl (by simp [go_sem]) rfl ?_
      try (simp [go_sem]; try (refine ⟨by kernel_rfl, ?_⟩))
      (repeat (first | refine awp_seq ?_ | refine awp_block ?_ | ((first | refine awp_runG [0, 1, 2, 3, 4, 5, 6, 7, 8, 9, 10, 20] hX ?_ | refine awp_drawnG [0, 1, 2, 3, 4, 5, 6, 7, 8, 9, 10, 20] hX mixed ?_ | refine awp_ret ?_ | refine awp_skip ?_ | refine awp_exit ?_); (simp [go_sem]; try (refine ⟨by kernel_rfl, ?_⟩)))))
    · rw [resF_f fun h => h2 h.2]
      first | refine callK_intro (Mul_ok ha hd h1 rfl) rfl (by simp [go_sem]) rfl ?_ | refine callT_intro (Mul_ok ha hd h1 rfl) rfl (by simp [go_sem]) rfl ?_
      try (simp [go_sem]; try (refine ⟨by kernel_rfl, ?_⟩))
      (repeat (first | refine awp_seq ?_ | refine awp_block ?_ | ((first | refine awp_runG [0, 1, 2, 3, 4, 5, 6, 7, 8, 9, 10, 20] hX ?_ | refine awp_drawnG [0, 1, 2, 3, 4, 5, 6, 7, 8, 9, 10, 20] hX mixed ?_ | refine awp_ret ?_ | refine awp_skip ?_ | refine awp_exit ?_); (simp [go_sem]; try (refine ⟨by kernel_rfl, ?_⟩)))))
      first | refine callK_intro (Mul_no hb hc h2) rfl (by simp [go_sem]) rfl ?_ | refine callT_intro (Mul_no hb hc h2) rfl (by simp [go_sem]) rfl ?_
      try (simp [go_sem]; try (refine ⟨by kernel_rfl, ?_⟩))
      (repeat (first | refine awp_seq ?_ | refine awp_block ?_ | ((first | refine awp_runG [0, 1, 2, 3, 4, 5, 6, 7, 8, 9, 10, 20] hX ?_ | refine awp_drawnG [0, 1, 2, 3, 4, 5, 6, 7, 8, 9, 10, 20] hX mixed ?_ | refine awp_ret ?_ | refine awp_skip ?_ | refine awp_exit ?_); (simp [go_sem]; try (refine ⟨by kernel_rfl, ?_⟩)))))
      first | refine callK_intro (quotient_no (a * d) 0 0 6 (by decide)) rfl (by simp [go_sem]) rfl ?_ | refine callT_intro (quotient_no (a * d) 0 0 6 (by decide)) rfl (by simp [go_sem]) rfl ?_
      try (simp [go_sem]; try (refine ⟨by kernel_rfl, ?_⟩))
      (repeat (first | refine awp_seq ?_ | refine awp_block ?_ | ((first | refine awp_runG [0, 1, 2, 3, 4, 5, 6, 7, 8, 9, 10, 20] hX ?_ | refine awp_drawnG [0, 1, 2, 3, 4, 5, 6, 7, 8, 9, 10, 20] hX mixed ?_ | refine awp_ret ?_ | refine awp_skip ?_ | refine awp_exit ?_); (simp [go_sem]; try (refine ⟨by kernel_rfl, ?_⟩)))))
  · rw [resF_f fun h => h1 h.1]
    first | refine callK_intro (Mul_no ha hd h1) rfl (by simp [go_sem]) rfl ?_ | refine callT_intro (Mul_no ha hd h1) rfl (by simp [go_sem]) rfl ?_
    try (simp [go_sem]; try (refine ⟨by kernel_rfl, ?_⟩))
    (repeat (first | refine awp_seq ?_ | refine awp_block ?_ | ((first | refine awp_runG [0, 1, 2, 3, 4, 5, 6, 7, 8, 9, 10, 20] hX ?_ | refine awp_drawnG [0, 1, 2, 3, 4, 5, 6, 7, 8, 9, 10, 20] hX mixed ?_ | refine awp_ret ?_ | refine awp_skip ?_ | refine awp_exit ?_); (simp [go_sem]; try (refine ⟨by kernel_rfl, ?_⟩)))))
    by_cases h2 : rz (b * c)
    · first | refine callK_intro (Mul_ok hb hc h2 rfl) rfl (by simp [go_sem]) rfl ?_ | refine callT_intro (Mul_ok hb hc h2 rfl) rfl (by simp [go_sem]) rfl ?_
      try (simp [go_sem]; try (refine ⟨by kernel_rfl, ?_⟩))
      (repeat (first | refine awp_seq ?_ | refine awp_block ?_ | ((first | refine awp_runG [0, 1, 2, 3, 4, 5, 6, 7, 8, 9, 10, 20] hX ?_ | refine awp_drawnG [0, 1, 2, 3, 4, 5, 6, 7, 8, 9, 10, 20] hX mixed ?_ | refine awp_ret ?_ | refine awp_skip ?_ | refine awp_exit ?_); (simp [go_sem]; try (refine ⟨by kernel_rfl, ?_⟩)))))
      first | refine callK_intro (quotient_no 0 (b * c) 6 0 (by decide)) rfl (by simp [go_sem]) rfl ?_ | refine callT_intro (quotient_no 0 (b * c) 6 0 (by decide)) rfl (by simp [go_sem]) rfl ?_
      try (simp [go_sem]; try (refine ⟨by kernel_rfl, ?_⟩))
      (repeat (first | refine awp_seq ?_ | refine awp_block ?_ | ((first | refine awp_runG [0, 1, 2, 3, 4, 5, 6, 7, 8, 9, 10, 20] hX ?_ | refine awp_drawnG [0, 1, 2, 3, 4, 5, 6, 7, 8, 9, 10, 20] hX mixed ?_ | refine awp_ret ?_ | refine awp_skip ?_ | refine awp_exit ?_); (simp [go_sem]; try (refine ⟨by kernel_rfl, ?_⟩)))))
    · first | refine callK_intro (Mul_no hb hc h2) rfl (by simp [go_sem]) rfl ?_ | refine callT_intro (Mul_no hb hc h2) rfl (by simp [go_sem]) rfl ?_
      try (simp [go_sem]; try (refine ⟨by kernel_rfl, ?_⟩))
      (repeat (first | refine awp_seq ?_ | refine awp_block ?_ | ((first | refine awp_runG [0, 1, 2, 3, 4, 5, 6, 7, 8, 9, 10, 20] hX ?_ | refine awp_drawnG [0, 1, 2, 3, 4, 5, 6, 7, 8, 9, 10, 20] hX mixed ?_ | refine awp_ret ?_ | refine awp_skip ?_ | refine awp_exit ?_); (simp [go_sem]; try (refine ⟨by kernel_rfl, ?_⟩)))))
      first | refine callK_intro (quotient_no 0 0 6 6 (by decide)) rfl (by simp [go_sem]) rfl ?_ | refine callT_intro (quotient_no 0 0 6 6 (by decide)) rfl (by simp [go_sem]) rfl ?_
      try (simp [go_sem]; try (refine ⟨by kernel_rfl, ?_⟩))
      (repeat (first | refine awp_seq ?_ | refine awp_block ?_ | ((first | refine awp_runG [0, 1, 2, 3, 4, 5, 6, 7, 8, 9, 10, 20] hX ?_ | refine awp_drawnG [0, 1, 2, 3, 4, 5, 6, 7, 8, 9, 10, 20] hX mixed ?_ | refine awp_ret ?_ | refine awp_skip ?_ | refine awp_exit ?_); (simp [go_sem]; try (refine ⟨by kernel_rfl, ?_⟩)))))
theorem rf_neg {p q : Int} (h : rf p q) : rf (-p) q := ⟨rz_neg h.1, h.2.1, h.2.2.1, by rw [Int.neg_gcd]; exact h.2.2.2⟩
set_option maxHeartbeats 4000000 in
theorem Sub_f (a b c d : Int) (hab : rf a b) (hcd : rf c d) : Means false Tryz.prog 76 [frZ a b, frZ c d] (resF (sumP a d (-c) b ∧ rz (b * d)) (a * d + -c * b) (b * d)) := by
  have hA := Add_f a b (-c) d hab (rf_neg hcd)
  by_cases h : sumP a d (-c) b ∧ rz (b * d)
  · rw [resF_t h] at hA ⊢
    refine means_fn false 25 [.cell 4 41, .tmp 5] Tryz.func76 rfl rfl rfl (by simp) (by decide) rfl fun X hX => ?_
    (repeat (first | refine awp_seq ?_ | refine awp_block ?_ | ((first | refine awp_runG [0, 1, 2, 3, 4, 5, 13] hX ?_ | refine awp_drawnG [0, 1, 2, 3, 4, 5, 13] hX mixed ?_ | refine awp_ret ?_ | refine awp_skip ?_ | refine awp_exit ?_); (simp [go_sem]; try (refine ⟨by kernel_rfl, ?_⟩)))))
    first | refine callK_intro (Right_t a b hab) rfl (by simp [go_sem]) rfl ?_ | refine callT_intro (Right_t a b hab) rfl (by simp [go_sem]) rfl ?_
    try (simp [go_sem]; try (refine ⟨by kernel_rfl, ?_⟩))
    first | refine callG_intro (fun hg => Right_t c d hcd) rfl (by simp [go_sem]) rfl ?_ | refine callGT_intro (fun hg => Right_t c d hcd) rfl (by simp [go_sem]) rfl ?_
    try (simp [go_sem]; try (refine ⟨by kernel_rfl, ?_⟩))
    refine awp_cond (b := false) (by simp [go_sem]) (fun h => by cases h) (fun _ => ?_)
    (repeat (first | refine awp_seq ?_ | refine awp_block ?_ | ((first | refine awp_runG [0, 1, 2, 3, 4, 5, 13] hX ?_ | refine awp_drawnG [0, 1, 2, 3, 4, 5, 13] hX mixed ?_ | refine awp_ret ?_ | refine awp_skip ?_ | refine awp_exit ?_); (simp [go_sem]; try (refine ⟨by kernel_rfl, ?_⟩)))))
    first | refine callK_intro (Neg_m c hcd.1) rfl (by simp [go_sem]) rfl ?_ | refine callT_intro (Neg_m c hcd.1) rfl (by simp [go_sem]) rfl ?_
    try (simp [go_sem]; try (refine ⟨by kernel_rfl, ?_⟩))
    first | refine callK_intro (hA) rfl (by simp [go_sem]) rfl ?_ | refine callT_intro (hA) rfl (by simp [go_sem]) rfl ?_
    try (simp [go_sem]; try (refine ⟨by kernel_rfl, ?_⟩))
    (repeat (first | refine awp_seq ?_ | refine awp_block ?_ | ((first | refine awp_runG [0, 1, 2, 3, 4, 5, 13] hX ?_ | refine awp_drawnG [0, 1, 2, 3, 4, 5, 13] hX mixed ?_ | refine awp_ret ?_ | refine awp_skip ?_ | refine awp_exit ?_); (simp [go_sem]; try (refine ⟨by kernel_rfl, ?_⟩)))))
  · rw [resF_f h] at hA ⊢
    refine means_fn false 25 [.cell 4 41, .tmp 5] Tryz.func76 rfl rfl rfl (by simp) (by decide) rfl fun X hX => ?_
    (repeat (first | refine awp_seq ?_ | refine awp_block ?_ | ((first | refine awp_runG [0, 1, 2, 3, 4, 5, 13] hX ?_ | refine awp_drawnG [0, 1, 2, 3, 4, 5, 13] hX mixed ?_ | refine awp_ret ?_ | refine awp_skip ?_ | refine awp_exit ?_); (simp [go_sem]; try (refine ⟨by kernel_rfl, ?_⟩)))))
    first | refine callK_intro (Right_t a b hab) rfl (by simp [go_sem]) rfl ?_ | refine callT_intro (Right_t a b hab) rfl (by simp [go_sem]) rfl ?_
    try (simp [go_sem]; try (refine ⟨by kernel_rfl, ?_⟩))
    first | refine callG_intro (fun hg => Right_t c d hcd) rfl (by simp [go_sem]) rfl ?_ | refine callGT_intro (fun hg => Right_t c d hcd) rfl (by simp [go_sem]) rfl ?_
    try (simp [go_sem]; try (refine ⟨by kernel_rfl, ?_⟩))
    refine awp_cond (b := false) (by simp [go_sem]) (fun h => by cases h) (fun _ => ?_)
    (repeat (first | refine awp_seq ?_ | refine awp_block ?_ | ((first | refine awp_runG [0, 1, 2, 3, 4, 5, 13] hX ?_ | refine awp_drawnG [0, 1, 2, 3, 4, 5, 13] hX mixed ?_ | refine awp_ret ?_ | refine awp_skip ?_ | refine awp_exit ?_); (simp [go_sem]; try (refine ⟨by kernel_rfl, ?_⟩)))))
    first | refine callK_intro (Neg_m c hcd.1) rfl (by simp [go_sem]) rfl ?_ | refine callT_intro (Neg_m c hcd.1) rfl (by simp [go_sem]) rfl ?_
    try (simp [go_sem]; try (refine ⟨by kernel_rfl, ?_⟩))
    first | refine callK_intro (hA) rfl (by simp [go_sem]) rfl ?_ | refine callT_intro (hA) rfl (by simp [go_sem]) rfl ?_
    try (simp [go_sem]; try (refine ⟨by kernel_rfl, ?_⟩))
    (repeat (first | refine awp_seq ?_ | refine awp_block ?_ | ((first | refine awp_runG [0, 1, 2, 3, 4, 5, 13] hX ?_ | refine awp_drawnG [0, 1, 2, 3, 4, 5, 13] hX mixed ?_ | refine awp_ret ?_ | refine awp_skip ?_ | refine awp_exit ?_); (simp [go_sem]; try (refine ⟨by kernel_rfl, ?_⟩)))))
end Go.Proofs.YthibhamepjhfjaaGreatDoor

namespace Go.Proofs.YthibhamepjhfjaaGreatDoor
open Go.RowKit Go.Ab
attribute [local irreducible] AWP Go.Ab.Sub Means MeansH CallK CallG CallT CallGT
theorem dq_pos {p q : Int} (h : 0 < q) : dq p q = p / q ∧ dr p q = p % q := by
  unfold dq dr
  have e1 : sg q = 1 := by rcases sg_cases q with h' | h' | h' <;> omega
  have e2 : ab q = q := by unfold ab; rw [if_neg (by omega)]
  rw [e1, e2, Int.one_mul, Int.one_mul]; exact ⟨rfl, rfl⟩
theorem cmpI_one {a b : Int} (h : a < b) : cmpI a b = -1 := by unfold cmpI; rw [if_pos h]
theorem cmpI_two {a b : Int} (h : b < a) : cmpI a b = 1 := by unfold cmpI; rw [if_neg (by omega), if_pos h]
theorem cmp_one {p q r s : Int} (hq : 0 < q) (hs : 0 < s) (h : p / q ≠ r / s) : cmpI (p * s) (r * q) = cmpI (p / q) (r / s) := by
  have a0 := Int.mul_ediv_add_emod p q
  have a1 := Int.emod_nonneg p (show q ≠ 0 by omega)
  have a2 := Int.emod_lt_of_pos p hq
  have b0 := Int.mul_ediv_add_emod r s
  have b1 := Int.emod_nonneg r (show s ≠ 0 by omega)
  have b2 := Int.emod_lt_of_pos r hs
  generalize p / q = x at *
  generalize r / s = y at *
  generalize p % q = u at *
  generalize r % s = v at *
  subst a0 b0
  have hqs : 0 < q * s := Int.mul_pos hq hs
  have e : (q * x + u) * s - (s * y + v) * q = q * s * (x - y) + (u * s - v * q) := by grind
  have u1 : u * s ≤ (q - 1) * s := Int.mul_le_mul_of_nonneg_right (by omega) (by omega)
  have u0 : 0 ≤ u * s := Int.mul_nonneg a1 (by omega)
  have v1 : v * q ≤ (s - 1) * q := Int.mul_le_mul_of_nonneg_right (by omega) (by omega)
  have v0 : 0 ≤ v * q := Int.mul_nonneg b1 (by omega)
  have e1 : (q - 1) * s = q * s - s := by grind
  have e2 : (s - 1) * q = q * s - q := by grind
  rcases Int.lt_or_gt_of_ne h with h | h
  · rw [cmpI_one h, cmpI_one]
    have : q * s * (x - y) ≤ q * s * (-1) := Int.mul_le_mul_of_nonneg_left (by omega) (by omega)
    omega
  · rw [cmpI_two h, cmpI_two]
    have : q * s * 1 ≤ q * s * (x - y) := Int.mul_le_mul_of_nonneg_left (by omega) (by omega)
    omega
theorem cmpI_swap (a b : Int) : cmpI a b = -cmpI b a := by unfold cmpI; split <;> split <;> (try split) <;> omega
theorem cmpI_of_sub {a b c d : Int} (h : a - b = c - d) : cmpI a b = cmpI c d := by rw [← cmpI_sg, ← cmpI_sg, h]
theorem cmp_two {p q r s : Int} (h : p / q = r / s) : cmpI (p * s) (r * q) = cmpI (p % q * s) (r % s * q) := by
  have a0 := Int.mul_ediv_add_emod p q
  have b0 := Int.mul_ediv_add_emod r s
  rw [h] at a0
  apply cmpI_of_sub
  generalize r / s = y at *
  generalize p % q = u at *
  generalize r % s = v at *
  subst a0 b0
  grind
theorem cmp_zero {u v q s : Int} (hq : 0 < q) (hs : 0 < s) (hu : 0 ≤ u) (hv : 0 ≤ v) (h : u = 0 ∨ v = 0) : cmpI (u * s) (v * q) = sg u - sg v := by
  rcases h with h | h <;> subst h
  · rw [Int.zero_mul, ← cmpI_sg, Int.zero_sub, sg_neg, sg_mul]
    have : sg q = 1 := by rcases sg_cases q with h' | h' | h' <;> omega
    rw [this, Int.mul_one]
    show _ = (0 : Int) - _
    omega
  · rw [Int.zero_mul, ← cmpI_sg, Int.sub_zero, sg_mul]
    have : sg s = 1 := by rcases sg_cases s with h' | h' | h' <;> omega
    rw [this, Int.mul_one]
    show _ = _ - (0 : Int)
    omega
theorem rz_mono {a b : Int} (h : ab a ≤ ab b) (hb : rz b) : rz a := by unfold rz at *; omega
theorem rz_mod {p q : Int} (hq : 0 < q) (h : rz q) : rz (p % q) := by
  have a1 := Int.emod_nonneg p (show q ≠ 0 by omega)
  have a2 := Int.emod_lt_of_pos p hq
  refine rz_mono ?_ h
  unfold ab; split <;> split <;> omega
theorem rz_div {p q : Int} (hq : 0 < q) (h : rz p) : rz (p / q) := by
  have := dq_bd (z := p) (w := q) (by omega)
  rw [(dq_pos hq).1] at this
  exact rz_mono this h
set_option maxHeartbeats 4000000 in
set_option maxRecDepth 20000 in
theorem Compare_f (a b c d : Int) (hab : rf a b) (hcd : rf c d) : Means false Tryz.prog 22 [frZ a b, frZ c d] (ii (cmpI (a * d) (c * b))) := by
  have hb0 := hab.2.2.1
  have hd0 := hcd.2.2.1
  refine means_fn false 78 [.tmp 4] Tryz.func22 rfl rfl rfl (by simp) (by decide) rfl fun X hX => ?_
  (repeat (first | refine awp_seq ?_ | refine awp_block ?_ | ((first | refine awp_runG [0, 1, 2, 3, 4, 5, 6, 7, 8, 9, 10, 11, 13, 14, 16, 24, 52, 58] hX ?_ | refine awp_drawnG [0, 1, 2, 3, 4, 5, 6, 7, 8, 9, 10, 11, 13, 14, 16, 24, 52, 58] hX mixed ?_ | refine awp_ret ?_ | refine awp_skip ?_ | refine awp_exit ?_); (simp [go_sem]; try (refine ⟨by kernel_rfl, ?_⟩)))))
  first | refine callK_intro (Right_t a b hab) rfl (by simp [go_sem]) rfl ?_ | refine callT_intro (Right_t a b hab) rfl (by simp [go_sem]) rfl ?_
  try (simp [go_sem]; try (refine ⟨by kernel_rfl, ?_⟩))
  first | refine callG_intro (fun hg => Right_t c d hcd) rfl (by simp [go_sem]) rfl ?_ | refine callGT_intro (fun hg => Right_t c d hcd) rfl (by simp [go_sem]) rfl ?_
  try (simp [go_sem]; try (refine ⟨by kernel_rfl, ?_⟩))
  refine awp_cond (b := false) (by simp [go_sem]) (fun h => by cases h) (fun _ => ?_)
  (repeat (first | refine awp_seq ?_ | refine awp_block ?_ | ((first | refine awp_runG [0, 1, 2, 3, 4, 5, 6, 7, 8, 9, 10, 11, 13, 14, 16, 24, 52, 58] hX ?_ | refine awp_skip ?_ | refine awp_exit ?_); (simp [go_sem]; try (refine ⟨by kernel_rfl, ?_⟩)))))
  refine awp_drawnA [0, 1, 2, 3, 4, 5, 6, 7, 8, 9, 10, 11, 13, 14, 16, 24, 52, 58] 8 4 hX mixed ?_; (simp [go_sem]; try (refine ⟨by kernel_rfl, ?_⟩))
  (repeat (first | refine awp_seq ?_ | refine awp_block ?_ | ((first | refine awp_runG [0, 1, 2, 3, 4, 5, 6, 7, 8, 9, 10, 11, 13, 14, 16, 24, 52, 58] hX ?_ | refine awp_drawnG [0, 1, 2, 3, 4, 5, 6, 7, 8, 9, 10, 11, 13, 14, 16, 24, 52, 58] hX mixed ?_ | refine awp_ret ?_ | refine awp_skip ?_ | refine awp_exit ?_); (simp [go_sem]; try (refine ⟨by kernel_rfl, ?_⟩)))))
  refine awp_loop (fun x : Int × Int × Int × Int × Int => ⟨mkE [(5, .el 0 2 0 0), (6, .el 1 2 0 0), (7, .el 2 2 0 0), (8, .el 3 2 0 0), (9, ii x.2.2.2.2)], [.row ⟨39, 2, [bigZ x.1]⟩, .row ⟨39, 2, [bigZ x.2.1]⟩, .row ⟨39, 2, [bigZ x.2.2.1]⟩, .row ⟨39, 2, [bigZ x.2.2.2.1]⟩]⟩)
    (fun x => rz x.1 ∧ rz x.2.1 ∧ rz x.2.2.1 ∧ rz x.2.2.2.1 ∧ 0 < x.2.1 ∧ 0 < x.2.2.2.1 ∧ (x.2.2.2.2 = 1 ∨ x.2.2.2.2 = -1) ∧ x.2.2.2.2 * cmpI (x.1 * x.2.2.2.1) (x.2.2.1 * x.2.1) = cmpI (a * d) (c * b)) (fun x => x.2.1.toNat) (a, b, c, d, 1) ?_ ?_ ?_
  · refine sub_of _ [.old 2 ⟨39, 2, [bigZ a]⟩, .old 3 ⟨39, 2, [bigZ b]⟩, .old 4 ⟨39, 2, [bigZ c]⟩, .old 5 ⟨39, 2, [bigZ d]⟩] (by simp [go_sem]) ?_
    simp [go_sem]
  · exact ⟨hab.1, hab.2.1, hcd.1, hcd.2.1, hb0, hd0, .inl rfl, by simp⟩
  · rintro ⟨p, q, r, s, e⟩ ⟨zp, zq, zr, zs, hq, hs, he, hE⟩
    simp only [] at zp zq zr zs hq hs he hE
    have hu0 := Int.emod_nonneg p (show q ≠ 0 by omega)
    have hu1 := Int.emod_lt_of_pos p hq
    have hv0 := Int.emod_nonneg r (show s ≠ 0 by omega)
    have hv1 := Int.emod_lt_of_pos r hs
    have zx := rz_div hq zp
    have zy := rz_div hs zr
    have zu := rz_mod (p := p) hq zq
    have zv := rz_mod (p := r) hs zs
    have c1 := cmpI_bd (p / q) (r / s)
    have c2 := cmpI_zero (p / q) (r / s)
    have s1 := sg_bd (p % q)
    have s2 := sg_bd (r % s)
    (repeat (first | refine awp_seq ?_ | refine awp_block ?_ | ((first | refine awp_runG [0, 1, 2, 3, 4, 5, 6, 7, 8, 9, 10, 11, 13, 14, 16, 24, 52, 58] hX ?_ | refine awp_drawnG [0, 1, 2, 3, 4, 5, 6, 7, 8, 9, 10, 11, 13, 14, 16, 24, 52, 58] hX mixed ?_ | refine awp_ret ?_ | refine awp_skip ?_ | refine awp_exit ?_); (simp [go_sem]; try (refine ⟨by kernel_rfl, ?_⟩)))))
    first | refine callK_intro (Div_ok zp zq (by omega) (dq_pos hq).1 (dq_pos hq).2) rfl (by simp [go_sem]) rfl ?_ | refine callT_intro (Div_ok zp zq (by omega) (dq_pos hq).1 (dq_pos hq).2) rfl (by simp [go_sem]) rfl ?_
    try (simp [go_sem]; try (refine ⟨by kernel_rfl, ?_⟩))
    (repeat (first | refine awp_seq ?_ | refine awp_block ?_ | ((first | refine awp_runG [0, 1, 2, 3, 4, 5, 6, 7, 8, 9, 10, 11, 13, 14, 16, 24, 52, 58] hX ?_ | refine awp_drawnG [0, 1, 2, 3, 4, 5, 6, 7, 8, 9, 10, 11, 13, 14, 16, 24, 52, 58] hX mixed ?_ | refine awp_ret ?_ | refine awp_skip ?_ | refine awp_exit ?_); (simp [go_sem]; try (refine ⟨by kernel_rfl, ?_⟩)))))
    first | refine callK_intro (Div_ok zr zs (by omega) (dq_pos hs).1 (dq_pos hs).2) rfl (by simp [go_sem]) rfl ?_ | refine callT_intro (Div_ok zr zs (by omega) (dq_pos hs).1 (dq_pos hs).2) rfl (by simp [go_sem]) rfl ?_
    try (simp [go_sem]; try (refine ⟨by kernel_rfl, ?_⟩))
    (repeat (first | refine awp_seq ?_ | refine awp_block ?_ | ((first | refine awp_runG [0, 1, 2, 3, 4, 5, 6, 7, 8, 9, 10, 11, 13, 14, 16, 24, 52, 58] hX ?_ | refine awp_drawnG [0, 1, 2, 3, 4, 5, 6, 7, 8, 9, 10, 11, 13, 14, 16, 24, 52, 58] hX mixed ?_ | refine awp_ret ?_ | refine awp_skip ?_ | refine awp_exit ?_); (simp [go_sem]; try (refine ⟨by kernel_rfl, ?_⟩)))))
    first | refine callK_intro (Compare_m _ _ zx zy) rfl (by simp [go_sem]) rfl ?_ | refine callT_intro (Compare_m _ _ zx zy) rfl (by simp [go_sem]) rfl ?_
    try (simp [go_sem]; try (refine ⟨by kernel_rfl, ?_⟩))
    (repeat (first | refine awp_seq ?_ | refine awp_block ?_ | ((first | refine awp_runG [0, 1, 2, 3, 4, 5, 6, 7, 8, 9, 10, 11, 13, 14, 16, 24, 52, 58] hX ?_ | refine awp_drawnG [0, 1, 2, 3, 4, 5, 6, 7, 8, 9, 10, 11, 13, 14, 16, 24, 52, 58] hX mixed ?_ | refine awp_ret ?_ | refine awp_skip ?_ | refine awp_exit ?_); (simp [go_sem]; try (refine ⟨by kernel_rfl, ?_⟩)))))
    by_cases hxy : p / q = r / s
    · have hc0 : cmpI (p / q) (r / s) = 0 := c2.2 hxy
      refine awp_cond (b := false) (by simp [go_sem, hc0]) (fun h => by cases h) (fun _ => ?_)
      (repeat (first | refine awp_seq ?_ | refine awp_block ?_ | ((first | refine awp_runG [0, 1, 2, 3, 4, 5, 6, 7, 8, 9, 10, 11, 13, 14, 16, 24, 52, 58] hX ?_ | refine awp_drawnG [0, 1, 2, 3, 4, 5, 6, 7, 8, 9, 10, 11, 13, 14, 16, 24, 52, 58] hX mixed ?_ | refine awp_ret ?_ | refine awp_skip ?_ | refine awp_exit ?_); (simp [go_sem]; try (refine ⟨by kernel_rfl, ?_⟩)))))
      have sgu : sg (p % q) = 0 ↔ p % q = 0 := by rcases sg_cases (p % q) with h | h | h <;> omega
      have sgv : sg (r % s) = 0 ↔ r % s = 0 := by rcases sg_cases (r % s) with h | h | h <;> omega
      rw [cmp_two hxy] at hE
      by_cases huv : p % q = 0 ∨ r % s = 0
      · refine awp_cond (b := true) (by simp [go_sem, sgu, sgv, huv]) (fun _ => ?_) (fun h => by cases h)
        rw [cmp_zero hq hs hu0 hv0 huv] at hE
        have w1 := w64 (x := sg (p % q) - sg (r % s)) (by omega) (by omega)
        have w2 := w64 (x := e * (sg (p % q) - sg (r % s))) (by rcases he with rfl | rfl <;> omega) (by rcases he with rfl | rfl <;> omega)
        rw [hE] at w2
        (repeat (first | refine awp_seq ?_ | refine awp_block ?_ | ((first | refine awp_runG [0, 1, 2, 3, 4, 5, 6, 7, 8, 9, 10, 11, 13, 14, 16, 24, 52, 58] hX ?_ | refine awp_drawnG [0, 1, 2, 3, 4, 5, 6, 7, 8, 9, 10, 11, 13, 14, 16, 24, 52, 58] hX mixed ?_ | refine awp_ret ?_ | refine awp_skip ?_ | refine awp_exit ?_); (simp [go_sem, w1, hE, w2]; try (refine ⟨by kernel_rfl, ?_⟩)))))
      · refine awp_cond (b := false) (by simp [go_sem, sgu, sgv]; omega) (fun h => by cases h) (fun _ => ?_)
        have w1 := w64 (x := -e) (by omega) (by omega)
        (repeat (first | refine awp_seq ?_ | refine awp_block ?_ | ((first | refine awp_runG [0, 1, 2, 3, 4, 5, 6, 7, 8, 9, 10, 11, 13, 14, 16, 24, 52, 58] hX ?_ | refine awp_drawnG [0, 1, 2, 3, 4, 5, 6, 7, 8, 9, 10, 11, 13, 14, 16, 24, 52, 58] hX mixed ?_ | refine awp_ret ?_ | refine awp_skip ?_ | refine awp_exit ?_); (simp [go_sem, w1]; try (refine ⟨by kernel_rfl, ?_⟩)))))
        refine ⟨q, p % q, s, r % s, -e, ⟨zq, zu, zs, zv, by omega, by omega, by omega, ?_⟩, by omega, ?_⟩
        · rw [← hE, cmpI_swap (q * (r % s)), Int.mul_comm s, Int.mul_comm q]
          grind
        · refine sub_of _ [.old 0 ⟨39, 2, [bigZ q]⟩, .old 1 ⟨39, 2, [bigZ (p % q)]⟩, .old 2 ⟨39, 2, [bigZ s]⟩, .old 3 ⟨39, 2, [bigZ (r % s)]⟩] (by simp [go_sem]) ?_
          simp [go_sem]
    · have hc0 : ¬ cmpI (p / q) (r / s) = 0 := fun h => hxy (c2.1 h)
      refine awp_cond (b := true) (by simp [go_sem, hc0]) (fun _ => ?_) (fun h => by cases h)
      rw [cmp_one hq hs hxy] at hE
      have w1 := w64 (x := e * cmpI (p / q) (r / s)) (by rcases he with rfl | rfl <;> omega) (by rcases he with rfl | rfl <;> omega)
      rw [hE] at w1
      (repeat (first | refine awp_seq ?_ | refine awp_block ?_ | ((first | refine awp_runG [0, 1, 2, 3, 4, 5, 6, 7, 8, 9, 10, 11, 13, 14, 16, 24, 52, 58] hX ?_ | refine awp_drawnG [0, 1, 2, 3, 4, 5, 6, 7, 8, 9, 10, 11, 13, 14, 16, 24, 52, 58] hX mixed ?_ | refine awp_ret ?_ | refine awp_skip ?_ | refine awp_exit ?_); (simp [go_sem, hE, w1]; try (refine ⟨by kernel_rfl, ?_⟩)))))
end Go.Proofs.YthibhamepjhfjaaGreatDoor

namespace Go.Proofs
open Go.Shelf
def Tryz.lays156_ren : Go.Shelf.Ren := ⟨fun | 156 => 121 | 165 => 129 | 166 => 130 | 169 => 132 | 240 => 138 | 241 => 139 | 276 => 144 | 277 => 145 | n => n, fun | 31 => 111 | 9 => 9 | 3 => 3 | 4 => 4 | 0 => 0 | 20 => 20 | 72 => 124 | 76 => 128 | 70 => 121 | 37 => 122 | 75 => 127 | 127 => 138 | 164 => 144 | 5 => 5 | 80 => 131 | n => n, fun | n => n⟩
theorem Tryz.lays156 : Go.Proofs.Lays.n156 Tryz.prog Tryz.lays156_ren := {
  mixed := by kernel_rfl
  f156 := Tryz.func121.trans (congrArg some (by kernel_rfl))
  f165 := Tryz.func129.trans (congrArg some (by kernel_rfl))
  f166 := Tryz.func130.trans (congrArg some (by kernel_rfl))
  f169 := Tryz.func132.trans (congrArg some (by kernel_rfl))
  f240 := Tryz.func138.trans (congrArg some (by kernel_rfl))
  f241 := Tryz.func139.trans (congrArg some (by kernel_rfl))
  f276 := Tryz.func144.trans (congrArg some (by kernel_rfl))
  f277 := Tryz.func145.trans (congrArg some (by kernel_rfl))
  t0 := Tryz.underlying0
  a0 := Tryz.isAgg0
  z0 := Tryz.sizeOf0
  v0 := Tryz.zeroValue0
  t3 := Tryz.underlying3
  a3 := Tryz.isAgg3
  z3 := Tryz.sizeOf3
  v3 := Tryz.zeroValue3
  t4 := Tryz.underlying4
  a4 := Tryz.isAgg4
  z4 := Tryz.sizeOf4
  v4 := Tryz.zeroValue4
  t9 := Tryz.underlying9
  a9 := Tryz.isAgg9
  z9 := Tryz.sizeOf9
  v9 := Tryz.zeroValue9
  t20 := Tryz.underlying20
  a20 := Tryz.isAgg20
  z20 := Tryz.sizeOf20
  v20 := Tryz.zeroValue20
  t31 := Tryz.underlying111
  a31 := Tryz.isAgg111
  z31 := Tryz.sizeOf111
  v31 := Tryz.zeroValue111
  t37 := Tryz.underlying122
  a37 := Tryz.isAgg122
  z37 := Tryz.sizeOf122
  v37 := Tryz.zeroValue122
  t70 := Tryz.underlying121
  a70 := Tryz.isAgg121
  z70 := Tryz.sizeOf121
  v70 := Tryz.zeroValue121
  t72 := Tryz.underlying124
  a72 := Tryz.isAgg124
  z72 := Tryz.sizeOf124
  v72 := Tryz.zeroValue124
  t75 := Tryz.underlying127
  a75 := Tryz.isAgg127
  z75 := Tryz.sizeOf127
  v75 := Tryz.zeroValue127
  t76 := Tryz.underlying128
  a76 := Tryz.isAgg128
  z76 := Tryz.sizeOf128
  v76 := Tryz.zeroValue128
  t127 := Tryz.underlying138
  a127 := Tryz.isAgg138
  z127 := Tryz.sizeOf138
  v127 := Tryz.zeroValue138
  t164 := Tryz.underlying144
  a164 := Tryz.isAgg144
  z164 := Tryz.sizeOf144
  v164 := Tryz.zeroValue144 }
theorem Tryz.Builder_Extra_156 : Builder.Extra Tryz.prog Tryz.lays156_ren := {
  sizeBuilder := by kernel_rfl
  liesBuilder := by kernel_rfl
  t5 := Tryz.underlying5
  a5 := Tryz.isAgg5
  z5 := Tryz.sizeOf5
  v5 := Tryz.zeroValue5
  infoByte := by kernel_rfl
  cellsByte := by kernel_rfl
  sizeByte := by kernel_rfl
  neB5 := by decide }
open Go.RowKit in
theorem Tryz.strings_Join_none (a : Option Addr) (c : Nat) (sep : ByteArray) (w : World) :
    Calls Tryz.prog 121 #[.slice a 0 c, .string sep] w fun e w' => e = .returned (.string ⟨#[]⟩) ∧ w' = w := Any.strings_Join_none Tryz.lays156 Tryz.Builder_Extra_156 a c sep w
open Go.RowKit in
theorem Tryz.strings_Join (bk o c : Nat) (xs : List ByteArray) (sep : ByteArray) (w : World) (hcells : ∀ (j : Nat) x, xs[j]? = some x → w.cell? ⟨bk, o + j, none⟩ = some (.string x)) (hbk : bk < w.heap.size) (hN : xs.length ≤ 140737488355328) (hcap : xs.length ≤ c) (hlen : (Lib.join (xs.map (·.data.toList)) sep.data.toList).length ≤ 140737488355328) :
    Calls Tryz.prog 121 #[.slice (some ⟨bk, o, none⟩) xs.length c, .string sep] w fun e w' => e = .returned (.string ⟨(Lib.join (xs.map (·.data.toList)) sep.data.toList).toArray⟩) ∧ Below w.heap.size w w' := Any.strings_Join Tryz.lays156 Tryz.Builder_Extra_156 bk o c xs sep w hcells hbk hN hcap hlen
def Tryz.laysM171_ren : Go.Shelf.Ren := ⟨fun | 171 => 118 | 243 => 126 | 246 => 134 | 283 => 140 | 284 => 141 | 285 => 142 | 286 => 143 | 129 => 147 | 317 => 146 | 318 => 148 | 319 => 149 | 320 => 150 | 337 => 151 | 338 => 152 | n => n, fun | 3 => 3 | 9 => 9 | 2 => 2 | 4 => 4 | 171 => 139 | 0 => 0 | 53 => 88 | 37 => 122 | 5 => 5 | 173 => 142 | 212 => 149 | 51 => 133 | 20 => 20 | 213 => 150 | 46 => 94 | 232 => 153 | 233 => 154 | n => n, fun | 17 => 0 | 18 => 2 | 19 => 3 | n => n⟩
theorem Tryz.laysM171 : Go.Proofs.LaysM.n171 Tryz.prog Tryz.laysM171_ren := {
  mixed := by kernel_rfl
  f129 := Tryz.func147.trans (congrArg some (by kernel_rfl))
  f171 := Tryz.func118.trans (congrArg some (by kernel_rfl))
  f243 := Tryz.func126.trans (congrArg some (by kernel_rfl))
  f246 := Tryz.func134.trans (congrArg some (by kernel_rfl))
  f283 := Tryz.func140.trans (congrArg some (by kernel_rfl))
  f284 := Tryz.func141.trans (congrArg some (by kernel_rfl))
  f285 := Tryz.func142.trans (congrArg some (by kernel_rfl))
  f286 := Tryz.func143.trans (congrArg some (by kernel_rfl))
  f317 := Tryz.func146.trans (congrArg some (by kernel_rfl))
  f318 := Tryz.func148.trans (congrArg some (by kernel_rfl))
  f319 := Tryz.func149.trans (congrArg some (by kernel_rfl))
  f320 := Tryz.func150.trans (congrArg some (by kernel_rfl))
  f337 := Tryz.func151.trans (congrArg some (by kernel_rfl))
  f338 := Tryz.func152.trans (congrArg some (by kernel_rfl))
  t0 := Tryz.underlying0
  a0 := Tryz.isAgg0
  z0 := Tryz.sizeOf0
  v0 := Tryz.zeroValue0
  t2 := Tryz.underlying2
  a2 := Tryz.isAgg2
  z2 := Tryz.sizeOf2
  v2 := Tryz.zeroValue2
  t3 := Tryz.underlying3
  a3 := Tryz.isAgg3
  z3 := Tryz.sizeOf3
  v3 := Tryz.zeroValue3
  t4 := Tryz.underlying4
  a4 := Tryz.isAgg4
  z4 := Tryz.sizeOf4
  v4 := Tryz.zeroValue4
  t5 := Tryz.underlying5
  a5 := Tryz.isAgg5
  z5 := Tryz.sizeOf5
  v5 := Tryz.zeroValue5
  t9 := Tryz.underlying9
  a9 := Tryz.isAgg9
  z9 := Tryz.sizeOf9
  v9 := Tryz.zeroValue9
  t20 := Tryz.underlying20
  a20 := Tryz.isAgg20
  z20 := Tryz.sizeOf20
  v20 := Tryz.zeroValue20
  t37 := Tryz.underlying122
  a37 := Tryz.isAgg122
  z37 := Tryz.sizeOf122
  v37 := Tryz.zeroValue122
  t46 := Tryz.underlying94
  a46 := Tryz.isAgg94
  z46 := Tryz.sizeOf94
  v46 := Tryz.zeroValue94
  t51 := Tryz.underlying133
  a51 := Tryz.isAgg133
  z51 := Tryz.sizeOf133
  v51 := Tryz.zeroValue133
  t53 := Tryz.underlying88
  a53 := Tryz.isAgg88
  z53 := Tryz.sizeOf88
  v53 := Tryz.zeroValue88
  t171 := Tryz.underlying139
  a171 := Tryz.isAgg139
  z171 := Tryz.sizeOf139
  v171 := Tryz.zeroValue139
  t173 := Tryz.underlying142
  a173 := Tryz.isAgg142
  z173 := Tryz.sizeOf142
  v173 := Tryz.zeroValue142
  t212 := Tryz.underlying149
  a212 := Tryz.isAgg149
  z212 := Tryz.sizeOf149
  v212 := Tryz.zeroValue149
  t213 := Tryz.underlying150
  a213 := Tryz.isAgg150
  z213 := Tryz.sizeOf150
  t232 := Tryz.underlying153
  a232 := Tryz.isAgg153
  z232 := Tryz.sizeOf153
  v232 := Tryz.zeroValue153
  t233 := Tryz.underlying154
  a233 := Tryz.isAgg154
  z233 := Tryz.sizeOf154
  v233 := Tryz.zeroValue154
  g17 := by kernel_rfl
  g18 := by kernel_rfl
  g19 := by kernel_rfl
  i0 := by kernel_rfl
  i2 := by kernel_rfl
  i3 := by kernel_rfl
  i4 := by kernel_rfl
  i5 := by kernel_rfl
  i9 := by kernel_rfl
  i20 := by kernel_rfl
  i37 := by kernel_rfl
  i46 := by kernel_rfl
  i51 := by kernel_rfl
  i53 := by kernel_rfl
  i171 := by kernel_rfl
  i173 := by kernel_rfl
  i212 := by kernel_rfl
  i232 := by kernel_rfl
  i233 := by kernel_rfl
  m17 := by kernel_rfl
  m18 := by kernel_rfl
  m19 := by kernel_rfl }
open Go.RowKit Go.Sort Go.Lib in
theorem Tryz.strconv_Itoa (n : Int) (h0 : -9223372036854775808 ≤ n) (h1 : n ≤ 9223372036854775807) (w : World) (htab : Lib.TabIs Tryz.prog w "internal/strconv.uint64pow10" .u64 Lib.pow10Tab) :
    Calls Tryz.prog 118 #[.int .i64 n] w fun e w' => e = .returned (.string ⟨(Lib.itoa n).toArray⟩) ∧ ∃ k os, w' = grow (w.drewN k) os := Any.strconv_Itoa Tryz.laysM171 n h0 h1 w htab
def Tryz.lays105_ren : Go.Shelf.Ren := ⟨fun | 105 => 119 | 212 => 127 | 99 => 128 | 165 => 129 | 166 => 130 | 170 => 131 | 169 => 132 | 263 => 135 | 264 => 136 | 206 => 137 | 240 => 138 | 241 => 139 | 276 => 144 | 277 => 145 | n => n, fun | 9 => 9 | 3 => 3 | 4 => 4 | 20 => 20 | 0 => 0 | 46 => 94 | 109 => 118 | 5 => 5 | 72 => 124 | 76 => 128 | 51 => 133 | 146 => 134 | 53 => 88 | 148 => 136 | 70 => 121 | 37 => 122 | 75 => 127 | 127 => 138 | 164 => 144 | 80 => 131 | n => n, fun | n => n⟩
theorem Tryz.lays105 : Go.Proofs.Lays.n105 Tryz.prog Tryz.lays105_ren := {
  mixed := by kernel_rfl
  f99 := Tryz.func128.trans (congrArg some (by kernel_rfl))
  f105 := Tryz.func119.trans (congrArg some (by kernel_rfl))
  f165 := Tryz.func129.trans (congrArg some (by kernel_rfl))
  f166 := Tryz.func130.trans (congrArg some (by kernel_rfl))
  f169 := Tryz.func132.trans (congrArg some (by kernel_rfl))
  f170 := Tryz.func131.trans (congrArg some (by kernel_rfl))
  f206 := Tryz.func137.trans (congrArg some (by kernel_rfl))
  f212 := Tryz.func127.trans (congrArg some (by kernel_rfl))
  f240 := Tryz.func138.trans (congrArg some (by kernel_rfl))
  f241 := Tryz.func139.trans (congrArg some (by kernel_rfl))
  f263 := Tryz.func135.trans (congrArg some (by kernel_rfl))
  f264 := Tryz.func136.trans (congrArg some (by kernel_rfl))
  f276 := Tryz.func144.trans (congrArg some (by kernel_rfl))
  f277 := Tryz.func145.trans (congrArg some (by kernel_rfl))
  t0 := Tryz.underlying0
  a0 := Tryz.isAgg0
  z0 := Tryz.sizeOf0
  v0 := Tryz.zeroValue0
  t3 := Tryz.underlying3
  a3 := Tryz.isAgg3
  z3 := Tryz.sizeOf3
  v3 := Tryz.zeroValue3
  t4 := Tryz.underlying4
  a4 := Tryz.isAgg4
  z4 := Tryz.sizeOf4
  v4 := Tryz.zeroValue4
  t5 := Tryz.underlying5
  a5 := Tryz.isAgg5
  z5 := Tryz.sizeOf5
  v5 := Tryz.zeroValue5
  t9 := Tryz.underlying9
  a9 := Tryz.isAgg9
  z9 := Tryz.sizeOf9
  v9 := Tryz.zeroValue9
  t20 := Tryz.underlying20
  a20 := Tryz.isAgg20
  z20 := Tryz.sizeOf20
  v20 := Tryz.zeroValue20
  t37 := Tryz.underlying122
  a37 := Tryz.isAgg122
  z37 := Tryz.sizeOf122
  v37 := Tryz.zeroValue122
  t46 := Tryz.underlying94
  a46 := Tryz.isAgg94
  z46 := Tryz.sizeOf94
  v46 := Tryz.zeroValue94
  t51 := Tryz.underlying133
  a51 := Tryz.isAgg133
  z51 := Tryz.sizeOf133
  v51 := Tryz.zeroValue133
  t53 := Tryz.underlying88
  a53 := Tryz.isAgg88
  z53 := Tryz.sizeOf88
  v53 := Tryz.zeroValue88
  t70 := Tryz.underlying121
  a70 := Tryz.isAgg121
  z70 := Tryz.sizeOf121
  v70 := Tryz.zeroValue121
  t72 := Tryz.underlying124
  a72 := Tryz.isAgg124
  z72 := Tryz.sizeOf124
  v72 := Tryz.zeroValue124
  t75 := Tryz.underlying127
  a75 := Tryz.isAgg127
  z75 := Tryz.sizeOf127
  v75 := Tryz.zeroValue127
  t76 := Tryz.underlying128
  a76 := Tryz.isAgg128
  z76 := Tryz.sizeOf128
  v76 := Tryz.zeroValue128
  t109 := Tryz.underlying118
  a109 := Tryz.isAgg118
  z109 := Tryz.sizeOf118
  v109 := Tryz.zeroValue118
  t127 := Tryz.underlying138
  a127 := Tryz.isAgg138
  z127 := Tryz.sizeOf138
  v127 := Tryz.zeroValue138
  t146 := Tryz.underlying134
  a146 := Tryz.isAgg134
  z146 := Tryz.sizeOf134
  v146 := Tryz.zeroValue134
  t148 := Tryz.underlying136
  a148 := Tryz.isAgg136
  z148 := Tryz.sizeOf136
  v148 := Tryz.zeroValue136
  t164 := Tryz.underlying144
  a164 := Tryz.isAgg144
  z164 := Tryz.sizeOf144
  v164 := Tryz.zeroValue144 }
theorem Tryz.Builder_Extra_105 : Builder.Extra Tryz.prog Tryz.lays105_ren := {
  sizeBuilder := by kernel_rfl
  liesBuilder := by kernel_rfl
  t5 := Tryz.underlying5
  a5 := Tryz.isAgg5
  z5 := Tryz.sizeOf5
  v5 := Tryz.zeroValue5
  infoByte := by kernel_rfl
  cellsByte := by kernel_rfl
  sizeByte := by kernel_rfl
  neB5 := by decide }
open Go.RowKit Go.Lib in
theorem Tryz.strings_Repeat (s : ByteArray) (c : Nat) (w : World) (hc : c ≤ 9223372036854775807) (hlen : s.size * c ≤ 140737488355328) :
    Calls Tryz.prog 119 #[.string s, .int .i64 c] w fun e w' => e = .returned (.string ⟨(Lib.repeatL s.data.toList c).toArray⟩) ∧ Below w.heap.size w w' := Any.strings_Repeat Tryz.lays105 Tryz.Builder_Extra_105 s c w hc hlen
def Tryz.laysNm217_ren : Go.Shelf.Ren := ⟨fun | 17 => 120 | n => n, fun | 24 => 111 | 9 => 9 | 3 => 3 | 4 => 4 | 0 => 0 | n => n, fun | n => n⟩
theorem Tryz.laysNm217 : Go.Proofs.Lays2.n17 Tryz.prog Tryz.laysNm217_ren := {
  mixed := by kernel_rfl
  f17 := Tryz.func120.trans (congrArg some (by kernel_rfl))
  t0 := Tryz.underlying0
  a0 := Tryz.isAgg0
  z0 := Tryz.sizeOf0
  v0 := Tryz.zeroValue0
  t3 := Tryz.underlying3
  a3 := Tryz.isAgg3
  z3 := Tryz.sizeOf3
  v3 := Tryz.zeroValue3
  t4 := Tryz.underlying4
  a4 := Tryz.isAgg4
  z4 := Tryz.sizeOf4
  v4 := Tryz.zeroValue4
  t9 := Tryz.underlying9
  a9 := Tryz.isAgg9
  z9 := Tryz.sizeOf9
  v9 := Tryz.zeroValue9
  t24 := Tryz.underlying111
  a24 := Tryz.isAgg111
  z24 := Tryz.sizeOf111
  v24 := Tryz.zeroValue111 }
open Go.RowKit Go.Lib Go.Sort in
theorem Tryz.slices_Reverse_string_empty (a : Option Addr) (cap : Nat) (w : World) :
    Calls Tryz.prog 120 #[.slice a 0 cap] w fun e w' => e = .returned (.tuple #[]) ∧ w' = w := Any.slices_Reverse_string_empty Tryz.laysNm217 a cap w
open Go.RowKit Go.Lib Go.Sort in
theorem Tryz.slices_Reverse_string_cells (b off n c : Nat) (Sx : Nat → ByteArray) (w : World) (hbig : n ≤ 9223372036854775807) (hc : ∀ i, i < n → w.cell? ⟨b, off + i, none⟩ = some (.string (Sx i))) (hf : ∀ j, j < n → w.frozen? ⟨b, off + j, none⟩ = false) :
    Calls Tryz.prog 120 #[.slice (some ⟨b, off, none⟩) n c] w fun e w' => e = .returned (.tuple #[]) ∧ ∃ q, w' = (w.drewN q).setCells b off ((Lib.strsOf Sx n).reverse.map encStr) := Any.slices_Reverse_string_cells Tryz.laysNm217 b off n c Sx w hbig hc hf
end Go.Proofs

namespace Go.Proofs.YthibhamepjhfjaaGreatDoor
open Go.RowKit Go.Ab
abbrev sb (l : List UInt8) : AV := .v (.string ⟨l.toArray⟩)
theorem pow10 {w : World} {M : Nat → Prop} (h : GlobW w M) : Lib.TabIs Tryz.prog w "internal/strconv.uint64pow10" .u64 Lib.pow10Tab := by
  have := glob_var h (P := Tryz.prog) (n := "internal/strconv.uint64pow10") (g := 0) (cs := Lib.pow10Tab.map fun z => Value.int .u64 z) (by kernel_rfl) (by rw [globs]; exact List.mem_cons.2 (.inl (by kernel_rfl)))
  exact this
theorem itoa_m (n : Int) (h0 : 0 ≤ n) (h1 : n ≤ 99999) : Means true Tryz.prog 118 [ii n] (sb (Lib.decDigits n.toNat)) := by
  have hi : Lib.itoa n = Lib.decDigits n.toNat := by unfold Lib.itoa; rw [if_neg (by omega)]
  refine means_scal (args := [.int .i64 n]) (x := .string ⟨(Lib.decDigits n.toNat).toArray⟩) (fun _ _ => .v _) fun w M hM hg => ?_
  refine (Tryz.strconv_Itoa n (by omega) (by omega) w (pow10 hg)).mono fun e w' ⟨he, k, os, hw⟩ => ?_
  rw [hi] at he
  refine ⟨he, ?_⟩
  rw [hw]
  exact ⟨rfl, rfl, rfl, by simp [Go.Sort.grow, World.drewN], fun k hk => by simp [Go.Sort.grow, World.drewN, Array.getElem?_append_left hk]⟩
theorem repeat_m (c : Nat) (hc : c ≤ 5) : Means true Tryz.prog 119 [sb [48], ii c] (sb (Lib.repeatL [48] c)) := by
  refine means_scal (args := [.string ⟨#[48]⟩, .int .i64 c]) (x := .string ⟨(Lib.repeatL [48] c).toArray⟩) (fun _ _ => .v _) fun w M hM hg => ?_
  refine (Tryz.strings_Repeat ⟨#[48]⟩ c w (by omega) (by show 1 * c ≤ _; omega)).mono fun e w' ⟨he, hw⟩ => ⟨he, hw⟩
theorem reverse_h (xs : List (List UInt8)) (hx : xs.length ≤ 1000000) :
    MeansH Tryz.prog 120 [.row ⟨9, 1, xs.map sb⟩] [.ow 0] (.tup []) [.row ⟨9, 1, xs.reverse.map sb⟩] := by
  have := row_put (P := Tryz.prog) (f := 120) (E := 9) (xs := xs.map fun l => Value.string ⟨l.toArray⟩) (ys := xs.reverse.map fun l => Value.string ⟨l.toArray⟩) (by simp) (fun y hy => by
    obtain ⟨l, _, rfl⟩ := List.mem_map.1 hy; rfl) (fun g c w h1 h2 h3 => ?_) (fun w => Tryz.slices_Reverse_string_empty none 0 w)
  · simpa [List.map_map, Function.comp_def] using this
  · have hS : Lib.strsOf (fun i => (⟨(xs.getD i []).toArray⟩ : ByteArray)) xs.length = xs := by
      apply List.ext_getElem
      · simp [Lib.strsOf]
      · intro i h1 h2
        simp [Lib.strsOf, h2]
    rw [List.length_map] at h2 ⊢
    have h := Tryz.slices_Reverse_string_cells g 0 xs.length c (fun i => ⟨(xs.getD i []).toArray⟩) w (by omega) (fun i hi => by
      rw [Nat.zero_add]
      refine h1 i _ ?_
      rw [List.getElem?_map, List.getElem?_eq_getElem hi]
      simp [hi]) (fun j hj => by rw [Nat.zero_add]; exact h2 j hj)
    rw [hS] at h
    exact h
theorem joinE (xs : List (List UInt8)) : Lib.join xs [] = xs.flatten := by
  cases xs with
  | nil => rfl
  | cons x r =>
    rw [Lib.join_cons, Lib.joinTail]
    simp
theorem join_m (xs : List (List UInt8)) (hx : xs.flatten.length ≤ 1000000) (hl : xs.length ≤ 1000000) : MeansH Tryz.prog 121 [.row ⟨9, 1, xs.map sb⟩] [.ow 0, sb []] (sb xs.flatten) [.row ⟨9, 1, xs.map sb⟩] := by
  have e1 : (xs.map fun l => (⟨l.toArray⟩ : ByteArray)).map (·.data.toList) = xs := by simp [List.map_map, Function.comp_def]
  have e2 : (⟨([] : List UInt8).toArray⟩ : ByteArray).data.toList = [] := rfl
  have h := join_h (P := Tryz.prog) (f := 121) (E := 9) (fun bk o c xs sep w h1 h2 h3 h4 h5 => Tryz.strings_Join bk o c xs sep w h1 h2 h3 h4 h5) (fun a c sep w => Tryz.strings_Join_none a c sep w) (xs.map fun l => ⟨l.toArray⟩) ⟨([] : List UInt8).toArray⟩
    (by rw [e1, e2, joinE]; omega) (by rw [List.length_map]; omega)
  rw [e1, e2, joinE, List.map_map] at h
  exact h
end Go.Proofs.YthibhamepjhfjaaGreatDoor

