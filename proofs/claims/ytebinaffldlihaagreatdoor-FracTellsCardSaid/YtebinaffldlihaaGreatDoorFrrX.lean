import Derived.Test.YtebinaffldlihaaGreatDoorFrrB
import Derived.Test.YtebinaffldlihaaGreatDoorFrrC
import Derived.Test.YtebinaffldlihaaGreatDoorFrrD
set_option linter.all false
namespace Go.Proofs.YtebinaffldlihaaGreatDoor
open Go.RowKit Go.Ab
attribute [local irreducible] AWP Go.Ab.Sub Means MeansH CallK CallG CallT CallGT CallU
theorem u6 (s1 : Int) (a : List Int) (t1 : Int) (b : List Int) (s2 : Int) (c : List Int) (t2 : Int) (d : List Int) (ha : a.length ≤ 100000) (hb : b.length ≤ 100000) (hc : c.length ≤ 100000) (hd : d.length ≤ 100000) (h : ¬ (isF s1 a t1 b ∧ isF s2 c t2 d)) : Means false Tryz.prog 6 [frac4 s1 a t1 b, frac4 s2 c t2 d] (.tup [frZ 0 0, ii 1]) := by
  have r1 := bO s1 a (by omega) t1 b (by omega)
  have r2 := bO s2 c (by omega) t2 d (by omega)
  obtain ⟨x, hx⟩ : ∃ x, decide (isF s1 a t1 b) = x := ⟨_, rfl⟩
  obtain ⟨y, hy⟩ : ∃ y, decide (isF s2 c t2 d) = y := ⟨_, rfl⟩
  have hxy : (!x || !y) = true := by
    rw [← hx, ← hy]; simp; grind
  rw [hx] at r1
  rw [hy] at r2
  refine aK false 46 [.cell 4 26, .tmp 5] Tryz.func6 rfl rfl rfl (by simp) (by decide) rfl fun X hX => ?_
  (repeat (first | refine aC ?_ | refine a7 ?_ | ((first | refine a8 [0, 1, 2, 3, 4, 5, 6, 7, 8, 9, 17] hX ?_ | refine a6 [0, 1, 2, 3, 4, 5, 6, 7, 8, 9, 17] hX mixed ?_ | refine aD ?_ | refine aA ?_ | refine aB ?_); (simp [go_sem]; try (refine ⟨by kernel_rfl, ?_⟩)))))
  first | refine aE (r1) rfl (by simp [go_sem]) rfl ?_ | refine aF (r1) rfl (by simp [go_sem]) rfl ?_
  try (simp [go_sem]; try (refine ⟨by kernel_rfl, ?_⟩))
  first | refine aI (fun hg => r2) rfl (by simp [go_sem]) rfl ?_ | refine aH (fun hg => r2) rfl (by simp [go_sem]) rfl ?_
  try (simp [go_sem]; try (refine ⟨by kernel_rfl, ?_⟩))
  refine aG (b := true) (by simpa [go_sem] using hxy) (fun _ => ?_) (fun h => by cases h)
  (repeat (first | refine aC ?_ | refine a7 ?_ | ((first | refine a8 [0, 1, 2, 3, 4, 5, 6, 7, 8, 9, 17] hX ?_ | refine a6 [0, 1, 2, 3, 4, 5, 6, 7, 8, 9, 17] hX mixed ?_ | refine aD ?_ | refine aA ?_ | refine aB ?_); (simp [go_sem]; try (refine ⟨by kernel_rfl, ?_⟩)))))
theorem u9 (s1 : Int) (a : List Int) (t1 : Int) (b : List Int) (s2 : Int) (c : List Int) (t2 : Int) (d : List Int) (ha : a.length ≤ 100000) (hb : b.length ≤ 100000) (hc : c.length ≤ 100000) (hd : d.length ≤ 100000) (h : ¬ (isF s1 a t1 b ∧ isF s2 c t2 d)) : Means false Tryz.prog 8 [frac4 s1 a t1 b, frac4 s2 c t2 d] (.tup [frZ 0 0, ii 1]) := by
  have r1 := bO s1 a (by omega) t1 b (by omega)
  have r2 := bO s2 c (by omega) t2 d (by omega)
  obtain ⟨x, hx⟩ : ∃ x, decide (isF s1 a t1 b) = x := ⟨_, rfl⟩
  obtain ⟨y, hy⟩ : ∃ y, decide (isF s2 c t2 d) = y := ⟨_, rfl⟩
  have hxy : (!x || !y) = true := by
    rw [← hx, ← hy]; simp; grind
  rw [hx] at r1
  rw [hy] at r2
  refine aK false 25 [.cell 4 26, .tmp 5] Tryz.func8 rfl rfl rfl (by simp) (by decide) rfl fun X hX => ?_
  (repeat (first | refine aC ?_ | refine a7 ?_ | ((first | refine a8 [0, 1, 2, 3, 4, 5, 13] hX ?_ | refine a6 [0, 1, 2, 3, 4, 5, 13] hX mixed ?_ | refine aD ?_ | refine aA ?_ | refine aB ?_); (simp [go_sem]; try (refine ⟨by kernel_rfl, ?_⟩)))))
  first | refine aE (r1) rfl (by simp [go_sem]) rfl ?_ | refine aF (r1) rfl (by simp [go_sem]) rfl ?_
  try (simp [go_sem]; try (refine ⟨by kernel_rfl, ?_⟩))
  first | refine aI (fun hg => r2) rfl (by simp [go_sem]) rfl ?_ | refine aH (fun hg => r2) rfl (by simp [go_sem]) rfl ?_
  try (simp [go_sem]; try (refine ⟨by kernel_rfl, ?_⟩))
  refine aG (b := true) (by simpa [go_sem] using hxy) (fun _ => ?_) (fun h => by cases h)
  (repeat (first | refine aC ?_ | refine a7 ?_ | ((first | refine a8 [0, 1, 2, 3, 4, 5, 13] hX ?_ | refine a6 [0, 1, 2, 3, 4, 5, 13] hX mixed ?_ | refine aD ?_ | refine aA ?_ | refine aB ?_); (simp [go_sem]; try (refine ⟨by kernel_rfl, ?_⟩)))))
theorem uB (s1 : Int) (a : List Int) (t1 : Int) (b : List Int) (s2 : Int) (c : List Int) (t2 : Int) (d : List Int) (ha : a.length ≤ 100000) (hb : b.length ≤ 100000) (hc : c.length ≤ 100000) (hd : d.length ≤ 100000) (h : ¬ (isF s1 a t1 b ∧ isF s2 c t2 d)) : Means false Tryz.prog 11 [frac4 s1 a t1 b, frac4 s2 c t2 d] (.tup [frZ 0 0, ii 1]) := by
  have r1 := bO s1 a (by omega) t1 b (by omega)
  have r2 := bO s2 c (by omega) t2 d (by omega)
  obtain ⟨x, hx⟩ : ∃ x, decide (isF s1 a t1 b) = x := ⟨_, rfl⟩
  obtain ⟨y, hy⟩ : ∃ y, decide (isF s2 c t2 d) = y := ⟨_, rfl⟩
  have hxy : (!x || !y) = true := by
    rw [← hx, ← hy]; simp; grind
  rw [hx] at r1
  rw [hy] at r2
  refine aK false 42 [.cell 4 26, .tmp 5] Tryz.func11 rfl rfl rfl (by simp) (by decide) rfl fun X hX => ?_
  (repeat (first | refine aC ?_ | refine a7 ?_ | ((first | refine a8 [0, 1, 2, 3, 4, 5, 6, 7, 8, 9, 17] hX ?_ | refine a6 [0, 1, 2, 3, 4, 5, 6, 7, 8, 9, 17] hX mixed ?_ | refine aD ?_ | refine aA ?_ | refine aB ?_); (simp [go_sem]; try (refine ⟨by kernel_rfl, ?_⟩)))))
  first | refine aE (r1) rfl (by simp [go_sem]) rfl ?_ | refine aF (r1) rfl (by simp [go_sem]) rfl ?_
  try (simp [go_sem]; try (refine ⟨by kernel_rfl, ?_⟩))
  first | refine aI (fun hg => r2) rfl (by simp [go_sem]) rfl ?_ | refine aH (fun hg => r2) rfl (by simp [go_sem]) rfl ?_
  try (simp [go_sem]; try (refine ⟨by kernel_rfl, ?_⟩))
  refine aG (b := true) (by simpa [go_sem] using hxy) (fun _ => ?_) (fun h => by cases h)
  (repeat (first | refine aC ?_ | refine a7 ?_ | ((first | refine a8 [0, 1, 2, 3, 4, 5, 6, 7, 8, 9, 17] hX ?_ | refine a6 [0, 1, 2, 3, 4, 5, 6, 7, 8, 9, 17] hX mixed ?_ | refine aD ?_ | refine aA ?_ | refine aB ?_); (simp [go_sem]; try (refine ⟨by kernel_rfl, ?_⟩)))))
theorem uD (s1 : Int) (a : List Int) (t1 : Int) (b : List Int) (s2 : Int) (c : List Int) (t2 : Int) (d : List Int) (ha : a.length ≤ 100000) (hb : b.length ≤ 100000) (hc : c.length ≤ 100000) (hd : d.length ≤ 100000) (h : ¬ (isF s1 a t1 b ∧ isF s2 c t2 d)) : Means false Tryz.prog 13 [frac4 s1 a t1 b, frac4 s2 c t2 d] (.tup [frZ 0 0, ii 1]) := by
  have r1 := bO s1 a (by omega) t1 b (by omega)
  have r2 := bO s2 c (by omega) t2 d (by omega)
  obtain ⟨x, hx⟩ : ∃ x, decide (isF s1 a t1 b) = x := ⟨_, rfl⟩
  obtain ⟨y, hy⟩ : ∃ y, decide (isF s2 c t2 d) = y := ⟨_, rfl⟩
  have hxy : (!x || !y) = true := by
    rw [← hx, ← hy]; simp; grind
  rw [hx] at r1
  rw [hy] at r2
  refine aK false 49 [.cell 4 26, .tmp 5] Tryz.func13 rfl rfl rfl (by simp) (by decide) rfl fun X hX => ?_
  (repeat (first | refine aC ?_ | refine a7 ?_ | ((first | refine a8 [0, 1, 2, 3, 4, 5, 6, 7, 8, 9, 10, 20] hX ?_ | refine a6 [0, 1, 2, 3, 4, 5, 6, 7, 8, 9, 10, 20] hX mixed ?_ | refine aD ?_ | refine aA ?_ | refine aB ?_); (simp [go_sem]; try (refine ⟨by kernel_rfl, ?_⟩)))))
  first | refine aE (r1) rfl (by simp [go_sem]) rfl ?_ | refine aF (r1) rfl (by simp [go_sem]) rfl ?_
  try (simp [go_sem]; try (refine ⟨by kernel_rfl, ?_⟩))
  first | refine aI (fun hg => r2) rfl (by simp [go_sem]) rfl ?_ | refine aH (fun hg => r2) rfl (by simp [go_sem]) rfl ?_
  try (simp [go_sem]; try (refine ⟨by kernel_rfl, ?_⟩))
  refine aG (b := true) (by simpa [go_sem] using hxy) (fun _ => ?_) (fun h => by cases h)
  (repeat (first | refine aC ?_ | refine a7 ?_ | ((first | refine a8 [0, 1, 2, 3, 4, 5, 6, 7, 8, 9, 10, 20] hX ?_ | refine a6 [0, 1, 2, 3, 4, 5, 6, 7, 8, 9, 10, 20] hX mixed ?_ | refine aD ?_ | refine aA ?_ | refine aB ?_); (simp [go_sem]; try (refine ⟨by kernel_rfl, ?_⟩)))))
theorem mI (s1 : Int) (a : List Int) (t1 : Int) (b : List Int) (s2 : Int) (c : List Int) (t2 : Int) (d : List Int) (ha : a.length ≤ 100000) (hb : b.length ≤ 100000) (hc : c.length ≤ 100000) (hd : d.length ≤ 100000) (h : ¬ (isF s1 a t1 b ∧ isF s2 c t2 d)) : Means false Tryz.prog 23 [frac4 s1 a t1 b, frac4 s2 c t2 d] (ii 0) := by
  have r1 := bO s1 a (by omega) t1 b (by omega)
  have r2 := bO s2 c (by omega) t2 d (by omega)
  obtain ⟨x, hx⟩ : ∃ x, decide (isF s1 a t1 b) = x := ⟨_, rfl⟩
  obtain ⟨y, hy⟩ : ∃ y, decide (isF s2 c t2 d) = y := ⟨_, rfl⟩
  have hxy : (!x || !y) = true := by
    rw [← hx, ← hy]; simp; grind
  rw [hx] at r1
  rw [hy] at r2
  refine aK false 78 [.tmp 4] Tryz.func23 rfl rfl rfl (by simp) (by decide) rfl fun X hX => ?_
  (repeat (first | refine aC ?_ | refine a7 ?_ | ((first | refine a8 [0, 1, 2, 3, 4, 5, 6, 7, 8, 9, 10, 11, 13, 14, 16, 24, 52, 58] hX ?_ | refine a6 [0, 1, 2, 3, 4, 5, 6, 7, 8, 9, 10, 11, 13, 14, 16, 24, 52, 58] hX mixed ?_ | refine aD ?_ | refine aA ?_ | refine aB ?_); (simp [go_sem]; try (refine ⟨by kernel_rfl, ?_⟩)))))
  first | refine aE (r1) rfl (by simp [go_sem]) rfl ?_ | refine aF (r1) rfl (by simp [go_sem]) rfl ?_
  try (simp [go_sem]; try (refine ⟨by kernel_rfl, ?_⟩))
  first | refine aI (fun hg => r2) rfl (by simp [go_sem]) rfl ?_ | refine aH (fun hg => r2) rfl (by simp [go_sem]) rfl ?_
  try (simp [go_sem]; try (refine ⟨by kernel_rfl, ?_⟩))
  refine aG (b := true) (by simpa [go_sem] using hxy) (fun _ => ?_) (fun h => by cases h)
  (repeat (first | refine aC ?_ | refine a7 ?_ | ((first | refine a8 [0, 1, 2, 3, 4, 5, 6, 7, 8, 9, 10, 11, 13, 14, 16, 24, 52, 58] hX ?_ | refine a6 [0, 1, 2, 3, 4, 5, 6, 7, 8, 9, 10, 11, 13, 14, 16, 24, 52, 58] hX mixed ?_ | refine aD ?_ | refine aA ?_ | refine aB ?_); (simp [go_sem]; try (refine ⟨by kernel_rfl, ?_⟩)))))
theorem pU (s1 : Int) (a : List Int) (t1 : Int) (b : List Int) (ha : a.length ≤ 100000) (hb : b.length ≤ 100000) (h : ¬ isF s1 a t1 b) : Means false Tryz.prog 28 [frac4 s1 a t1 b] (bigZ 0) := by
  have r1 := bO s1 a (by omega) t1 b (by omega)
  rw [decide_eq_false h] at r1
  refine aK false 20 [.cell 2 24] Tryz.func28 rfl rfl rfl (by simp) (by decide) rfl fun X hX => ?_
  (repeat (first | refine aC ?_ | refine a7 ?_ | ((first | refine a8 [0, 1, 2, 3, 8] hX ?_ | refine a6 [0, 1, 2, 3, 8] hX mixed ?_ | refine aD ?_ | refine aA ?_ | refine aB ?_); (simp [go_sem]; try (refine ⟨by kernel_rfl, ?_⟩)))))
  first | refine aE (r1) rfl (by simp [go_sem]) rfl ?_ | refine aF (r1) rfl (by simp [go_sem]) rfl ?_
  try (simp [go_sem]; try (refine ⟨by kernel_rfl, ?_⟩))
  refine aG (b := true) (by simp [go_sem]) (fun _ => ?_) (fun h => by cases h)
  (repeat (first | refine aC ?_ | refine a7 ?_ | ((first | refine a8 [0, 1, 2, 3, 8] hX ?_ | refine a6 [0, 1, 2, 3, 8] hX mixed ?_ | refine aD ?_ | refine aA ?_ | refine aB ?_); (simp [go_sem]; try (refine ⟨by kernel_rfl, ?_⟩)))))
theorem sH (s1 : Int) (a : List Int) (t1 : Int) (b : List Int) (ha : a.length ≤ 100000) (hb : b.length ≤ 100000) (h : ¬ isF s1 a t1 b) : Means false Tryz.prog 25 [frac4 s1 a t1 b] (sb []) := by
  have r1 := bO s1 a (by omega) t1 b (by omega)
  rw [decide_eq_false h] at r1
  refine aK false 14 [.tmp 2] Tryz.func25 rfl rfl rfl (by simp) (by decide) rfl fun X hX => ?_
  (repeat (first | refine aC ?_ | refine a7 ?_ | ((first | refine a8 [0, 1, 2, 5] hX ?_ | refine a6 [0, 1, 2, 5] hX mixed ?_ | refine aD ?_ | refine aA ?_ | refine aB ?_); (simp [go_sem]; try (refine ⟨by kernel_rfl, ?_⟩)))))
  first | refine aE (r1) rfl (by simp [go_sem]) rfl ?_ | refine aF (r1) rfl (by simp [go_sem]) rfl ?_
  try (simp [go_sem]; try (refine ⟨by kernel_rfl, ?_⟩))
  refine aG (b := true) (by simp [go_sem]) (fun _ => ?_) (fun h => by cases h)
  (repeat (first | refine aC ?_ | refine a7 ?_ | ((first | refine a8 [0, 1, 2, 5] hX ?_ | refine a6 [0, 1, 2, 5] hX mixed ?_ | refine aD ?_ | refine aA ?_ | refine aB ?_); (simp [go_sem]; try (refine ⟨by kernel_rfl, ?_⟩)))))
theorem sC (s1 : Int) (a : List Int) (t1 : Int) (b : List Int) (s2 : Int) (c : List Int) (t2 : Int) (d : List Int) (ha : a.length ≤ 100000) (hb : b.length ≤ 100000) (hc : c.length ≤ 100000) (hd : d.length ≤ 100000) (h : ¬ (isF s1 a t1 b ∧ isF s2 c t2 d)) : Means false Tryz.prog 7 [frac4 s1 a t1 b, frac4 s2 c t2 d] (.tup [frZ 0 0, ii 1]) := by
  have r1 := bM s1 a (by omega) t1 b (by omega)
  have r2 := bM s2 c (by omega) t2 d (by omega)
  obtain ⟨x, hx⟩ : ∃ x, decide (isF s1 a t1 b) = x := ⟨_, rfl⟩
  obtain ⟨y, hy⟩ : ∃ y, decide (isF s2 c t2 d) = y := ⟨_, rfl⟩
  have hxy : (!x || !y) = true := by
    rw [← hx, ← hy]; simp; grind
  rw [hx] at r1
  rw [hy] at r2
  refine aK false 72 [.cell 4 26, .tmp 5] Tryz.func7 rfl rfl rfl (by simp) (by decide) rfl fun X hX => ?_
  (repeat (first | refine aC ?_ | refine a7 ?_ | ((first | refine a8 [0, 1, 2, 3, 4, 5, 6, 7, 8, 9, 10, 11, 12, 13, 21] hX ?_ | refine a6 [0, 1, 2, 3, 4, 5, 6, 7, 8, 9, 10, 11, 12, 13, 21] hX mixed ?_ | refine aD ?_ | refine aA ?_ | refine aB ?_); (simp [go_sem]; try (refine ⟨by kernel_rfl, ?_⟩)))))
  first | refine aE (r1) rfl (by simp [go_sem]) rfl ?_ | refine aF (r1) rfl (by simp [go_sem]) rfl ?_
  try (simp [go_sem]; try (refine ⟨by kernel_rfl, ?_⟩))
  first | refine aI (fun hg => r2) rfl (by simp [go_sem]) rfl ?_ | refine aH (fun hg => r2) rfl (by simp [go_sem]) rfl ?_
  try (simp [go_sem]; try (refine ⟨by kernel_rfl, ?_⟩))
  refine aG (b := true) (by simpa [go_sem] using hxy) (fun _ => ?_) (fun h => by cases h)
  (repeat (first | refine aC ?_ | refine a7 ?_ | ((first | refine a8 [0, 1, 2, 3, 4, 5, 6, 7, 8, 9, 10, 11, 12, 13, 21] hX ?_ | refine a6 [0, 1, 2, 3, 4, 5, 6, 7, 8, 9, 10, 11, 12, 13, 21] hX mixed ?_ | refine aD ?_ | refine aA ?_ | refine aB ?_); (simp [go_sem]; try (refine ⟨by kernel_rfl, ?_⟩)))))
theorem sD (s1 : Int) (a : List Int) (t1 : Int) (b : List Int) (s2 : Int) (c : List Int) (t2 : Int) (d : List Int) (ha : a.length ≤ 100000) (hb : b.length ≤ 100000) (hc : c.length ≤ 100000) (hd : d.length ≤ 100000) (h : ¬ (isF s1 a t1 b ∧ isF s2 c t2 d)) : Means false Tryz.prog 9 [frac4 s1 a t1 b, frac4 s2 c t2 d] (.tup [frZ 0 0, ii 1]) := by
  have r1 := bM s1 a (by omega) t1 b (by omega)
  have r2 := bM s2 c (by omega) t2 d (by omega)
  obtain ⟨x, hx⟩ : ∃ x, decide (isF s1 a t1 b) = x := ⟨_, rfl⟩
  obtain ⟨y, hy⟩ : ∃ y, decide (isF s2 c t2 d) = y := ⟨_, rfl⟩
  have hxy : (!x || !y) = true := by
    rw [← hx, ← hy]; simp; grind
  rw [hx] at r1
  rw [hy] at r2
  refine aK false 72 [.cell 4 26, .tmp 5] Tryz.func9 rfl rfl rfl (by simp) (by decide) rfl fun X hX => ?_
  (repeat (first | refine aC ?_ | refine a7 ?_ | ((first | refine a8 [0, 1, 2, 3, 4, 5, 6, 7, 8, 9, 10, 11, 12, 13, 21] hX ?_ | refine a6 [0, 1, 2, 3, 4, 5, 6, 7, 8, 9, 10, 11, 12, 13, 21] hX mixed ?_ | refine aD ?_ | refine aA ?_ | refine aB ?_); (simp [go_sem]; try (refine ⟨by kernel_rfl, ?_⟩)))))
  first | refine aE (r1) rfl (by simp [go_sem]) rfl ?_ | refine aF (r1) rfl (by simp [go_sem]) rfl ?_
  try (simp [go_sem]; try (refine ⟨by kernel_rfl, ?_⟩))
  first | refine aI (fun hg => r2) rfl (by simp [go_sem]) rfl ?_ | refine aH (fun hg => r2) rfl (by simp [go_sem]) rfl ?_
  try (simp [go_sem]; try (refine ⟨by kernel_rfl, ?_⟩))
  refine aG (b := true) (by simpa [go_sem] using hxy) (fun _ => ?_) (fun h => by cases h)
  (repeat (first | refine aC ?_ | refine a7 ?_ | ((first | refine a8 [0, 1, 2, 3, 4, 5, 6, 7, 8, 9, 10, 11, 12, 13, 21] hX ?_ | refine a6 [0, 1, 2, 3, 4, 5, 6, 7, 8, 9, 10, 11, 12, 13, 21] hX mixed ?_ | refine aD ?_ | refine aA ?_ | refine aB ?_); (simp [go_sem]; try (refine ⟨by kernel_rfl, ?_⟩)))))
theorem sE (s1 : Int) (a : List Int) (t1 : Int) (b : List Int) (s2 : Int) (c : List Int) (t2 : Int) (d : List Int) (ha : a.length ≤ 100000) (hb : b.length ≤ 100000) (hc : c.length ≤ 100000) (hd : d.length ≤ 100000) (h : ¬ (isF s1 a t1 b ∧ isF s2 c t2 d)) : Means false Tryz.prog 12 [frac4 s1 a t1 b, frac4 s2 c t2 d] (.tup [frZ 0 0, ii 1]) := by
  have r1 := bM s1 a (by omega) t1 b (by omega)
  have r2 := bM s2 c (by omega) t2 d (by omega)
  obtain ⟨x, hx⟩ : ∃ x, decide (isF s1 a t1 b) = x := ⟨_, rfl⟩
  obtain ⟨y, hy⟩ : ∃ y, decide (isF s2 c t2 d) = y := ⟨_, rfl⟩
  have hxy : (!x || !y) = true := by
    rw [← hx, ← hy]; simp; grind
  rw [hx] at r1
  rw [hy] at r2
  refine aK false 46 [.cell 4 26, .tmp 5] Tryz.func12 rfl rfl rfl (by simp) (by decide) rfl fun X hX => ?_
  (repeat (first | refine aC ?_ | refine a7 ?_ | ((first | refine a8 [0, 1, 2, 3, 4, 5, 6, 7, 8, 9, 17] hX ?_ | refine a6 [0, 1, 2, 3, 4, 5, 6, 7, 8, 9, 17] hX mixed ?_ | refine aD ?_ | refine aA ?_ | refine aB ?_); (simp [go_sem]; try (refine ⟨by kernel_rfl, ?_⟩)))))
  first | refine aE (r1) rfl (by simp [go_sem]) rfl ?_ | refine aF (r1) rfl (by simp [go_sem]) rfl ?_
  try (simp [go_sem]; try (refine ⟨by kernel_rfl, ?_⟩))
  first | refine aI (fun hg => r2) rfl (by simp [go_sem]) rfl ?_ | refine aH (fun hg => r2) rfl (by simp [go_sem]) rfl ?_
  try (simp [go_sem]; try (refine ⟨by kernel_rfl, ?_⟩))
  refine aG (b := true) (by simpa [go_sem] using hxy) (fun _ => ?_) (fun h => by cases h)
  (repeat (first | refine aC ?_ | refine a7 ?_ | ((first | refine a8 [0, 1, 2, 3, 4, 5, 6, 7, 8, 9, 17] hX ?_ | refine a6 [0, 1, 2, 3, 4, 5, 6, 7, 8, 9, 17] hX mixed ?_ | refine aD ?_ | refine aA ?_ | refine aB ?_); (simp [go_sem]; try (refine ⟨by kernel_rfl, ?_⟩)))))
theorem sF (s1 : Int) (a : List Int) (t1 : Int) (b : List Int) (s2 : Int) (c : List Int) (t2 : Int) (d : List Int) (ha : a.length ≤ 100000) (hb : b.length ≤ 100000) (hc : c.length ≤ 100000) (hd : d.length ≤ 100000) (h : ¬ (isF s1 a t1 b ∧ isF s2 c t2 d)) : Means false Tryz.prog 14 [frac4 s1 a t1 b, frac4 s2 c t2 d] (.tup [frZ 0 0, ii 1]) := by
  have r1 := bM s1 a (by omega) t1 b (by omega)
  have r2 := bM s2 c (by omega) t2 d (by omega)
  obtain ⟨x, hx⟩ : ∃ x, decide (isF s1 a t1 b) = x := ⟨_, rfl⟩
  obtain ⟨y, hy⟩ : ∃ y, decide (isF s2 c t2 d) = y := ⟨_, rfl⟩
  have hxy : (!x || !y) = true := by
    rw [← hx, ← hy]; simp; grind
  rw [hx] at r1
  rw [hy] at r2
  refine aK false 51 [.cell 4 26, .tmp 5] Tryz.func14 rfl rfl rfl (by simp) (by decide) rfl fun X hX => ?_
  (repeat (first | refine aC ?_ | refine a7 ?_ | ((first | refine a8 [0, 1, 2, 3, 4, 5, 6, 7, 8, 9, 17, 22] hX ?_ | refine a6 [0, 1, 2, 3, 4, 5, 6, 7, 8, 9, 17, 22] hX mixed ?_ | refine aD ?_ | refine aA ?_ | refine aB ?_); (simp [go_sem]; try (refine ⟨by kernel_rfl, ?_⟩)))))
  first | refine aE (r1) rfl (by simp [go_sem]) rfl ?_ | refine aF (r1) rfl (by simp [go_sem]) rfl ?_
  try (simp [go_sem]; try (refine ⟨by kernel_rfl, ?_⟩))
  first | refine aI (fun hg => r2) rfl (by simp [go_sem]) rfl ?_ | refine aH (fun hg => r2) rfl (by simp [go_sem]) rfl ?_
  try (simp [go_sem]; try (refine ⟨by kernel_rfl, ?_⟩))
  refine aG (b := true) (by simpa [go_sem] using hxy) (fun _ => ?_) (fun h => by cases h)
  (repeat (first | refine aC ?_ | refine a7 ?_ | ((first | refine a8 [0, 1, 2, 3, 4, 5, 6, 7, 8, 9, 17, 22] hX ?_ | refine a6 [0, 1, 2, 3, 4, 5, 6, 7, 8, 9, 17, 22] hX mixed ?_ | refine aD ?_ | refine aA ?_ | refine aB ?_); (simp [go_sem]; try (refine ⟨by kernel_rfl, ?_⟩)))))
theorem l4 (s1 : Int) (a : List Int) (t1 : Int) (b : List Int) (s2 : Int) (c : List Int) (t2 : Int) (d : List Int) (ha : a.length ≤ 100000) (hb : b.length ≤ 100000) (hc : c.length ≤ 100000) (hd : d.length ≤ 100000) (h : ¬ (isF s1 a t1 b ∧ isF s2 c t2 d)) : Means false Tryz.prog 24 [frac4 s1 a t1 b, frac4 s2 c t2 d] (ii 0) := by
  have r1 := bM s1 a (by omega) t1 b (by omega)
  have r2 := bM s2 c (by omega) t2 d (by omega)
  obtain ⟨x, hx⟩ : ∃ x, decide (isF s1 a t1 b) = x := ⟨_, rfl⟩
  obtain ⟨y, hy⟩ : ∃ y, decide (isF s2 c t2 d) = y := ⟨_, rfl⟩
  have hxy : (!x || !y) = true := by
    rw [← hx, ← hy]; simp; grind
  rw [hx] at r1
  rw [hy] at r2
  refine aK false 22 [.tmp 4] Tryz.func24 rfl rfl rfl (by simp) (by decide) rfl fun X hX => ?_
  (repeat (first | refine aC ?_ | refine a7 ?_ | ((first | refine a8 [0, 1, 2, 3, 4, 12] hX ?_ | refine a6 [0, 1, 2, 3, 4, 12] hX mixed ?_ | refine aD ?_ | refine aA ?_ | refine aB ?_); (simp [go_sem]; try (refine ⟨by kernel_rfl, ?_⟩)))))
  first | refine aE (r1) rfl (by simp [go_sem]) rfl ?_ | refine aF (r1) rfl (by simp [go_sem]) rfl ?_
  try (simp [go_sem]; try (refine ⟨by kernel_rfl, ?_⟩))
  first | refine aI (fun hg => r2) rfl (by simp [go_sem]) rfl ?_ | refine aH (fun hg => r2) rfl (by simp [go_sem]) rfl ?_
  try (simp [go_sem]; try (refine ⟨by kernel_rfl, ?_⟩))
  refine aG (b := true) (by simpa [go_sem] using hxy) (fun _ => ?_) (fun h => by cases h)
  (repeat (first | refine aC ?_ | refine a7 ?_ | ((first | refine a8 [0, 1, 2, 3, 4, 12] hX ?_ | refine a6 [0, 1, 2, 3, 4, 12] hX mixed ?_ | refine aD ?_ | refine aA ?_ | refine aB ?_); (simp [go_sem]; try (refine ⟨by kernel_rfl, ?_⟩)))))
theorem nT (s1 : Int) (a : List Int) (t1 : Int) (b : List Int) (ha : a.length ≤ 100000) (hb : b.length ≤ 100000) (h : ¬ isF s1 a t1 b) : Means false Tryz.prog 29 [frac4 s1 a t1 b] (bigZ 0) := by
  have r1 := bM s1 a (by omega) t1 b (by omega)
  rw [decide_eq_false h] at r1
  refine aK false 20 [.cell 2 24] Tryz.func29 rfl rfl rfl (by simp) (by decide) rfl fun X hX => ?_
  (repeat (first | refine aC ?_ | refine a7 ?_ | ((first | refine a8 [0, 1, 2, 3, 8] hX ?_ | refine a6 [0, 1, 2, 3, 8] hX mixed ?_ | refine aD ?_ | refine aA ?_ | refine aB ?_); (simp [go_sem]; try (refine ⟨by kernel_rfl, ?_⟩)))))
  first | refine aE (r1) rfl (by simp [go_sem]) rfl ?_ | refine aF (r1) rfl (by simp [go_sem]) rfl ?_
  try (simp [go_sem]; try (refine ⟨by kernel_rfl, ?_⟩))
  refine aG (b := true) (by simp [go_sem]) (fun _ => ?_) (fun h => by cases h)
  (repeat (first | refine aC ?_ | refine a7 ?_ | ((first | refine a8 [0, 1, 2, 3, 8] hX ?_ | refine a6 [0, 1, 2, 3, 8] hX mixed ?_ | refine aD ?_ | refine aA ?_ | refine aB ?_); (simp [go_sem]; try (refine ⟨by kernel_rfl, ?_⟩)))))
theorem pV (s1 : Int) (a : List Int) (t1 : Int) (b : List Int) (ha : a.length ≤ 100000) (hb : b.length ≤ 100000) (h : ¬ isF s1 a t1 b) : Means false Tryz.prog 26 [frac4 s1 a t1 b] (sb []) := by
  have r1 := bM s1 a (by omega) t1 b (by omega)
  rw [decide_eq_false h] at r1
  refine aK false 14 [.tmp 2] Tryz.func26 rfl rfl rfl (by simp) (by decide) rfl fun X hX => ?_
  (repeat (first | refine aC ?_ | refine a7 ?_ | ((first | refine a8 [0, 1, 2, 5] hX ?_ | refine a6 [0, 1, 2, 5] hX mixed ?_ | refine aD ?_ | refine aA ?_ | refine aB ?_); (simp [go_sem]; try (refine ⟨by kernel_rfl, ?_⟩)))))
  first | refine aE (r1) rfl (by simp [go_sem]) rfl ?_ | refine aF (r1) rfl (by simp [go_sem]) rfl ?_
  try (simp [go_sem]; try (refine ⟨by kernel_rfl, ?_⟩))
  refine aG (b := true) (by simp [go_sem]) (fun _ => ?_) (fun h => by cases h)
  (repeat (first | refine aC ?_ | refine a7 ?_ | ((first | refine a8 [0, 1, 2, 5] hX ?_ | refine a6 [0, 1, 2, 5] hX mixed ?_ | refine aD ?_ | refine aA ?_ | refine aB ?_); (simp [go_sem]; try (refine ⟨by kernel_rfl, ?_⟩)))))
theorem wB (s1 s2 : Int) (a b : List Int) (hla : a.length ≤ 100000) (hlb : b.length ≤ 100000) (h : ¬ (isR s1 a ∧ isR s2 b)) : Means false Tryz.prog 19 [big2 s1 a, big2 s2 b] (.tup [frZ 0 0, ii 1]) := by
  have r1 := eQ s1 a (by omega)
  have r2 := eQ s2 b (by omega)
  obtain ⟨x, hx⟩ : ∃ x, decide (isR s1 a) = x := ⟨_, rfl⟩
  obtain ⟨y, hy⟩ : ∃ y, decide (isR s2 b) = y := ⟨_, rfl⟩
  have hxy : (!x || !y) = true := by
    rw [← hx, ← hy]; simp; grind
  rw [hx] at r1
  rw [hy] at r2
  refine aK false 60 [.cell 4 26, .tmp 5] Tryz.func19 rfl rfl rfl (by simp) (by decide) rfl fun X hX => ?_
  (repeat (first | refine aC ?_ | refine a7 ?_ | ((first | refine a8 [0, 1, 2, 3, 4, 5, 6, 8, 11, 14, 24, 29] hX ?_ | refine a6 [0, 1, 2, 3, 4, 5, 6, 8, 11, 14, 24, 29] hX mixed ?_ | refine aD ?_ | refine aA ?_ | refine aB ?_); (simp [go_sem]; try (refine ⟨by kernel_rfl, ?_⟩)))))
  first | refine aE (r1) rfl (by simp [go_sem]) rfl ?_ | refine aF (r1) rfl (by simp [go_sem]) rfl ?_
  try (simp [go_sem]; try (refine ⟨by kernel_rfl, ?_⟩))
  first | refine aI (fun hg => r2) rfl (by simp [go_sem]) rfl ?_ | refine aH (fun hg => r2) rfl (by simp [go_sem]) rfl ?_
  try (simp [go_sem]; try (refine ⟨by kernel_rfl, ?_⟩))
  refine aG (b := true) (by simpa [go_sem] using hxy) (fun _ => ?_) (fun h => by cases h)
  (repeat (first | refine aC ?_ | refine a7 ?_ | ((first | refine a8 [0, 1, 2, 3, 4, 5, 6, 8, 11, 14, 24, 29] hX ?_ | refine a6 [0, 1, 2, 3, 4, 5, 6, 8, 11, 14, 24, 29] hX mixed ?_ | refine aD ?_ | refine aA ?_ | refine aB ?_); (simp [go_sem]; try (refine ⟨by kernel_rfl, ?_⟩)))))
theorem uI (s1 s2 : Int) (a b : List Int) (hla : a.length ≤ 100000) (hlb : b.length ≤ 100000) (h : ¬ (isR s1 a ∧ isR s2 b)) : Means false Tryz.prog 20 [big2 s1 a, big2 s2 b] (.tup [frZ 0 0, ii 1]) := by
  have r1 := dR s1 a (by omega)
  have r2 := dR s2 b (by omega)
  obtain ⟨x, hx⟩ : ∃ x, decide (isR s1 a) = x := ⟨_, rfl⟩
  obtain ⟨y, hy⟩ : ∃ y, decide (isR s2 b) = y := ⟨_, rfl⟩
  have hxy : (!x || !y) = true := by
    rw [← hx, ← hy]; simp; grind
  rw [hx] at r1
  rw [hy] at r2
  refine aK false 57 [.cell 4 26, .tmp 5] Tryz.func20 rfl rfl rfl (by simp) (by decide) rfl fun X hX => ?_
  (repeat (first | refine aC ?_ | refine a7 ?_ | ((first | refine a8 [0, 1, 2, 3, 4, 5, 6, 8, 11, 21, 25, 29] hX ?_ | refine a6 [0, 1, 2, 3, 4, 5, 6, 8, 11, 21, 25, 29] hX mixed ?_ | refine aD ?_ | refine aA ?_ | refine aB ?_); (simp [go_sem]; try (refine ⟨by kernel_rfl, ?_⟩)))))
  first | refine aE (r1) rfl (by simp [go_sem]) rfl ?_ | refine aF (r1) rfl (by simp [go_sem]) rfl ?_
  try (simp [go_sem]; try (refine ⟨by kernel_rfl, ?_⟩))
  first | refine aI (fun hg => r2) rfl (by simp [go_sem]) rfl ?_ | refine aH (fun hg => r2) rfl (by simp [go_sem]) rfl ?_
  try (simp [go_sem]; try (refine ⟨by kernel_rfl, ?_⟩))
  refine aG (b := true) (by simpa [go_sem] using hxy) (fun _ => ?_) (fun h => by cases h)
  (repeat (first | refine aC ?_ | refine a7 ?_ | ((first | refine a8 [0, 1, 2, 3, 4, 5, 6, 8, 11, 21, 25, 29] hX ?_ | refine a6 [0, 1, 2, 3, 4, 5, 6, 8, 11, 21, 25, 29] hX mixed ?_ | refine aD ?_ | refine aA ?_ | refine aB ?_); (simp [go_sem]; try (refine ⟨by kernel_rfl, ?_⟩)))))
end Go.Proofs.YtebinaffldlihaaGreatDoor
