import Derived.Test.YtebinaffldlihaaGreatDoorFracX
set_option linter.all false
namespace Go.Proofs.YtebinaffldlihaaGreatDoor
open Go.RowKit Go.Ab
attribute [local irreducible] AWP Go.Ab.Sub Means MeansH CallK CallG CallT CallGT
theorem AB (p q : Int) (hp : -9223372036854775808 ≤ p ∧ p ≤ 9223372036854775807) (hq : -9223372036854775808 ≤ q ∧ q ≤ 9223372036854775807) (h0 : q ≠ 0) : Means false Tryz.prog 30 [ii p, ii q] (frZ (np p q) (nq p q)) := by
  refine aK false 14 [.cell 4 26] Tryz.func30 rfl rfl rfl (by simp) (by decide) rfl fun X hX => ?_
  (repeat (first | refine aC ?_ | refine a7 ?_ | ((first | refine a8 [0, 1, 4, 5] hX ?_ | refine a6 [0, 1, 4, 5] hX mixed ?_ | refine aD ?_ | refine aA ?_ | refine aB ?_); (simp [go_sem]; try (refine ⟨by kernel_rfl, ?_⟩)))))
  first | refine aE (yK p q hp hq h0) rfl (by simp [go_sem]) rfl ?_ | refine aF (yK p q hp hq h0) rfl (by simp [go_sem]) rfl ?_
  try (simp [go_sem]; try (refine ⟨by kernel_rfl, ?_⟩))
  (repeat (first | refine aC ?_ | refine a7 ?_ | ((first | refine a8 [0, 1, 4, 5] hX ?_ | refine a6 [0, 1, 4, 5] hX mixed ?_ | refine aD ?_ | refine aA ?_ | refine aB ?_); (simp [go_sem]; try (refine ⟨by kernel_rfl, ?_⟩)))))
theorem fT {p q x y : Int} (hp : -9223372036854775808 ≤ p ∧ p ≤ 9223372036854775807) (hq : -9223372036854775808 ≤ q ∧ q ≤ 9223372036854775807) (h0 : q ≠ 0) (hx : np p q = x) (hy : nq p q = y) : Means false Tryz.prog 30 [ii p, ii q] (frZ x y) := by
  have := AB p q hp hq h0
  rwa [hx, hy] at this
theorem bZ {p q : Int} (h1 : ab p < 100000000000000000000000000000000) (h2 : ab q < 100000000000000000000000000000000) (h3 : 0 < q) (h4 : Int.gcd p q = 1) : rf p q := ⟨bA h1, bA h2, h3, h4⟩
theorem dB {p q : Int} {s : List UInt8} (h : rf p q) (hs : ftxt p q = s) : Means false Tryz.prog 25 [frZ p q] (sb s) := by
  have := k0 p q h.1 h.2.1
  rwa [if_pos h, hs] at this
theorem s5 {s : List UInt8} (hs : s.length ≤ 100000) (h : ¬ isT s) : Means false Tryz.prog 17 [sb s] (.tup [frZ 0 0, ii 2]) :=
  mE s hs 0 0 2 (fun p q hr e => absurd ⟨p, q, hr, e⟩ h) (fun _ => ⟨rfl, rfl, rfl⟩)
theorem nV {p q r s : Int} (h1 : rf p q) (h2 : rf r s) (h : ftxt p q = ftxt r s) : p = r ∧ q = s := by
  have a := dF (txt p) (txt q) (f0 p)
  have b := dF (txt r) (txt s) (f0 r)
  unfold ftxt at h
  rw [h, b] at a
  have c := Prod.mk.inj a
  have d := (Prod.mk.inj c.2).1
  have e1 := d9 h1.1
  have e2 := d9 h2.1
  rw [c.1, e1] at e2
  have f1 := d9 h1.2.1
  have f2 := d9 h2.2.1
  rw [d, f1] at f2
  exact ⟨(Prod.mk.inj e2).1, (Prod.mk.inj f2).1⟩
theorem pM {s : List UInt8} {p q : Int} (hs : s.length ≤ 100000) (h : rf p q) (e : ftxt p q = s) : Means false Tryz.prog 17 [sb s] (.tup [frZ p q, ii 0]) :=
  mE s hs p q 0 (fun p' q' hr e' => by
    obtain ⟨a, b⟩ := nV h hr (e.trans e')
    exact ⟨a, b, rfl⟩) (fun hn => absurd ⟨p, q, h, e.symm⟩ hn)
theorem xU {a b c d x y : Int} (h1 : rf a b) (h2 : rf c d) (hs : sumP a d c b ∧ rz (b * d)) (hx : np (a * d + c * b) (b * d) = x) (hy : nq (a * d + c * b) (b * d) = y) : Means false Tryz.prog 6 [frZ a b, frZ c d] (.tup [frZ x y, ii 0]) := by
  have := u5 a b c d h1 h2
  rwa [cP hs, hx, hy] at this
theorem xV {a b c d x y : Int} (h1 : rf a b) (h2 : rf c d) (hs : sumP a d (-c) b ∧ rz (b * d)) (hx : np (a * d + -c * b) (b * d) = x) (hy : nq (a * d + -c * b) (b * d) = y) : Means false Tryz.prog 8 [frZ a b, frZ c d] (.tup [frZ x y, ii 0]) := by
  have := xM a b c d h1 h2
  rwa [cP hs, hx, hy] at this
theorem xW {a b c d x y : Int} (h1 : rf a b) (h2 : rf c d) (hs : rz (a * c) ∧ rz (b * d)) (hx : np (a * c) (b * d) = x) (hy : nq (a * c) (b * d) = y) : Means false Tryz.prog 11 [frZ a b, frZ c d] (.tup [frZ x y, ii 0]) := by
  have := xN a b c d h1 h2
  rwa [cP hs, hx, hy] at this
theorem xX {a b c d x y : Int} (h1 : rf a b) (h2 : rf c d) (h0 : c ≠ 0) (hs : rz (a * d) ∧ rz (b * c)) (hx : np (a * d) (b * c) = x) (hy : nq (a * d) (b * c) = y) : Means false Tryz.prog 13 [frZ a b, frZ c d] (.tup [frZ x y, ii 0]) := by
  have := xO a b c d h1 h2 h0
  rwa [cP hs, hx, hy] at this
theorem m5 {a b c d x : Int} (h1 : rf a b) (h2 : rf c d) (hx : cmpI (a * d) (c * b) = x) : Means false Tryz.prog 23 [frZ a b, frZ c d] (ii x) := by
  have := lG a b c d h1 h2
  rwa [hx] at this
theorem s6 {a b x : Int} (h1 : rf a b) (hx : a / b = x) : Means false Tryz.prog 28 [frZ a b] (bigZ x) := by
  have := qV a b h1
  rwa [hx] at this
set_option maxRecDepth 20000 in
theorem xY : ¬ isT [50, 47, 52] := by
  rintro ⟨p, q, h, e⟩
  have a := dF (txt p) (txt q) (f0 p)
  have b := dF [50] [52] (by decide)
  unfold ftxt at e
  rw [← e] at a
  rw [show ([50, 47, 52] : List UInt8) = [50] ++ 47 :: [52] from rfl, b] at a
  have c := Prod.mk.inj a
  have d := (Prod.mk.inj c.2).1
  have e1 := d9 h.1
  have e2 := d9 h.2.1
  have f1 := d9 (z := 2) (bA (by decide))
  have f2 := d9 (z := 4) (bA (by decide))
  rw [show txt 2 = [50] by decide +kernel] at f1
  rw [show txt 4 = [52] by decide +kernel] at f2
  rw [← c.1, f1] at e1
  rw [← d, f2] at e2
  obtain rfl := (Prod.mk.inj e1).1
  obtain rfl := (Prod.mk.inj e2).1
  exact absurd h.2.2.2 (by decide)
set_option maxHeartbeats 4000000 in
set_option maxRecDepth 20000 in
theorem s0 : Means false Tryz.prog 4 [] (bb true) := by
  refine aK false 139 [.tmp 0] Tryz.func4 rfl rfl rfl (by simp) (by decide) rfl fun X hX => ?_
  (repeat (first | refine aC ?_ | refine a7 ?_ | ((first | refine a8 [0, 1, 2, 4, 5, 6, 7, 8, 9, 10, 11, 12, 14, 15, 16, 17] hX ?_ | refine a6 [0, 1, 2, 4, 5, 6, 7, 8, 9, 10, 11, 12, 14, 15, 16, 17] hX mixed ?_ | refine aD ?_ | refine aA ?_ | refine aB ?_); (simp [go_sem]; try (refine ⟨by kernel_rfl, ?_⟩)))))
  first | refine aE (fT (p := 1) (q := 2) (x := 1) (y := 2) (by decide) (by decide) (by decide) (by decide +kernel) (by decide +kernel)) rfl (by simp [go_sem]) rfl ?_ | refine aF (fT (p := 1) (q := 2) (x := 1) (y := 2) (by decide) (by decide) (by decide) (by decide +kernel) (by decide +kernel)) rfl (by simp [go_sem]) rfl ?_
  try (simp [go_sem]; try (refine ⟨by kernel_rfl, ?_⟩))
  (repeat (first | refine aC ?_ | refine a7 ?_ | ((first | refine a8 [0, 1, 2, 4, 5, 6, 7, 8, 9, 10, 11, 12, 14, 15, 16, 17] hX ?_ | refine a6 [0, 1, 2, 4, 5, 6, 7, 8, 9, 10, 11, 12, 14, 15, 16, 17] hX mixed ?_ | refine aD ?_ | refine aA ?_ | refine aB ?_); (simp [go_sem]; try (refine ⟨by kernel_rfl, ?_⟩)))))
  first | refine aE (fT (p := 1) (q := 3) (x := 1) (y := 3) (by decide) (by decide) (by decide) (by decide +kernel) (by decide +kernel)) rfl (by simp [go_sem]) rfl ?_ | refine aF (fT (p := 1) (q := 3) (x := 1) (y := 3) (by decide) (by decide) (by decide) (by decide +kernel) (by decide +kernel)) rfl (by simp [go_sem]) rfl ?_
  try (simp [go_sem]; try (refine ⟨by kernel_rfl, ?_⟩))
  (repeat (first | refine aC ?_ | refine a7 ?_ | ((first | refine a8 [0, 1, 2, 4, 5, 6, 7, 8, 9, 10, 11, 12, 14, 15, 16, 17] hX ?_ | refine a6 [0, 1, 2, 4, 5, 6, 7, 8, 9, 10, 11, 12, 14, 15, 16, 17] hX mixed ?_ | refine aD ?_ | refine aA ?_ | refine aB ?_); (simp [go_sem]; try (refine ⟨by kernel_rfl, ?_⟩)))))
  first | refine aE (uJ 1 (by decide)) rfl (by simp [go_sem]) rfl ?_ | refine aF (uJ 1 (by decide)) rfl (by simp [go_sem]) rfl ?_
  try (simp [go_sem]; try (refine ⟨by kernel_rfl, ?_⟩))
  (repeat (first | refine aC ?_ | refine a7 ?_ | ((first | refine a8 [0, 1, 2, 4, 5, 6, 7, 8, 9, 10, 11, 12, 14, 15, 16, 17] hX ?_ | refine a6 [0, 1, 2, 4, 5, 6, 7, 8, 9, 10, 11, 12, 14, 15, 16, 17] hX mixed ?_ | refine aD ?_ | refine aA ?_ | refine aB ?_); (simp [go_sem]; try (refine ⟨by kernel_rfl, ?_⟩)))))
  first | refine aE (xU (a := 1) (b := 2) (c := 1) (d := 3) (x := 5) (y := 6) (bZ (by decide) (by decide) (by decide) (by decide)) (bZ (by decide) (by decide) (by decide) (by decide)) ⟨⟨(bA (by decide)), (bA (by decide)), (bA (by decide))⟩, (bA (by decide))⟩ (by decide +kernel) (by decide +kernel)) rfl (by simp [go_sem]) rfl ?_ | refine aF (xU (a := 1) (b := 2) (c := 1) (d := 3) (x := 5) (y := 6) (bZ (by decide) (by decide) (by decide) (by decide)) (bZ (by decide) (by decide) (by decide) (by decide)) ⟨⟨(bA (by decide)), (bA (by decide)), (bA (by decide))⟩, (bA (by decide))⟩ (by decide +kernel) (by decide +kernel)) rfl (by simp [go_sem]) rfl ?_
  try (simp [go_sem]; try (refine ⟨by kernel_rfl, ?_⟩))
  (repeat (first | refine aC ?_ | refine a7 ?_ | ((first | refine a8 [0, 1, 2, 4, 5, 6, 7, 8, 9, 10, 11, 12, 14, 15, 16, 17] hX ?_ | refine a6 [0, 1, 2, 4, 5, 6, 7, 8, 9, 10, 11, 12, 14, 15, 16, 17] hX mixed ?_ | refine aD ?_ | refine aA ?_ | refine aB ?_); (simp [go_sem]; try (refine ⟨by kernel_rfl, ?_⟩)))))
  first | refine aE (xV (a := 1) (b := 2) (c := 1) (d := 3) (x := 1) (y := 6) (bZ (by decide) (by decide) (by decide) (by decide)) (bZ (by decide) (by decide) (by decide) (by decide)) ⟨⟨(bA (by decide)), (bA (by decide)), (bA (by decide))⟩, (bA (by decide))⟩ (by decide +kernel) (by decide +kernel)) rfl (by simp [go_sem]) rfl ?_ | refine aF (xV (a := 1) (b := 2) (c := 1) (d := 3) (x := 1) (y := 6) (bZ (by decide) (by decide) (by decide) (by decide)) (bZ (by decide) (by decide) (by decide) (by decide)) ⟨⟨(bA (by decide)), (bA (by decide)), (bA (by decide))⟩, (bA (by decide))⟩ (by decide +kernel) (by decide +kernel)) rfl (by simp [go_sem]) rfl ?_
  try (simp [go_sem]; try (refine ⟨by kernel_rfl, ?_⟩))
  (repeat (first | refine aC ?_ | refine a7 ?_ | ((first | refine a8 [0, 1, 2, 4, 5, 6, 7, 8, 9, 10, 11, 12, 14, 15, 16, 17] hX ?_ | refine a6 [0, 1, 2, 4, 5, 6, 7, 8, 9, 10, 11, 12, 14, 15, 16, 17] hX mixed ?_ | refine aD ?_ | refine aA ?_ | refine aB ?_); (simp [go_sem]; try (refine ⟨by kernel_rfl, ?_⟩)))))
  first | refine aE (xW (a := 1) (b := 2) (c := 1) (d := 3) (x := 1) (y := 6) (bZ (by decide) (by decide) (by decide) (by decide)) (bZ (by decide) (by decide) (by decide) (by decide)) ⟨(bA (by decide)), (bA (by decide))⟩ (by decide +kernel) (by decide +kernel)) rfl (by simp [go_sem]) rfl ?_ | refine aF (xW (a := 1) (b := 2) (c := 1) (d := 3) (x := 1) (y := 6) (bZ (by decide) (by decide) (by decide) (by decide)) (bZ (by decide) (by decide) (by decide) (by decide)) ⟨(bA (by decide)), (bA (by decide))⟩ (by decide +kernel) (by decide +kernel)) rfl (by simp [go_sem]) rfl ?_
  try (simp [go_sem]; try (refine ⟨by kernel_rfl, ?_⟩))
  (repeat (first | refine aC ?_ | refine a7 ?_ | ((first | refine a8 [0, 1, 2, 4, 5, 6, 7, 8, 9, 10, 11, 12, 14, 15, 16, 17] hX ?_ | refine a6 [0, 1, 2, 4, 5, 6, 7, 8, 9, 10, 11, 12, 14, 15, 16, 17] hX mixed ?_ | refine aD ?_ | refine aA ?_ | refine aB ?_); (simp [go_sem]; try (refine ⟨by kernel_rfl, ?_⟩)))))
  first | refine aE (xX (a := 1) (b := 2) (c := 1) (d := 3) (x := 3) (y := 2) (bZ (by decide) (by decide) (by decide) (by decide)) (bZ (by decide) (by decide) (by decide) (by decide)) (by decide) ⟨(bA (by decide)), (bA (by decide))⟩ (by decide +kernel) (by decide +kernel)) rfl (by simp [go_sem]) rfl ?_ | refine aF (xX (a := 1) (b := 2) (c := 1) (d := 3) (x := 3) (y := 2) (bZ (by decide) (by decide) (by decide) (by decide)) (bZ (by decide) (by decide) (by decide) (by decide)) (by decide) ⟨(bA (by decide)), (bA (by decide))⟩ (by decide +kernel) (by decide +kernel)) rfl (by simp [go_sem]) rfl ?_
  try (simp [go_sem]; try (refine ⟨by kernel_rfl, ?_⟩))
  (repeat (first | refine aC ?_ | refine a7 ?_ | ((first | refine a8 [0, 1, 2, 4, 5, 6, 7, 8, 9, 10, 11, 12, 14, 15, 16, 17] hX ?_ | refine a6 [0, 1, 2, 4, 5, 6, 7, 8, 9, 10, 11, 12, 14, 15, 16, 17] hX mixed ?_ | refine aD ?_ | refine aA ?_ | refine aB ?_); (simp [go_sem]; try (refine ⟨by kernel_rfl, ?_⟩)))))
  first | refine aE (s5 (s := [50, 47, 52]) (by decide) xY) rfl (by simp [go_sem]) rfl ?_ | refine aF (s5 (s := [50, 47, 52]) (by decide) xY) rfl (by simp [go_sem]) rfl ?_
  try (simp [go_sem]; try (refine ⟨by kernel_rfl, ?_⟩))
  (repeat (first | refine aC ?_ | refine a7 ?_ | ((first | refine a8 [0, 1, 2, 4, 5, 6, 7, 8, 9, 10, 11, 12, 14, 15, 16, 17] hX ?_ | refine a6 [0, 1, 2, 4, 5, 6, 7, 8, 9, 10, 11, 12, 14, 15, 16, 17] hX mixed ?_ | refine aD ?_ | refine aA ?_ | refine aB ?_); (simp [go_sem]; try (refine ⟨by kernel_rfl, ?_⟩)))))
  first | refine aE (pM (s := [45, 51, 47, 50]) (p := -3) (q := 2) (by decide) (bZ (by decide) (by decide) (by decide) (by decide)) (by decide +kernel)) rfl (by simp [go_sem]) rfl ?_ | refine aF (pM (s := [45, 51, 47, 50]) (p := -3) (q := 2) (by decide) (bZ (by decide) (by decide) (by decide) (by decide)) (by decide +kernel)) rfl (by simp [go_sem]) rfl ?_
  try (simp [go_sem]; try (refine ⟨by kernel_rfl, ?_⟩))
  (repeat (first | refine aC ?_ | refine a7 ?_ | ((first | refine a8 [0, 1, 2, 4, 5, 6, 7, 8, 9, 10, 11, 12, 14, 15, 16, 17] hX ?_ | refine a6 [0, 1, 2, 4, 5, 6, 7, 8, 9, 10, 11, 12, 14, 15, 16, 17] hX mixed ?_ | refine aD ?_ | refine aA ?_ | refine aB ?_); (simp [go_sem]; try (refine ⟨by kernel_rfl, ?_⟩)))))
  first | refine aE (fT (p := 6) (q := -4) (x := -3) (y := 2) (by decide) (by decide) (by decide) (by decide +kernel) (by decide +kernel)) rfl (by simp [go_sem]) rfl ?_ | refine aF (fT (p := 6) (q := -4) (x := -3) (y := 2) (by decide) (by decide) (by decide) (by decide +kernel) (by decide +kernel)) rfl (by simp [go_sem]) rfl ?_
  try (simp [go_sem]; try (refine ⟨by kernel_rfl, ?_⟩))
  first | refine aE (dB (p := -3) (q := 2) (s := [45, 51, 47, 50]) (bZ (by decide) (by decide) (by decide) (by decide)) (by decide +kernel)) rfl (by simp [go_sem]) rfl ?_ | refine aF (dB (p := -3) (q := 2) (s := [45, 51, 47, 50]) (bZ (by decide) (by decide) (by decide) (by decide)) (by decide +kernel)) rfl (by simp [go_sem]) rfl ?_
  try (simp [go_sem]; try (refine ⟨by kernel_rfl, ?_⟩))
  first | refine aI (fun hg => fT (p := 0) (q := 7) (x := 0) (y := 1) (by decide) (by decide) (by decide) (by decide +kernel) (by decide +kernel)) rfl (by simp [go_sem]) rfl ?_ | refine aH (fun hg => fT (p := 0) (q := 7) (x := 0) (y := 1) (by decide) (by decide) (by decide) (by decide +kernel) (by decide +kernel)) rfl (by simp [go_sem]) rfl ?_
  try (simp [go_sem]; try (refine ⟨by kernel_rfl, ?_⟩))
  first | refine aI (fun hg => dB (p := 0) (q := 1) (s := [48, 47, 49]) (bZ (by decide) (by decide) (by decide) (by decide)) (by decide +kernel)) rfl (by simp [go_sem]) rfl ?_ | refine aH (fun hg => dB (p := 0) (q := 1) (s := [48, 47, 49]) (bZ (by decide) (by decide) (by decide) (by decide)) (by decide +kernel)) rfl (by simp [go_sem]) rfl ?_
  try (simp [go_sem]; try (refine ⟨by kernel_rfl, ?_⟩))
  first | refine aI (fun hg => dB (p := 5) (q := 6) (s := [53, 47, 54]) (bZ (by decide) (by decide) (by decide) (by decide)) (by decide +kernel)) rfl (by simp [go_sem]) rfl ?_ | refine aH (fun hg => dB (p := 5) (q := 6) (s := [53, 47, 54]) (bZ (by decide) (by decide) (by decide) (by decide)) (by decide +kernel)) rfl (by simp [go_sem]) rfl ?_
  try (simp [go_sem]; try (refine ⟨by kernel_rfl, ?_⟩))
  first | refine aI (fun hg => dB (p := 1) (q := 6) (s := [49, 47, 54]) (bZ (by decide) (by decide) (by decide) (by decide)) (by decide +kernel)) rfl (by simp [go_sem]) rfl ?_ | refine aH (fun hg => dB (p := 1) (q := 6) (s := [49, 47, 54]) (bZ (by decide) (by decide) (by decide) (by decide)) (by decide +kernel)) rfl (by simp [go_sem]) rfl ?_
  try (simp [go_sem]; try (refine ⟨by kernel_rfl, ?_⟩))
  first | refine aI (fun hg => dB (p := 1) (q := 6) (s := [49, 47, 54]) (bZ (by decide) (by decide) (by decide) (by decide)) (by decide +kernel)) rfl (by simp [go_sem]) rfl ?_ | refine aH (fun hg => dB (p := 1) (q := 6) (s := [49, 47, 54]) (bZ (by decide) (by decide) (by decide) (by decide)) (by decide +kernel)) rfl (by simp [go_sem]) rfl ?_
  try (simp [go_sem]; try (refine ⟨by kernel_rfl, ?_⟩))
  first | refine aI (fun hg => dB (p := 3) (q := 2) (s := [51, 47, 50]) (bZ (by decide) (by decide) (by decide) (by decide)) (by decide +kernel)) rfl (by simp [go_sem]) rfl ?_ | refine aH (fun hg => dB (p := 3) (q := 2) (s := [51, 47, 50]) (bZ (by decide) (by decide) (by decide) (by decide)) (by decide +kernel)) rfl (by simp [go_sem]) rfl ?_
  try (simp [go_sem]; try (refine ⟨by kernel_rfl, ?_⟩))
  (repeat (first | refine aC ?_ | refine a7 ?_ | ((first | refine a8 [0, 1, 2, 4, 5, 6, 7, 8, 9, 10, 11, 12, 14, 15, 16, 17] hX ?_ | refine a6 [0, 1, 2, 4, 5, 6, 7, 8, 9, 10, 11, 12, 14, 15, 16, 17] hX mixed ?_ | refine aD ?_ | refine aA ?_ | refine aB ?_); (simp [go_sem]; try (refine ⟨by kernel_rfl, ?_⟩)))))
  first | refine aI (fun hg => fT (p := -1) (q := 2) (x := -1) (y := 2) (by decide) (by decide) (by decide) (by decide +kernel) (by decide +kernel)) rfl (by simp [go_sem]) rfl ?_ | refine aH (fun hg => fT (p := -1) (q := 2) (x := -1) (y := 2) (by decide) (by decide) (by decide) (by decide +kernel) (by decide +kernel)) rfl (by simp [go_sem]) rfl ?_
  try (simp [go_sem]; try (refine ⟨by kernel_rfl, ?_⟩))
  first | refine aI (fun hg => fT (p := -1) (q := 3) (x := -1) (y := 3) (by decide) (by decide) (by decide) (by decide +kernel) (by decide +kernel)) rfl (by simp [go_sem]) rfl ?_ | refine aH (fun hg => fT (p := -1) (q := 3) (x := -1) (y := 3) (by decide) (by decide) (by decide) (by decide +kernel) (by decide +kernel)) rfl (by simp [go_sem]) rfl ?_
  try (simp [go_sem]; try (refine ⟨by kernel_rfl, ?_⟩))
  first | refine aI (fun hg => m5 (a := -1) (b := 2) (c := -1) (d := 3) (x := -1) (bZ (by decide) (by decide) (by decide) (by decide)) (bZ (by decide) (by decide) (by decide) (by decide)) (by decide)) rfl (by simp [go_sem]) rfl ?_ | refine aH (fun hg => m5 (a := -1) (b := 2) (c := -1) (d := 3) (x := -1) (bZ (by decide) (by decide) (by decide) (by decide)) (bZ (by decide) (by decide) (by decide) (by decide)) (by decide)) rfl (by simp [go_sem]) rfl ?_
  try (simp [go_sem]; try (refine ⟨by kernel_rfl, ?_⟩))
  first | refine aI (fun hg => fT (p := -3) (q := 2) (x := -3) (y := 2) (by decide) (by decide) (by decide) (by decide +kernel) (by decide +kernel)) rfl (by simp [go_sem]) rfl ?_ | refine aH (fun hg => fT (p := -3) (q := 2) (x := -3) (y := 2) (by decide) (by decide) (by decide) (by decide +kernel) (by decide +kernel)) rfl (by simp [go_sem]) rfl ?_
  try (simp [go_sem]; try (refine ⟨by kernel_rfl, ?_⟩))
  first | refine aI (fun hg => s6 (a := -3) (b := 2) (x := -2) (bZ (by decide) (by decide) (by decide) (by decide)) (by decide)) rfl (by simp [go_sem]) rfl ?_ | refine aH (fun hg => s6 (a := -3) (b := 2) (x := -2) (bZ (by decide) (by decide) (by decide) (by decide)) (by decide)) rfl (by simp [go_sem]) rfl ?_
  try (simp [go_sem]; try (refine ⟨by kernel_rfl, ?_⟩))
  first | refine aI (fun hg => l0 (-2) (by decide)) rfl (by simp [go_sem]) rfl ?_ | refine aH (fun hg => l0 (-2) (by decide)) rfl (by simp [go_sem]) rfl ?_
  try (simp [go_sem]; try (refine ⟨by kernel_rfl, ?_⟩))
  first | refine aI (fun hg => fR (z := -2) (w := -2) rfl (bA (by decide))) rfl (by simp [go_sem]) rfl ?_ | refine aH (fun hg => fR (z := -2) (w := -2) rfl (bA (by decide))) rfl (by simp [go_sem]) rfl ?_
  try (simp [go_sem]; try (refine ⟨by kernel_rfl, ?_⟩))
  first | refine aI (fun hg => fT (p := -3) (q := 2) (x := -3) (y := 2) (by decide) (by decide) (by decide) (by decide +kernel) (by decide +kernel)) rfl (by simp [go_sem]) rfl ?_ | refine aH (fun hg => fT (p := -3) (q := 2) (x := -3) (y := 2) (by decide) (by decide) (by decide) (by decide +kernel) (by decide +kernel)) rfl (by simp [go_sem]) rfl ?_
  try (simp [go_sem]; try (refine ⟨by kernel_rfl, ?_⟩))
  first | refine aI (fun hg => n3 (a := -3) (b := 2) (c := -3) (d := 2) rfl rfl (bA (by decide)) (bA (by decide))) rfl (by simp [go_sem]) rfl ?_ | refine aH (fun hg => n3 (a := -3) (b := 2) (c := -3) (d := 2) rfl rfl (bA (by decide)) (bA (by decide))) rfl (by simp [go_sem]) rfl ?_
  try (simp [go_sem]; try (refine ⟨by kernel_rfl, ?_⟩))
  first | refine aI (fun hg => aY 1 2 (bZ (by decide) (by decide) (by decide) (by decide))) rfl (by simp [go_sem]) rfl ?_ | refine aH (fun hg => aY 1 2 (bZ (by decide) (by decide) (by decide) (by decide))) rfl (by simp [go_sem]) rfl ?_
  try (simp [go_sem]; try (refine ⟨by kernel_rfl, ?_⟩))
  first | refine aI (fun hg => bO 0 [] (by decide) 0 [] (by decide)) rfl (by simp [go_sem]) rfl ?_ | refine aH (fun hg => bO 0 [] (by decide) 0 [] (by decide)) rfl (by simp [go_sem]) rfl ?_
  try (simp [go_sem]; try (refine ⟨by kernel_rfl, ?_⟩))
  (repeat (first | refine aC ?_ | refine a7 ?_ | ((first | refine a8 [0, 1, 2, 4, 5, 6, 7, 8, 9, 10, 11, 12, 14, 15, 16, 17] hX ?_ | refine a6 [0, 1, 2, 4, 5, 6, 7, 8, 9, 10, 11, 12, 14, 15, 16, 17] hX mixed ?_ | refine aD ?_ | refine aA ?_ | refine aB ?_); (simp [go_sem]; try (refine ⟨by kernel_rfl, ?_⟩)))))
  refine ⟨by decide +kernel, fun h => ?_⟩
  have := h.2.2.2.2.1
  exact absurd this (by decide)
end Go.Proofs.YtebinaffldlihaaGreatDoor
