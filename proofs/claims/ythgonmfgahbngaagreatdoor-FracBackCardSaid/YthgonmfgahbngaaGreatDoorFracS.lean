/-
  Layer 5: the law's small helpers, the documentation's examples.
-/
import Derived.Test.YthgonmfgahbngaaGreatDoorFracX
set_option linter.all false
namespace Go.Proofs.YthgonmfgahbngaaGreatDoor
open Go.RowKit Go.Ab
attribute [local irreducible] AWP Go.Ab.Sub Means MeansH CallK CallG CallT CallGT

theorem of_m (p q : Int) (hp : -9223372036854775808 ≤ p ∧ p ≤ 9223372036854775807) (hq : -9223372036854775808 ≤ q ∧ q ≤ 9223372036854775807) (h0 : q ≠ 0) : Means false Tryz.prog 35 [ii p, ii q] (frZ (np p q) (nq p q)) := by
  refine means_fn false 14 [.cell 4 26] Tryz.func35 rfl rfl rfl (by simp) (by decide) rfl fun X hX => ?_
  (repeat (first | refine awp_seq ?_ | refine awp_block ?_ | (refine awp_runG [0, 1, 4, 5] hX ?_; (simp [go_sem]; try (refine ⟨by kernel_rfl, ?_⟩))) | (refine awp_drawnG [0, 1, 4, 5] hX mixed ?_; (simp [go_sem]; try (refine ⟨by kernel_rfl, ?_⟩))) | (refine awp_ret ?_; (simp [go_sem]; try (refine ⟨by kernel_rfl, ?_⟩))) | (refine awp_skip ?_; (simp [go_sem]; try (refine ⟨by kernel_rfl, ?_⟩))) | (refine awp_exit ?_; (simp [go_sem]; try (refine ⟨by kernel_rfl, ?_⟩)))))
  first | refine callK_intro (Of_f p q hp hq h0) rfl (by simp [go_sem]) rfl ?_ | refine callT_intro (Of_f p q hp hq h0) rfl (by simp [go_sem]) rfl ?_
  try (simp [go_sem]; try (refine ⟨by kernel_rfl, ?_⟩))
  (repeat (first | refine awp_seq ?_ | refine awp_block ?_ | (refine awp_runG [0, 1, 4, 5] hX ?_; (simp [go_sem]; try (refine ⟨by kernel_rfl, ?_⟩))) | (refine awp_drawnG [0, 1, 4, 5] hX mixed ?_; (simp [go_sem]; try (refine ⟨by kernel_rfl, ?_⟩))) | (refine awp_ret ?_; (simp [go_sem]; try (refine ⟨by kernel_rfl, ?_⟩))) | (refine awp_skip ?_; (simp [go_sem]; try (refine ⟨by kernel_rfl, ?_⟩))) | (refine awp_exit ?_; (simp [go_sem]; try (refine ⟨by kernel_rfl, ?_⟩)))))
theorem of_t {p q x y : Int} (hp : -9223372036854775808 ≤ p ∧ p ≤ 9223372036854775807) (hq : -9223372036854775808 ≤ q ∧ q ≤ 9223372036854775807) (h0 : q ≠ 0) (hx : np p q = x) (hy : nq p q = y) : Means false Tryz.prog 35 [ii p, ii q] (frZ x y) := by
  have := of_m p q hp hq h0
  rwa [hx, hy] at this
theorem rf_c {p q : Int} (h1 : ab p < 100000000000000000000000000000000) (h2 : ab q < 100000000000000000000000000000000) (h3 : 0 < q) (h4 : Int.gcd p q = 1) : rf p q := ⟨rz_c h1, rz_c h2, h3, h4⟩
theorem frZ_0 : frZ 0 0 = .agg [ii 0, .sl [], ii 0, .sl []] := rfl
theorem Text_t {p q : Int} {s : List UInt8} (h : rf p q) (hs : ftxt p q = s) : Means false Tryz.prog 29 [frZ p q] (sb s) := by
  have := Text_g p q h.1 h.2.1
  rwa [if_pos h, hs] at this
theorem Read_no {s : List UInt8} (hs : s.length ≤ 100000) (h : ¬ isT s) : Means false Tryz.prog 21 [sb s] (.tup [frZ 0 0, ii 2]) :=
  Read_g s hs 0 0 2 (fun p q hr e => absurd ⟨p, q, hr, e⟩ h) (fun _ => ⟨rfl, rfl, rfl⟩)
theorem ftxt_inj {p q r s : Int} (h1 : rf p q) (h2 : rf r s) (h : ftxt p q = ftxt r s) : p = r ∧ q = s := by
  have a := cut_hit (txt p) (txt q) (txt_no47 p)
  have b := cut_hit (txt r) (txt s) (txt_no47 r)
  unfold ftxt at h
  rw [h, b] at a
  have c := Prod.mk.inj a
  have d := (Prod.mk.inj c.2).1
  have e1 := rd_txt h1.1
  have e2 := rd_txt h2.1
  rw [c.1, e1] at e2
  have f1 := rd_txt h1.2.1
  have f2 := rd_txt h2.2.1
  rw [d, f1] at f2
  exact ⟨(Prod.mk.inj e2).1, (Prod.mk.inj f2).1⟩
theorem Read_yes {s : List UInt8} {p q : Int} (hs : s.length ≤ 100000) (h : rf p q) (e : ftxt p q = s) : Means false Tryz.prog 21 [sb s] (.tup [frZ p q, ii 0]) :=
  Read_g s hs p q 0 (fun p' q' hr e' => by
    obtain ⟨a, b⟩ := ftxt_inj h hr (e.trans e')
    exact ⟨a, b, rfl⟩) (fun hn => absurd ⟨p, q, h, e.symm⟩ hn)
theorem Add_t {a b c d x y : Int} (h1 : rf a b) (h2 : rf c d) (hs : sumP a d c b ∧ rz (b * d)) (hx : np (a * d + c * b) (b * d) = x) (hy : nq (a * d + c * b) (b * d) = y) : Means false Tryz.prog 10 [frZ a b, frZ c d] (.tup [frZ x y, ii 0]) := by
  have := Add_f a b c d h1 h2
  rwa [resF_t hs, hx, hy] at this
theorem Sub_t {a b c d x y : Int} (h1 : rf a b) (h2 : rf c d) (hs : sumP a d (-c) b ∧ rz (b * d)) (hx : np (a * d + -c * b) (b * d) = x) (hy : nq (a * d + -c * b) (b * d) = y) : Means false Tryz.prog 12 [frZ a b, frZ c d] (.tup [frZ x y, ii 0]) := by
  have := Sub_f a b c d h1 h2
  rwa [resF_t hs, hx, hy] at this
theorem Mul_t {a b c d x y : Int} (h1 : rf a b) (h2 : rf c d) (hs : rz (a * c) ∧ rz (b * d)) (hx : np (a * c) (b * d) = x) (hy : nq (a * c) (b * d) = y) : Means false Tryz.prog 15 [frZ a b, frZ c d] (.tup [frZ x y, ii 0]) := by
  have := Mul_f a b c d h1 h2
  rwa [resF_t hs, hx, hy] at this
theorem Div_t {a b c d x y : Int} (h1 : rf a b) (h2 : rf c d) (h0 : c ≠ 0) (hs : rz (a * d) ∧ rz (b * c)) (hx : np (a * d) (b * c) = x) (hy : nq (a * d) (b * c) = y) : Means false Tryz.prog 17 [frZ a b, frZ c d] (.tup [frZ x y, ii 0]) := by
  have := Div_f a b c d h1 h2 h0
  rwa [resF_t hs, hx, hy] at this
theorem Compare_t {a b c d x : Int} (h1 : rf a b) (h2 : rf c d) (hx : cmpI (a * d) (c * b) = x) : Means false Tryz.prog 27 [frZ a b, frZ c d] (ii x) := by
  have := Compare_f a b c d h1 h2
  rwa [hx] at this
theorem Floor_t {a b x : Int} (h1 : rf a b) (hx : a / b = x) : Means false Tryz.prog 32 [frZ a b] (bigZ x) := by
  have := Floor_f a b h1
  rwa [hx] at this
set_option maxRecDepth 20000 in
theorem no_24 : ¬ isT [50, 47, 52] := by
  rintro ⟨p, q, h, e⟩
  have a := cut_hit (txt p) (txt q) (txt_no47 p)
  have b := cut_hit [50] [52] (by decide)
  unfold ftxt at e
  rw [← e] at a
  rw [show ([50, 47, 52] : List UInt8) = [50] ++ 47 :: [52] from rfl, b] at a
  have c := Prod.mk.inj a
  have d := (Prod.mk.inj c.2).1
  have e1 := rd_txt h.1
  have e2 := rd_txt h.2.1
  have f1 := rd_txt (z := 2) (rz_c (by decide))
  have f2 := rd_txt (z := 4) (rz_c (by decide))
  rw [show txt 2 = [50] by decide +kernel] at f1
  rw [show txt 4 = [52] by decide +kernel] at f2
  rw [← c.1, f1] at e1
  rw [← d, f2] at e2
  obtain rfl := (Prod.mk.inj e1).1
  obtain rfl := (Prod.mk.inj e2).1
  exact absurd h.2.2.2 (by decide)

set_option maxHeartbeats 4000000 in
set_option maxRecDepth 20000 in
theorem small_m : Means false Tryz.prog 8 [] (bb true) := by
  refine means_fn false 139 [.tmp 0] Tryz.func8 rfl rfl rfl (by simp) (by decide) rfl fun X hX => ?_
  (repeat (first | refine awp_seq ?_ | refine awp_block ?_ | (refine awp_runG [0, 1, 2, 4, 5, 6, 7, 8, 9, 10, 11, 12, 14, 15, 16, 17] hX ?_; (simp [go_sem]; try (refine ⟨by kernel_rfl, ?_⟩))) | (refine awp_drawnG [0, 1, 2, 4, 5, 6, 7, 8, 9, 10, 11, 12, 14, 15, 16, 17] hX mixed ?_; (simp [go_sem]; try (refine ⟨by kernel_rfl, ?_⟩))) | (refine awp_ret ?_; (simp [go_sem]; try (refine ⟨by kernel_rfl, ?_⟩))) | (refine awp_skip ?_; (simp [go_sem]; try (refine ⟨by kernel_rfl, ?_⟩))) | (refine awp_exit ?_; (simp [go_sem]; try (refine ⟨by kernel_rfl, ?_⟩)))))
  first | refine callK_intro (of_t (p := 1) (q := 2) (x := 1) (y := 2) (by decide) (by decide) (by decide) (by decide +kernel) (by decide +kernel)) rfl (by simp [go_sem]) rfl ?_ | refine callT_intro (of_t (p := 1) (q := 2) (x := 1) (y := 2) (by decide) (by decide) (by decide) (by decide +kernel) (by decide +kernel)) rfl (by simp [go_sem]) rfl ?_
  try (simp [go_sem]; try (refine ⟨by kernel_rfl, ?_⟩))
  (repeat (first | refine awp_seq ?_ | refine awp_block ?_ | (refine awp_runG [0, 1, 2, 4, 5, 6, 7, 8, 9, 10, 11, 12, 14, 15, 16, 17] hX ?_; (simp [go_sem]; try (refine ⟨by kernel_rfl, ?_⟩))) | (refine awp_drawnG [0, 1, 2, 4, 5, 6, 7, 8, 9, 10, 11, 12, 14, 15, 16, 17] hX mixed ?_; (simp [go_sem]; try (refine ⟨by kernel_rfl, ?_⟩))) | (refine awp_ret ?_; (simp [go_sem]; try (refine ⟨by kernel_rfl, ?_⟩))) | (refine awp_skip ?_; (simp [go_sem]; try (refine ⟨by kernel_rfl, ?_⟩))) | (refine awp_exit ?_; (simp [go_sem]; try (refine ⟨by kernel_rfl, ?_⟩)))))
  first | refine callK_intro (of_t (p := 1) (q := 3) (x := 1) (y := 3) (by decide) (by decide) (by decide) (by decide +kernel) (by decide +kernel)) rfl (by simp [go_sem]) rfl ?_ | refine callT_intro (of_t (p := 1) (q := 3) (x := 1) (y := 3) (by decide) (by decide) (by decide) (by decide +kernel) (by decide +kernel)) rfl (by simp [go_sem]) rfl ?_
  try (simp [go_sem]; try (refine ⟨by kernel_rfl, ?_⟩))
  (repeat (first | refine awp_seq ?_ | refine awp_block ?_ | (refine awp_runG [0, 1, 2, 4, 5, 6, 7, 8, 9, 10, 11, 12, 14, 15, 16, 17] hX ?_; (simp [go_sem]; try (refine ⟨by kernel_rfl, ?_⟩))) | (refine awp_drawnG [0, 1, 2, 4, 5, 6, 7, 8, 9, 10, 11, 12, 14, 15, 16, 17] hX mixed ?_; (simp [go_sem]; try (refine ⟨by kernel_rfl, ?_⟩))) | (refine awp_ret ?_; (simp [go_sem]; try (refine ⟨by kernel_rfl, ?_⟩))) | (refine awp_skip ?_; (simp [go_sem]; try (refine ⟨by kernel_rfl, ?_⟩))) | (refine awp_exit ?_; (simp [go_sem]; try (refine ⟨by kernel_rfl, ?_⟩)))))
  first | refine callK_intro (Of_f0 1 (by decide)) rfl (by simp [go_sem]) rfl ?_ | refine callT_intro (Of_f0 1 (by decide)) rfl (by simp [go_sem]) rfl ?_
  try (simp [go_sem]; try (refine ⟨by kernel_rfl, ?_⟩))
  (repeat (first | refine awp_seq ?_ | refine awp_block ?_ | (refine awp_runG [0, 1, 2, 4, 5, 6, 7, 8, 9, 10, 11, 12, 14, 15, 16, 17] hX ?_; (simp [go_sem]; try (refine ⟨by kernel_rfl, ?_⟩))) | (refine awp_drawnG [0, 1, 2, 4, 5, 6, 7, 8, 9, 10, 11, 12, 14, 15, 16, 17] hX mixed ?_; (simp [go_sem]; try (refine ⟨by kernel_rfl, ?_⟩))) | (refine awp_ret ?_; (simp [go_sem]; try (refine ⟨by kernel_rfl, ?_⟩))) | (refine awp_skip ?_; (simp [go_sem]; try (refine ⟨by kernel_rfl, ?_⟩))) | (refine awp_exit ?_; (simp [go_sem]; try (refine ⟨by kernel_rfl, ?_⟩)))))
  first | refine callK_intro (Add_t (a := 1) (b := 2) (c := 1) (d := 3) (x := 5) (y := 6) (rf_c (by decide) (by decide) (by decide) (by decide)) (rf_c (by decide) (by decide) (by decide) (by decide)) ⟨⟨(rz_c (by decide)), (rz_c (by decide)), (rz_c (by decide))⟩, (rz_c (by decide))⟩ (by decide +kernel) (by decide +kernel)) rfl (by simp [go_sem]) rfl ?_ | refine callT_intro (Add_t (a := 1) (b := 2) (c := 1) (d := 3) (x := 5) (y := 6) (rf_c (by decide) (by decide) (by decide) (by decide)) (rf_c (by decide) (by decide) (by decide) (by decide)) ⟨⟨(rz_c (by decide)), (rz_c (by decide)), (rz_c (by decide))⟩, (rz_c (by decide))⟩ (by decide +kernel) (by decide +kernel)) rfl (by simp [go_sem]) rfl ?_
  try (simp [go_sem]; try (refine ⟨by kernel_rfl, ?_⟩))
  (repeat (first | refine awp_seq ?_ | refine awp_block ?_ | (refine awp_runG [0, 1, 2, 4, 5, 6, 7, 8, 9, 10, 11, 12, 14, 15, 16, 17] hX ?_; (simp [go_sem]; try (refine ⟨by kernel_rfl, ?_⟩))) | (refine awp_drawnG [0, 1, 2, 4, 5, 6, 7, 8, 9, 10, 11, 12, 14, 15, 16, 17] hX mixed ?_; (simp [go_sem]; try (refine ⟨by kernel_rfl, ?_⟩))) | (refine awp_ret ?_; (simp [go_sem]; try (refine ⟨by kernel_rfl, ?_⟩))) | (refine awp_skip ?_; (simp [go_sem]; try (refine ⟨by kernel_rfl, ?_⟩))) | (refine awp_exit ?_; (simp [go_sem]; try (refine ⟨by kernel_rfl, ?_⟩)))))
  first | refine callK_intro (Sub_t (a := 1) (b := 2) (c := 1) (d := 3) (x := 1) (y := 6) (rf_c (by decide) (by decide) (by decide) (by decide)) (rf_c (by decide) (by decide) (by decide) (by decide)) ⟨⟨(rz_c (by decide)), (rz_c (by decide)), (rz_c (by decide))⟩, (rz_c (by decide))⟩ (by decide +kernel) (by decide +kernel)) rfl (by simp [go_sem]) rfl ?_ | refine callT_intro (Sub_t (a := 1) (b := 2) (c := 1) (d := 3) (x := 1) (y := 6) (rf_c (by decide) (by decide) (by decide) (by decide)) (rf_c (by decide) (by decide) (by decide) (by decide)) ⟨⟨(rz_c (by decide)), (rz_c (by decide)), (rz_c (by decide))⟩, (rz_c (by decide))⟩ (by decide +kernel) (by decide +kernel)) rfl (by simp [go_sem]) rfl ?_
  try (simp [go_sem]; try (refine ⟨by kernel_rfl, ?_⟩))
  (repeat (first | refine awp_seq ?_ | refine awp_block ?_ | (refine awp_runG [0, 1, 2, 4, 5, 6, 7, 8, 9, 10, 11, 12, 14, 15, 16, 17] hX ?_; (simp [go_sem]; try (refine ⟨by kernel_rfl, ?_⟩))) | (refine awp_drawnG [0, 1, 2, 4, 5, 6, 7, 8, 9, 10, 11, 12, 14, 15, 16, 17] hX mixed ?_; (simp [go_sem]; try (refine ⟨by kernel_rfl, ?_⟩))) | (refine awp_ret ?_; (simp [go_sem]; try (refine ⟨by kernel_rfl, ?_⟩))) | (refine awp_skip ?_; (simp [go_sem]; try (refine ⟨by kernel_rfl, ?_⟩))) | (refine awp_exit ?_; (simp [go_sem]; try (refine ⟨by kernel_rfl, ?_⟩)))))
  first | refine callK_intro (Mul_t (a := 1) (b := 2) (c := 1) (d := 3) (x := 1) (y := 6) (rf_c (by decide) (by decide) (by decide) (by decide)) (rf_c (by decide) (by decide) (by decide) (by decide)) ⟨(rz_c (by decide)), (rz_c (by decide))⟩ (by decide +kernel) (by decide +kernel)) rfl (by simp [go_sem]) rfl ?_ | refine callT_intro (Mul_t (a := 1) (b := 2) (c := 1) (d := 3) (x := 1) (y := 6) (rf_c (by decide) (by decide) (by decide) (by decide)) (rf_c (by decide) (by decide) (by decide) (by decide)) ⟨(rz_c (by decide)), (rz_c (by decide))⟩ (by decide +kernel) (by decide +kernel)) rfl (by simp [go_sem]) rfl ?_
  try (simp [go_sem]; try (refine ⟨by kernel_rfl, ?_⟩))
  (repeat (first | refine awp_seq ?_ | refine awp_block ?_ | (refine awp_runG [0, 1, 2, 4, 5, 6, 7, 8, 9, 10, 11, 12, 14, 15, 16, 17] hX ?_; (simp [go_sem]; try (refine ⟨by kernel_rfl, ?_⟩))) | (refine awp_drawnG [0, 1, 2, 4, 5, 6, 7, 8, 9, 10, 11, 12, 14, 15, 16, 17] hX mixed ?_; (simp [go_sem]; try (refine ⟨by kernel_rfl, ?_⟩))) | (refine awp_ret ?_; (simp [go_sem]; try (refine ⟨by kernel_rfl, ?_⟩))) | (refine awp_skip ?_; (simp [go_sem]; try (refine ⟨by kernel_rfl, ?_⟩))) | (refine awp_exit ?_; (simp [go_sem]; try (refine ⟨by kernel_rfl, ?_⟩)))))
  first | refine callK_intro (Div_t (a := 1) (b := 2) (c := 1) (d := 3) (x := 3) (y := 2) (rf_c (by decide) (by decide) (by decide) (by decide)) (rf_c (by decide) (by decide) (by decide) (by decide)) (by decide) ⟨(rz_c (by decide)), (rz_c (by decide))⟩ (by decide +kernel) (by decide +kernel)) rfl (by simp [go_sem]) rfl ?_ | refine callT_intro (Div_t (a := 1) (b := 2) (c := 1) (d := 3) (x := 3) (y := 2) (rf_c (by decide) (by decide) (by decide) (by decide)) (rf_c (by decide) (by decide) (by decide) (by decide)) (by decide) ⟨(rz_c (by decide)), (rz_c (by decide))⟩ (by decide +kernel) (by decide +kernel)) rfl (by simp [go_sem]) rfl ?_
  try (simp [go_sem]; try (refine ⟨by kernel_rfl, ?_⟩))
  (repeat (first | refine awp_seq ?_ | refine awp_block ?_ | (refine awp_runG [0, 1, 2, 4, 5, 6, 7, 8, 9, 10, 11, 12, 14, 15, 16, 17] hX ?_; (simp [go_sem]; try (refine ⟨by kernel_rfl, ?_⟩))) | (refine awp_drawnG [0, 1, 2, 4, 5, 6, 7, 8, 9, 10, 11, 12, 14, 15, 16, 17] hX mixed ?_; (simp [go_sem]; try (refine ⟨by kernel_rfl, ?_⟩))) | (refine awp_ret ?_; (simp [go_sem]; try (refine ⟨by kernel_rfl, ?_⟩))) | (refine awp_skip ?_; (simp [go_sem]; try (refine ⟨by kernel_rfl, ?_⟩))) | (refine awp_exit ?_; (simp [go_sem]; try (refine ⟨by kernel_rfl, ?_⟩)))))
  first | refine callK_intro (Read_no (s := [50, 47, 52]) (by decide) no_24) rfl (by simp [go_sem]) rfl ?_ | refine callT_intro (Read_no (s := [50, 47, 52]) (by decide) no_24) rfl (by simp [go_sem]) rfl ?_
  try (simp [go_sem]; try (refine ⟨by kernel_rfl, ?_⟩))
  (repeat (first | refine awp_seq ?_ | refine awp_block ?_ | (refine awp_runG [0, 1, 2, 4, 5, 6, 7, 8, 9, 10, 11, 12, 14, 15, 16, 17] hX ?_; (simp [go_sem]; try (refine ⟨by kernel_rfl, ?_⟩))) | (refine awp_drawnG [0, 1, 2, 4, 5, 6, 7, 8, 9, 10, 11, 12, 14, 15, 16, 17] hX mixed ?_; (simp [go_sem]; try (refine ⟨by kernel_rfl, ?_⟩))) | (refine awp_ret ?_; (simp [go_sem]; try (refine ⟨by kernel_rfl, ?_⟩))) | (refine awp_skip ?_; (simp [go_sem]; try (refine ⟨by kernel_rfl, ?_⟩))) | (refine awp_exit ?_; (simp [go_sem]; try (refine ⟨by kernel_rfl, ?_⟩)))))
  first | refine callK_intro (Read_yes (s := [45, 51, 47, 50]) (p := -3) (q := 2) (by decide) (rf_c (by decide) (by decide) (by decide) (by decide)) (by decide +kernel)) rfl (by simp [go_sem]) rfl ?_ | refine callT_intro (Read_yes (s := [45, 51, 47, 50]) (p := -3) (q := 2) (by decide) (rf_c (by decide) (by decide) (by decide) (by decide)) (by decide +kernel)) rfl (by simp [go_sem]) rfl ?_
  try (simp [go_sem]; try (refine ⟨by kernel_rfl, ?_⟩))
  (repeat (first | refine awp_seq ?_ | refine awp_block ?_ | (refine awp_runG [0, 1, 2, 4, 5, 6, 7, 8, 9, 10, 11, 12, 14, 15, 16, 17] hX ?_; (simp [go_sem]; try (refine ⟨by kernel_rfl, ?_⟩))) | (refine awp_drawnG [0, 1, 2, 4, 5, 6, 7, 8, 9, 10, 11, 12, 14, 15, 16, 17] hX mixed ?_; (simp [go_sem]; try (refine ⟨by kernel_rfl, ?_⟩))) | (refine awp_ret ?_; (simp [go_sem]; try (refine ⟨by kernel_rfl, ?_⟩))) | (refine awp_skip ?_; (simp [go_sem]; try (refine ⟨by kernel_rfl, ?_⟩))) | (refine awp_exit ?_; (simp [go_sem]; try (refine ⟨by kernel_rfl, ?_⟩)))))
  first | refine callK_intro (of_t (p := 6) (q := -4) (x := -3) (y := 2) (by decide) (by decide) (by decide) (by decide +kernel) (by decide +kernel)) rfl (by simp [go_sem]) rfl ?_ | refine callT_intro (of_t (p := 6) (q := -4) (x := -3) (y := 2) (by decide) (by decide) (by decide) (by decide +kernel) (by decide +kernel)) rfl (by simp [go_sem]) rfl ?_
  try (simp [go_sem]; try (refine ⟨by kernel_rfl, ?_⟩))
  first | refine callK_intro (Text_t (p := -3) (q := 2) (s := [45, 51, 47, 50]) (rf_c (by decide) (by decide) (by decide) (by decide)) (by decide +kernel)) rfl (by simp [go_sem]) rfl ?_ | refine callT_intro (Text_t (p := -3) (q := 2) (s := [45, 51, 47, 50]) (rf_c (by decide) (by decide) (by decide) (by decide)) (by decide +kernel)) rfl (by simp [go_sem]) rfl ?_
  try (simp [go_sem]; try (refine ⟨by kernel_rfl, ?_⟩))
  first | refine callG_intro (fun hg => of_t (p := 0) (q := 7) (x := 0) (y := 1) (by decide) (by decide) (by decide) (by decide +kernel) (by decide +kernel)) rfl (by simp [go_sem]) rfl ?_ | refine callGT_intro (fun hg => of_t (p := 0) (q := 7) (x := 0) (y := 1) (by decide) (by decide) (by decide) (by decide +kernel) (by decide +kernel)) rfl (by simp [go_sem]) rfl ?_
  try (simp [go_sem]; try (refine ⟨by kernel_rfl, ?_⟩))
  first | refine callG_intro (fun hg => Text_t (p := 0) (q := 1) (s := [48, 47, 49]) (rf_c (by decide) (by decide) (by decide) (by decide)) (by decide +kernel)) rfl (by simp [go_sem]) rfl ?_ | refine callGT_intro (fun hg => Text_t (p := 0) (q := 1) (s := [48, 47, 49]) (rf_c (by decide) (by decide) (by decide) (by decide)) (by decide +kernel)) rfl (by simp [go_sem]) rfl ?_
  try (simp [go_sem]; try (refine ⟨by kernel_rfl, ?_⟩))
  first | refine callG_intro (fun hg => Text_t (p := 5) (q := 6) (s := [53, 47, 54]) (rf_c (by decide) (by decide) (by decide) (by decide)) (by decide +kernel)) rfl (by simp [go_sem]) rfl ?_ | refine callGT_intro (fun hg => Text_t (p := 5) (q := 6) (s := [53, 47, 54]) (rf_c (by decide) (by decide) (by decide) (by decide)) (by decide +kernel)) rfl (by simp [go_sem]) rfl ?_
  try (simp [go_sem]; try (refine ⟨by kernel_rfl, ?_⟩))
  first | refine callG_intro (fun hg => Text_t (p := 1) (q := 6) (s := [49, 47, 54]) (rf_c (by decide) (by decide) (by decide) (by decide)) (by decide +kernel)) rfl (by simp [go_sem]) rfl ?_ | refine callGT_intro (fun hg => Text_t (p := 1) (q := 6) (s := [49, 47, 54]) (rf_c (by decide) (by decide) (by decide) (by decide)) (by decide +kernel)) rfl (by simp [go_sem]) rfl ?_
  try (simp [go_sem]; try (refine ⟨by kernel_rfl, ?_⟩))
  first | refine callG_intro (fun hg => Text_t (p := 1) (q := 6) (s := [49, 47, 54]) (rf_c (by decide) (by decide) (by decide) (by decide)) (by decide +kernel)) rfl (by simp [go_sem]) rfl ?_ | refine callGT_intro (fun hg => Text_t (p := 1) (q := 6) (s := [49, 47, 54]) (rf_c (by decide) (by decide) (by decide) (by decide)) (by decide +kernel)) rfl (by simp [go_sem]) rfl ?_
  try (simp [go_sem]; try (refine ⟨by kernel_rfl, ?_⟩))
  first | refine callG_intro (fun hg => Text_t (p := 3) (q := 2) (s := [51, 47, 50]) (rf_c (by decide) (by decide) (by decide) (by decide)) (by decide +kernel)) rfl (by simp [go_sem]) rfl ?_ | refine callGT_intro (fun hg => Text_t (p := 3) (q := 2) (s := [51, 47, 50]) (rf_c (by decide) (by decide) (by decide) (by decide)) (by decide +kernel)) rfl (by simp [go_sem]) rfl ?_
  try (simp [go_sem]; try (refine ⟨by kernel_rfl, ?_⟩))
  (repeat (first | refine awp_seq ?_ | refine awp_block ?_ | (refine awp_runG [0, 1, 2, 4, 5, 6, 7, 8, 9, 10, 11, 12, 14, 15, 16, 17] hX ?_; (simp [go_sem]; try (refine ⟨by kernel_rfl, ?_⟩))) | (refine awp_drawnG [0, 1, 2, 4, 5, 6, 7, 8, 9, 10, 11, 12, 14, 15, 16, 17] hX mixed ?_; (simp [go_sem]; try (refine ⟨by kernel_rfl, ?_⟩))) | (refine awp_ret ?_; (simp [go_sem]; try (refine ⟨by kernel_rfl, ?_⟩))) | (refine awp_skip ?_; (simp [go_sem]; try (refine ⟨by kernel_rfl, ?_⟩))) | (refine awp_exit ?_; (simp [go_sem]; try (refine ⟨by kernel_rfl, ?_⟩)))))
  first | refine callG_intro (fun hg => of_t (p := -1) (q := 2) (x := -1) (y := 2) (by decide) (by decide) (by decide) (by decide +kernel) (by decide +kernel)) rfl (by simp [go_sem]) rfl ?_ | refine callGT_intro (fun hg => of_t (p := -1) (q := 2) (x := -1) (y := 2) (by decide) (by decide) (by decide) (by decide +kernel) (by decide +kernel)) rfl (by simp [go_sem]) rfl ?_
  try (simp [go_sem]; try (refine ⟨by kernel_rfl, ?_⟩))
  first | refine callG_intro (fun hg => of_t (p := -1) (q := 3) (x := -1) (y := 3) (by decide) (by decide) (by decide) (by decide +kernel) (by decide +kernel)) rfl (by simp [go_sem]) rfl ?_ | refine callGT_intro (fun hg => of_t (p := -1) (q := 3) (x := -1) (y := 3) (by decide) (by decide) (by decide) (by decide +kernel) (by decide +kernel)) rfl (by simp [go_sem]) rfl ?_
  try (simp [go_sem]; try (refine ⟨by kernel_rfl, ?_⟩))
  first | refine callG_intro (fun hg => Compare_t (a := -1) (b := 2) (c := -1) (d := 3) (x := -1) (rf_c (by decide) (by decide) (by decide) (by decide)) (rf_c (by decide) (by decide) (by decide) (by decide)) (by decide)) rfl (by simp [go_sem]) rfl ?_ | refine callGT_intro (fun hg => Compare_t (a := -1) (b := 2) (c := -1) (d := 3) (x := -1) (rf_c (by decide) (by decide) (by decide) (by decide)) (rf_c (by decide) (by decide) (by decide) (by decide)) (by decide)) rfl (by simp [go_sem]) rfl ?_
  try (simp [go_sem]; try (refine ⟨by kernel_rfl, ?_⟩))
  first | refine callG_intro (fun hg => of_t (p := -3) (q := 2) (x := -3) (y := 2) (by decide) (by decide) (by decide) (by decide +kernel) (by decide +kernel)) rfl (by simp [go_sem]) rfl ?_ | refine callGT_intro (fun hg => of_t (p := -3) (q := 2) (x := -3) (y := 2) (by decide) (by decide) (by decide) (by decide +kernel) (by decide +kernel)) rfl (by simp [go_sem]) rfl ?_
  try (simp [go_sem]; try (refine ⟨by kernel_rfl, ?_⟩))
  first | refine callG_intro (fun hg => Floor_t (a := -3) (b := 2) (x := -2) (rf_c (by decide) (by decide) (by decide) (by decide)) (by decide)) rfl (by simp [go_sem]) rfl ?_ | refine callGT_intro (fun hg => Floor_t (a := -3) (b := 2) (x := -2) (rf_c (by decide) (by decide) (by decide) (by decide)) (by decide)) rfl (by simp [go_sem]) rfl ?_
  try (simp [go_sem]; try (refine ⟨by kernel_rfl, ?_⟩))
  first | refine callG_intro (fun hg => Of_m (-2) (by decide)) rfl (by simp [go_sem]) rfl ?_ | refine callGT_intro (fun hg => Of_m (-2) (by decide)) rfl (by simp [go_sem]) rfl ?_
  try (simp [go_sem]; try (refine ⟨by kernel_rfl, ?_⟩))
  first | refine callG_intro (fun hg => SameBig_t (z := -2) (w := -2) rfl (rz_c (by decide))) rfl (by simp [go_sem]) rfl ?_ | refine callGT_intro (fun hg => SameBig_t (z := -2) (w := -2) rfl (rz_c (by decide))) rfl (by simp [go_sem]) rfl ?_
  try (simp [go_sem]; try (refine ⟨by kernel_rfl, ?_⟩))
  first | refine callG_intro (fun hg => of_t (p := -3) (q := 2) (x := -3) (y := 2) (by decide) (by decide) (by decide) (by decide +kernel) (by decide +kernel)) rfl (by simp [go_sem]) rfl ?_ | refine callGT_intro (fun hg => of_t (p := -3) (q := 2) (x := -3) (y := 2) (by decide) (by decide) (by decide) (by decide +kernel) (by decide +kernel)) rfl (by simp [go_sem]) rfl ?_
  try (simp [go_sem]; try (refine ⟨by kernel_rfl, ?_⟩))
  first | refine callG_intro (fun hg => SameF_t (a := -3) (b := 2) (c := -3) (d := 2) rfl rfl (rz_c (by decide)) (rz_c (by decide))) rfl (by simp [go_sem]) rfl ?_ | refine callGT_intro (fun hg => SameF_t (a := -3) (b := 2) (c := -3) (d := 2) rfl rfl (rz_c (by decide)) (rz_c (by decide))) rfl (by simp [go_sem]) rfl ?_
  try (simp [go_sem]; try (refine ⟨by kernel_rfl, ?_⟩))
  first | refine callG_intro (fun hg => Right_t 1 2 (rf_c (by decide) (by decide) (by decide) (by decide))) rfl (by simp [go_sem]) rfl ?_ | refine callGT_intro (fun hg => Right_t 1 2 (rf_c (by decide) (by decide) (by decide) (by decide))) rfl (by simp [go_sem]) rfl ?_
  try (simp [go_sem]; try (refine ⟨by kernel_rfl, ?_⟩))
  first | refine callG_intro (fun hg => Right_f 0 [] (by decide) 0 [] (by decide)) rfl (by simp [go_sem]) rfl ?_ | refine callGT_intro (fun hg => Right_f 0 [] (by decide) 0 [] (by decide)) rfl (by simp [go_sem]) rfl ?_
  try (simp [go_sem]; try (refine ⟨by kernel_rfl, ?_⟩))
  (repeat (first | refine awp_seq ?_ | refine awp_block ?_ | (refine awp_runG [0, 1, 2, 4, 5, 6, 7, 8, 9, 10, 11, 12, 14, 15, 16, 17] hX ?_; (simp [go_sem]; try (refine ⟨by kernel_rfl, ?_⟩))) | (refine awp_drawnG [0, 1, 2, 4, 5, 6, 7, 8, 9, 10, 11, 12, 14, 15, 16, 17] hX mixed ?_; (simp [go_sem]; try (refine ⟨by kernel_rfl, ?_⟩))) | (refine awp_ret ?_; (simp [go_sem]; try (refine ⟨by kernel_rfl, ?_⟩))) | (refine awp_skip ?_; (simp [go_sem]; try (refine ⟨by kernel_rfl, ?_⟩))) | (refine awp_exit ?_; (simp [go_sem]; try (refine ⟨by kernel_rfl, ?_⟩)))))
  refine ⟨by decide +kernel, fun h => ?_⟩
  have := h.2.2.2.2.1
  exact absurd this (by decide)

end Go.Proofs.YthgonmfgahbngaaGreatDoor
