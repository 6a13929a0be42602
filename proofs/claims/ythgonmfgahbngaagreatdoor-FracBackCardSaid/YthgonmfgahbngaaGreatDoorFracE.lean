/-
  Layer 5: exact results of small fractions.
-/
import Derived.Test.YthgonmfgahbngaaGreatDoorFracS
set_option linter.all false
namespace Go.Proofs.YthgonmfgahbngaaGreatDoor
open Go.RowKit Go.Ab
attribute [local irreducible] AWP Go.Ab.Sub Means MeansH CallK CallG CallT CallGT

/-- Two quotients are one. -/
structure eqv (x y p q : Int) : Prop where
  l : y ≠ 0
  r : q ≠ 0
  e : x * q = p * y
theorem eqv_rf {p q : Int} (h : rf p q) : eqv p q p q := ⟨by have := h.2.2.1; omega, by have := h.2.2.1; omega, rfl⟩
theorem eqv_symm {x y p q : Int} (h : eqv x y p q) : eqv p q x y := ⟨h.r, h.l, h.e.symm⟩
theorem eqv_add {x y u v p q r s : Int} (h1 : eqv x y p q) (h2 : eqv u v r s) : eqv (x * v + u * y) (y * v) (p * s + r * q) (q * s) :=
  ⟨Int.mul_ne_zero h1.l h2.l, Int.mul_ne_zero h1.r h2.r, by have := h1.e; have := h2.e; grind⟩
theorem eqv_sub {x y u v p q r s : Int} (h1 : eqv x y p q) (h2 : eqv u v r s) : eqv (x * v + -u * y) (y * v) (p * s + -r * q) (q * s) :=
  ⟨Int.mul_ne_zero h1.l h2.l, Int.mul_ne_zero h1.r h2.r, by have := h1.e; have := h2.e; grind⟩
theorem eqv_mul {x y u v p q r s : Int} (h1 : eqv x y p q) (h2 : eqv u v r s) : eqv (x * u) (y * v) (p * r) (q * s) :=
  ⟨Int.mul_ne_zero h1.l h2.l, Int.mul_ne_zero h1.r h2.r, by have := h1.e; have := h2.e; grind⟩
theorem eqv_div {x y u v p q r s : Int} (h1 : eqv x y p q) (h2 : eqv u v r s) (hu : u ≠ 0) (hr : r ≠ 0) : eqv (x * v) (y * u) (p * s) (q * r) :=
  ⟨Int.mul_ne_zero h1.l hu, Int.mul_ne_zero h1.r hr, by have := h1.e; have := h2.e; grind⟩
theorem eqv_trans {x y u v p q : Int} (h1 : eqv x y u v) (h2 : eqv u v p q) : eqv x y p q :=
  ⟨h1.l, h2.r, by
    have e1 := h1.e; have e2 := h2.e
    have : x * q * v = p * y * v := by grind
    exact Int.eq_of_mul_eq_mul_right h1.r this⟩
theorem eqv_eq {x y u v p q r s : Int} (h1 : rf x y) (h2 : rf u v) (a : eqv x y p q) (b : eqv u v r s) (h : p * s = r * q) : x = u ∧ y = v := by
  have c : eqv p q r s := ⟨a.r, b.r, h⟩
  exact low_uniq h1.2.2.1 h1.2.2.2 h2.2.2.1 h2.2.2.2 (eqv_trans (eqv_trans a c) (eqv_symm b)).e
/-- The sign of a quotient. -/
theorem eqv_sg {x y p q : Int} (hy : 0 < y) (hq : 0 < q) (h : eqv x y p q) : sg x = sg p := by
  have e := congrArg sg h.e
  rw [sg_mul, sg_mul] at e
  have e1 : sg q = 1 := by rcases sg_cases q with h' | h' | h' <;> omega
  have e2 : sg y = 1 := by rcases sg_cases y with h' | h' | h' <;> omega
  rwa [e1, e2, Int.mul_one, Int.mul_one] at e
theorem eqv_cmp {x y u v p q r s : Int} (hy : 0 < y) (hv : 0 < v) (hq : 0 < q) (hs : 0 < s) (a : eqv x y p q) (b : eqv u v r s) : cmpI (x * v) (u * y) = cmpI (p * s) (r * q) := by
  rw [← cmpI_sg, ← cmpI_sg]
  have h := eqv_sg (Int.mul_pos hy hv) (Int.mul_pos hq hs) (eqv_sub a b)
  rw [Int.neg_mul, Int.neg_mul, ← Int.sub_eq_add_neg, ← Int.sub_eq_add_neg] at h
  exact h

/-- A right fraction of so many digits. -/
def fz (N : Nat) (p q : Int) : Prop := rf p q ∧ ab p < 1048576 ^ N ∧ ab q < 1048576 ^ N
theorem fz_up {M N : Nat} {p q : Int} (h : fz M p q) (hl : M ≤ N) : fz N p q := ⟨h.1, lt_up h.2.1 hl, lt_up h.2.2 hl⟩
theorem fz_low {N : Nat} {p q : Int} (hp : ab p < 1048576 ^ N) (hq : ab q < 1048576 ^ N) (h0 : q ≠ 0) (hN : N ≤ 60) : fz N (np p q) (nq p q) ∧ eqv (np p q) (nq p q) p q := by
  obtain ⟨a1, a2, a3, a4, a5, _⟩ := low_spec (p := p) h0
  have e : ab (nq p q) = nq p q := by unfold ab; rw [if_neg (by omega)]
  exact ⟨⟨low_rf (rz_lt hp hN) (rz_lt hq hN) h0, by omega, by omega⟩, by omega, h0, a3⟩
theorem fz_to {N : Nat} {s1 s2 : Int} {L1 L2 : List Int} (h : isF s1 L1 s2 L2) (h1 : L1.length ≤ N) (h2 : L2.length ≤ N) : ∃ p q, fz N p q ∧ s1 = sg p ∧ L1 = dg (ab p) ∧ s2 = sg q ∧ L2 = dg (ab q) := by
  obtain ⟨p, q, h, e1, e2, e3, e4⟩ := isF_to h
  exact ⟨p, q, ⟨h, (dg_len_iff N).1 (by rw [← e2]; exact h1), (dg_len_iff N).1 (by rw [← e4]; exact h2)⟩, e1, e2, e3, e4⟩
theorem fz_q {N : Nat} {p q : Int} (h : fz N p q) : q ≠ 0 := by have := h.1.2.2.1; omega
theorem lt_neg {a : Int} {N : Nat} (h : ab a < 1048576 ^ N) : ab (-a) < 1048576 ^ N := by rwa [ab_neg]
theorem Add_e {M N : Nat} {a b c d : Int} (h1 : fz M a b) (h2 : fz N c d) (h : M + N < 60) : ∃ x y, fz (M + N + 1) x y ∧ eqv x y (a * d + c * b) (b * d) ∧ Means false Tryz.prog 10 [frZ a b, frZ c d] (.tup [frZ x y, ii 0]) := by
  have e1 := lt_mul h1.2.1 h2.2.2
  have e2 := lt_mul h2.2.1 h1.2.2
  have e3 := lt_mul h1.2.2 h2.2.2
  rw [Nat.add_comm N M] at e2
  have e4 := lt_add e1 e2
  obtain ⟨f1, f2⟩ := fz_low e4 (lt_up e3 (Nat.le_succ _)) (Int.mul_ne_zero (fz_q h1) (fz_q h2)) (by omega)
  exact ⟨_, _, f1, f2, Add_t h1.1 h2.1 ⟨⟨rz_lt e1 (by omega), rz_lt e2 (by omega), rz_lt e4 (by omega)⟩, rz_lt e3 (by omega)⟩ rfl rfl⟩
theorem Sub_e {M N : Nat} {a b c d : Int} (h1 : fz M a b) (h2 : fz N c d) (h : M + N < 60) : ∃ x y, fz (M + N + 1) x y ∧ eqv x y (a * d + -c * b) (b * d) ∧ Means false Tryz.prog 12 [frZ a b, frZ c d] (.tup [frZ x y, ii 0]) := by
  have e1 := lt_mul h1.2.1 h2.2.2
  have e2 := lt_mul (lt_neg h2.2.1) h1.2.2
  have e3 := lt_mul h1.2.2 h2.2.2
  rw [Nat.add_comm N M] at e2
  have e4 := lt_add e1 e2
  obtain ⟨f1, f2⟩ := fz_low e4 (lt_up e3 (Nat.le_succ _)) (Int.mul_ne_zero (fz_q h1) (fz_q h2)) (by omega)
  exact ⟨_, _, f1, f2, Sub_t h1.1 h2.1 ⟨⟨rz_lt e1 (by omega), rz_lt e2 (by omega), rz_lt e4 (by omega)⟩, rz_lt e3 (by omega)⟩ rfl rfl⟩
theorem Mul_e {M N : Nat} {a b c d : Int} (h1 : fz M a b) (h2 : fz N c d) (h : M + N ≤ 60) : ∃ x y, fz (M + N) x y ∧ eqv x y (a * c) (b * d) ∧ Means false Tryz.prog 15 [frZ a b, frZ c d] (.tup [frZ x y, ii 0]) := by
  have e1 := lt_mul h1.2.1 h2.2.1
  have e3 := lt_mul h1.2.2 h2.2.2
  obtain ⟨f1, f2⟩ := fz_low e1 e3 (Int.mul_ne_zero (fz_q h1) (fz_q h2)) (by omega)
  exact ⟨_, _, f1, f2, Mul_t h1.1 h2.1 ⟨rz_lt e1 (by omega), rz_lt e3 (by omega)⟩ rfl rfl⟩
theorem Div_e {M N : Nat} {a b c d : Int} (h1 : fz M a b) (h2 : fz N c d) (h0 : c ≠ 0) (h : M + N ≤ 60) : ∃ x y, fz (M + N) x y ∧ eqv x y (a * d) (b * c) ∧ Means false Tryz.prog 17 [frZ a b, frZ c d] (.tup [frZ x y, ii 0]) := by
  have e1 := lt_mul h1.2.1 h2.2.2
  have e3 := lt_mul h1.2.2 h2.2.1
  obtain ⟨f1, f2⟩ := fz_low e1 e3 (Int.mul_ne_zero (fz_q h1) h0) (by omega)
  exact ⟨_, _, f1, f2, Div_t h1.1 h2.1 h0 ⟨rz_lt e1 (by omega), rz_lt e3 (by omega)⟩ rfl rfl⟩
theorem Div_z (a b c d : Int) (hab : rf a b) (hcd : rf c d) (h0 : c = 0) : Means false Tryz.prog 17 [frZ a b, frZ c d] (.tup [frZ 0 0, ii 15]) := by
  have hsc : sg c = 0 := by rw [h0]; rfl
  refine means_fn false 49 [.cell 4 26, .tmp 5] Tryz.func17 rfl rfl rfl (by simp) (by decide) rfl fun X hX => ?_
  (repeat (first | refine awp_seq ?_ | refine awp_block ?_ | (refine awp_runG [0, 1, 2, 3, 4, 5, 6, 7, 8, 9, 10, 20] hX ?_; (simp [go_sem]; try (refine ⟨by kernel_rfl, ?_⟩))) | (refine awp_drawnG [0, 1, 2, 3, 4, 5, 6, 7, 8, 9, 10, 20] hX mixed ?_; (simp [go_sem]; try (refine ⟨by kernel_rfl, ?_⟩))) | (refine awp_ret ?_; (simp [go_sem]; try (refine ⟨by kernel_rfl, ?_⟩))) | (refine awp_skip ?_; (simp [go_sem]; try (refine ⟨by kernel_rfl, ?_⟩))) | (refine awp_exit ?_; (simp [go_sem]; try (refine ⟨by kernel_rfl, ?_⟩)))))
  first | refine callK_intro (Right_t a b hab) rfl (by simp [go_sem]) rfl ?_ | refine callT_intro (Right_t a b hab) rfl (by simp [go_sem]) rfl ?_
  try (simp [go_sem]; try (refine ⟨by kernel_rfl, ?_⟩))
  first | refine callG_intro (fun hg => Right_t c d hcd) rfl (by simp [go_sem]) rfl ?_ | refine callGT_intro (fun hg => Right_t c d hcd) rfl (by simp [go_sem]) rfl ?_
  try (simp [go_sem]; try (refine ⟨by kernel_rfl, ?_⟩))
  refine awp_cond (b := false) (by simp [go_sem]) (fun h => by cases h) (fun _ => ?_)
  (repeat (first | refine awp_seq ?_ | refine awp_block ?_ | (refine awp_runG [0, 1, 2, 3, 4, 5, 6, 7, 8, 9, 10, 20] hX ?_; (simp [go_sem]; try (refine ⟨by kernel_rfl, ?_⟩))) | (refine awp_drawnG [0, 1, 2, 3, 4, 5, 6, 7, 8, 9, 10, 20] hX mixed ?_; (simp [go_sem]; try (refine ⟨by kernel_rfl, ?_⟩))) | (refine awp_ret ?_; (simp [go_sem]; try (refine ⟨by kernel_rfl, ?_⟩))) | (refine awp_skip ?_; (simp [go_sem]; try (refine ⟨by kernel_rfl, ?_⟩))) | (refine awp_exit ?_; (simp [go_sem]; try (refine ⟨by kernel_rfl, ?_⟩)))))
  refine awp_cond (b := true) (by simp [go_sem, hsc]) (fun _ => ?_) (fun h => by cases h)
  (repeat (first | refine awp_seq ?_ | refine awp_block ?_ | (refine awp_runG [0, 1, 2, 3, 4, 5, 6, 7, 8, 9, 10, 20] hX ?_; (simp [go_sem]; try (refine ⟨by kernel_rfl, ?_⟩))) | (refine awp_drawnG [0, 1, 2, 3, 4, 5, 6, 7, 8, 9, 10, 20] hX mixed ?_; (simp [go_sem]; try (refine ⟨by kernel_rfl, ?_⟩))) | (refine awp_ret ?_; (simp [go_sem]; try (refine ⟨by kernel_rfl, ?_⟩))) | (refine awp_skip ?_; (simp [go_sem]; try (refine ⟨by kernel_rfl, ?_⟩))) | (refine awp_exit ?_; (simp [go_sem]; try (refine ⟨by kernel_rfl, ?_⟩)))))
theorem rightL {x y : Int} (h : rf x y) : Means false Tryz.prog 34 [frZ x y, ii 0] (.tup [frZ x y, bb true]) := by
  refine means_fn false 13 [.cell 4 26, .tmp 5] Tryz.func34 rfl rfl rfl (by simp) (by decide) rfl fun X hX => ?_
  (repeat (first | refine awp_seq ?_ | refine awp_block ?_ | (refine awp_runG [0, 1, 2, 4, 5] hX ?_; (simp [go_sem]; try (refine ⟨by kernel_rfl, ?_⟩))) | (refine awp_drawnG [0, 1, 2, 4, 5] hX mixed ?_; (simp [go_sem]; try (refine ⟨by kernel_rfl, ?_⟩))) | (refine awp_ret ?_; (simp [go_sem]; try (refine ⟨by kernel_rfl, ?_⟩))) | (refine awp_skip ?_; (simp [go_sem]; try (refine ⟨by kernel_rfl, ?_⟩))) | (refine awp_exit ?_; (simp [go_sem]; try (refine ⟨by kernel_rfl, ?_⟩)))))
  first | refine callG_intro (fun hg => Right_t x y h) rfl (by simp [go_sem]) rfl ?_ | refine callGT_intro (fun hg => Right_t x y h) rfl (by simp [go_sem]) rfl ?_
  try (simp [go_sem]; try (refine ⟨by kernel_rfl, ?_⟩))
  (repeat (first | refine awp_seq ?_ | refine awp_block ?_ | (refine awp_runG [0, 1, 2, 4, 5] hX ?_; (simp [go_sem]; try (refine ⟨by kernel_rfl, ?_⟩))) | (refine awp_drawnG [0, 1, 2, 4, 5] hX mixed ?_; (simp [go_sem]; try (refine ⟨by kernel_rfl, ?_⟩))) | (refine awp_ret ?_; (simp [go_sem]; try (refine ⟨by kernel_rfl, ?_⟩))) | (refine awp_skip ?_; (simp [go_sem]; try (refine ⟨by kernel_rfl, ?_⟩))) | (refine awp_exit ?_; (simp [go_sem]; try (refine ⟨by kernel_rfl, ?_⟩)))))

end Go.Proofs.YthgonmfgahbngaaGreatDoor
