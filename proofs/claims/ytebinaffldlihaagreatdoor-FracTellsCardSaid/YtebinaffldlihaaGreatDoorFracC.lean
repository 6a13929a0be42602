import Derived.Test.YtebinaffldlihaaGreatDoorFracB
import Derived.Test.YtebinaffldlihaaGreatDoorBigN
set_option linter.all false
namespace Go.Proofs.YtebinaffldlihaaGreatDoor
open Go.RowKit Go.Ab
attribute [local irreducible] AWP Go.Ab.Sub Means MeansH CallK CallG CallT CallGT
noncomputable instance (p q : Int) : Decidable (rf p q) := Classical.propDecidable _
theorem qU {p q : Int} (hp : rz p) (hq : rz q) : isF (sg p) (dg (ab p)) (sg q) (dg (ab q)) ↔ rf p q := by
  unfold isF
  rw [dE, dE]
  exact ⟨fun h => h.2.2, fun h => ⟨iA hp, iA hq, h⟩⟩
theorem j6 (p q : Int) (hp : rz p) (hq : rz q) : Means false Tryz.prog 21 [frZ p q] (bb (decide (rf p q))) := by
  have := bO (sg p) (dg (ab p)) (by have := bB hp; omega) (sg q) (dg (ab q)) (by have := bB hq; omega)
  simpa only [qU hp hq] using this
set_option maxHeartbeats 4000000 in
theorem qV (a b : Int) (h : rf a b) : Means false Tryz.prog 28 [frZ a b] (bigZ (a / b)) := by
  have hb := h.2.2.1
  refine aK false 20 [.cell 2 24] Tryz.func28 rfl rfl rfl (by simp) (by decide) rfl fun X hX => ?_
  (repeat (first | refine aC ?_ | refine a7 ?_ | ((first | refine a8 [0, 1, 2, 3, 8] hX ?_ | refine a6 [0, 1, 2, 3, 8] hX mixed ?_ | refine aD ?_ | refine aA ?_ | refine aB ?_); (simp [go_sem]; try (refine ⟨by kernel_rfl, ?_⟩)))))
  first | refine aE (aY a b h) rfl (by simp [go_sem]) rfl ?_ | refine aF (aY a b h) rfl (by simp [go_sem]) rfl ?_
  try (simp [go_sem]; try (refine ⟨by kernel_rfl, ?_⟩))
  refine aG (b := false) (by simp [go_sem]) (fun h => by cases h) (fun _ => ?_)
  (repeat (first | refine aC ?_ | refine a7 ?_ | ((first | refine a8 [0, 1, 2, 3, 8] hX ?_ | refine a6 [0, 1, 2, 3, 8] hX mixed ?_ | refine aD ?_ | refine aA ?_ | refine aB ?_); (simp [go_sem]; try (refine ⟨by kernel_rfl, ?_⟩)))))
  first | refine aE (cH h.1 h.2.1 (by omega) (bR hb).1 (bR hb).2) rfl (by simp [go_sem]) rfl ?_ | refine aF (cH h.1 h.2.1 (by omega) (bR hb).1 (bR hb).2) rfl (by simp [go_sem]) rfl ?_
  try (simp [go_sem]; try (refine ⟨by kernel_rfl, ?_⟩))
  (repeat (first | refine aC ?_ | refine a7 ?_ | ((first | refine a8 [0, 1, 2, 3, 8] hX ?_ | refine a6 [0, 1, 2, 3, 8] hX mixed ?_ | refine aD ?_ | refine aA ?_ | refine aB ?_); (simp [go_sem]; try (refine ⟨by kernel_rfl, ?_⟩)))))
def ftxt (p q : Int) : List UInt8 := txt p ++ 47 :: txt q
set_option maxHeartbeats 4000000 in
theorem k0 (p q : Int) (hp : rz p) (hq : rz q) : Means false Tryz.prog 25 [frZ p q] (sb (if rf p q then ftxt p q else [])) := by
  have l1 := gL hp
  have l2 := gL hq
  refine aK false 14 [.tmp 2] Tryz.func25 rfl rfl rfl (by simp) (by decide) rfl fun X hX => ?_
  (repeat (first | refine aC ?_ | refine a7 ?_ | ((first | refine a8 [0, 1, 2, 5] hX ?_ | refine a6 [0, 1, 2, 5] hX mixed ?_ | refine aD ?_ | refine aA ?_ | refine aB ?_); (simp [go_sem]; try (refine ⟨by kernel_rfl, ?_⟩)))))
  first | refine aE (j6 p q hp hq) rfl (by simp [go_sem]) rfl ?_ | refine aF (j6 p q hp hq) rfl (by simp [go_sem]) rfl ?_
  try (simp [go_sem]; try (refine ⟨by kernel_rfl, ?_⟩))
  by_cases h : rf p q
  · refine aG (b := false) (by simp [go_sem, h]) (fun h => by cases h) (fun _ => ?_)
    (repeat (first | refine aC ?_ | refine a7 ?_ | ((first | refine a8 [0, 1, 2, 5] hX ?_ | refine a6 [0, 1, 2, 5] hX mixed ?_ | refine aD ?_ | refine aA ?_ | refine aB ?_); (simp [go_sem]; try (refine ⟨by kernel_rfl, ?_⟩)))))
    first | refine aE (mC p hp) rfl (by simp [go_sem]) rfl ?_ | refine aF (mC p hp) rfl (by simp [go_sem]) rfl ?_
    try (simp [go_sem]; try (refine ⟨by kernel_rfl, ?_⟩))
    refine ⟨by unfold maxLen; omega, ?_⟩
    try (simp [go_sem]; try (refine ⟨by kernel_rfl, ?_⟩))
    first | refine aE (mC q hq) rfl (by simp [go_sem]) rfl ?_ | refine aF (mC q hq) rfl (by simp [go_sem]) rfl ?_
    try (simp [go_sem]; try (refine ⟨by kernel_rfl, ?_⟩))
    refine ⟨by unfold maxLen; omega, ?_⟩
    (repeat (first | refine aC ?_ | refine a7 ?_ | ((first | refine a8 [0, 1, 2, 5] hX ?_ | refine a6 [0, 1, 2, 5] hX mixed ?_ | refine aD ?_ | refine aA ?_ | refine aB ?_); (simp [go_sem, h, ftxt]; try (refine ⟨by kernel_rfl, ?_⟩)))))
    try (simp [go_sem, h, ftxt]; try (refine ⟨by kernel_rfl, ?_⟩))
    (repeat (first | refine aC ?_ | refine a7 ?_ | ((first | refine a8 [0, 1, 2, 5] hX ?_ | refine a6 [0, 1, 2, 5] hX mixed ?_ | refine aD ?_ | refine aA ?_ | refine aB ?_); (simp [go_sem, h, ftxt]; try (refine ⟨by kernel_rfl, ?_⟩)))))
  · refine aG (b := true) (by simp [go_sem, h]) (fun _ => ?_) (fun h => by cases h)
    (repeat (first | refine aC ?_ | refine a7 ?_ | ((first | refine a8 [0, 1, 2, 5] hX ?_ | refine a6 [0, 1, 2, 5] hX mixed ?_ | refine aD ?_ | refine aA ?_ | refine aB ?_); (simp [go_sem, h]; try (refine ⟨by kernel_rfl, ?_⟩)))))
theorem tW : ∀ (x y : List UInt8), (∀ c ∈ x, c ≠ 47) → Lib.index (x ++ 47 :: y) [47] = x.length
  | [], y, _ => by simp [Lib.index]
  | c :: x, y, h => by
    have hc : (47 == c) = false := by
      have := h c (by simp)
      simpa using fun e => this e.symm
    have ih := tW x y fun d hd => h d (by simp [hd])
    simp only [List.cons_append, Lib.index, List.isPrefixOf, hc, Bool.false_and, ih]
    rw [if_neg (by simp), if_neg (by simp)]
    simp
theorem tX : ∀ (s : List UInt8), (∀ c ∈ s, c ≠ 47) → Lib.index s [47] = -1
  | [], _ => by simp [Lib.index]
  | c :: s, h => by
    have hc : (47 == c) = false := by
      have := h c (by simp)
      simpa using fun e => this e.symm
    have ih := tX s fun d hd => h d (by simp [hd])
    simp only [Lib.index, List.isPrefixOf, hc, Bool.false_and, ih]
    simp
theorem dF (x y : List UInt8) (h : ∀ c ∈ x, c ≠ 47) : Lib.cut (x ++ 47 :: y) [47] = (x, y, true) := by
  unfold Lib.cut
  rw [tW x y h, if_pos (by omega)]
  simp
theorem tY (s : List UInt8) (h : ∀ c ∈ s, c ≠ 47) : Lib.cut s [47] = (s, [], false) := by
  unfold Lib.cut
  rw [tX s h, if_neg (by omega)]
theorem mD : ∀ s : List UInt8, (∀ c ∈ s, c ≠ 47) ∨ ∃ x y, s = x ++ 47 :: y ∧ ∀ c ∈ x, c ≠ 47
  | [] => .inl (by simp)
  | c :: s => by
    by_cases hc : c = 47
    · exact .inr ⟨[], s, by simp [hc], by simp⟩
    · rcases mD s with h | ⟨x, y, rfl, h⟩
      · exact .inl (by simpa [hc] using h)
      · exact .inr ⟨c :: x, y, by simp, by simpa [hc] using h⟩
theorem f0 (z : Int) : ∀ c ∈ txt z, c ≠ 47 := by
  have hd : ∀ n, ∀ c ∈ dd n, c ≠ 47 := by
    rintro n c hc rfl
    have := (fK n).2.1 _ hc
    unfold isDg at this
    exact absurd this.1 (by decide)
  intro c hc
  unfold txt at hc
  split at hc
  · simp at hc; subst hc; decide
  · split at hc
    · rcases List.mem_cons.1 hc with rfl | hc
      · decide
      · exact hd _ c hc
    · exact hd _ c hc
theorem yD (s : List UInt8) (hs : s.length ≤ 100000) : Means true Tryz.prog 41 [sb s, sb [47]] (.tup [sb (Lib.cut s [47]).1, sb (Lib.cut s [47]).2.1, bb (Lib.cut s [47]).2.2]) := by
  refine dQ (args := [.string ⟨s.toArray⟩, .string ⟨#[47]⟩]) (x := .tuple #[.string ⟨(Lib.cut s [47]).1.toArray⟩, .string ⟨(Lib.cut s [47]).2.1.toArray⟩, .bool (Lib.cut s [47]).2.2]) (fun w M => ?_) fun w M hM hg => ?_
  · refine .tup _ _ rfl fun j c e h1 h2 => ?_
    match j with
    | 0 => simp at h1 h2; subst h1 h2; exact .v _
    | 1 => simp at h1 h2; subst h1 h2; exact .v _
    | 2 => simp at h1 h2; subst h1 h2; exact .v _
    | j + 3 => simp at h1
  · obtain ⟨m, hm⟩ := tZ hg (g := 0) (by rw [globI]; exact List.mem_cons.2 (.inl rfl))
    refine (Tryz.strings_Cut ⟨s.toArray⟩ ⟨#[47]⟩ m w (by show s.length < _; omega) hm).mono fun e w' ⟨he, n, hw⟩ => ⟨?_, by rw [hw]; exact ⟨rfl, rfl, rfl, Nat.le_refl _, fun _ _ => rfl⟩⟩
    simpa using he
def isT (s : List UInt8) : Prop := ∃ p q, rf p q ∧ s = ftxt p q
set_option maxHeartbeats 4000000 in
set_option maxRecDepth 20000 in
theorem mE (s : List UInt8) (hs : s.length ≤ 100000) (P Q : Int) (E : Int) (h1 : ∀ p q, rf p q → s = ftxt p q → P = p ∧ Q = q ∧ E = 0) (h2 : ¬ isT s → P = 0 ∧ Q = 0 ∧ E = 2) : Means false Tryz.prog 17 [sb s] (.tup [frZ P Q, ii E]) := by
  have hc := yD s hs
  have hx : ∃ x y f, Lib.cut s [47] = (x, y, f) ∧ x.length ≤ 100000 ∧ y.length ≤ 100000 ∧ (s = x ++ 47 :: y ∨ y = []) ∧ ∀ p q, s = ftxt p q → x = txt p ∧ y = txt q := by
    rcases mD s with h | ⟨x, y, rfl, h⟩
    · refine ⟨s, [], false, tY s h, hs, by simp, .inr rfl, fun p q e => ?_⟩
      exact absurd rfl (h 47 (by rw [e]; simp [ftxt]))
    · refine ⟨x, y, true, dF x y h, by simp at hs; omega, by simp at hs; omega, .inl rfl, fun p q e => ?_⟩
      have e2 := dF x y h
      rw [e, ftxt, dF (txt p) (txt q) (f0 p)] at e2
      have e3 := (Prod.mk.inj e2)
      exact ⟨e3.1.symm, (Prod.mk.inj e3.2).1.symm⟩
  obtain ⟨x, y, f, hcut, lx, ly, hxy, huni⟩ := hx
  rw [hcut] at hc
  have hrx := u2 x lx
  have hry := u2 y ly
  have zx := qW x
  have zy := qW y
  have tx := @k5 x
  have ty := @k5 y
  have hy0 : y = [] → (rd y).2 ≠ 0 := by
    rintro rfl
    unfold rd
    rw [if_neg (by simp), if_neg (fun h => h.1 (by simp [Lib.trimPrefix]))]
    decide
  have hback : ∀ p q, rf p q → s = ftxt p q → rd x = (p, 0) ∧ rd y = (q, 0) := fun p q hr e => by
    obtain ⟨a, b⟩ := huni p q e
    rw [a, b]
    exact ⟨d9 hr.1, d9 hr.2.1⟩
  generalize rd x = A at *
  generalize rd y = B at *
  obtain ⟨p, e1⟩ := A
  obtain ⟨q, e2⟩ := B
  simp only [] at hrx hry zx zy tx ty hy0 hback
  by_cases hall : e1 = 0 ∧ e2 = 0 ∧ rf p q ∧ ftxt p q = s
  · obtain ⟨rfl, rfl, hr, hT⟩ := hall
    obtain ⟨rfl, rfl, rfl⟩ := h1 p q hr hT.symm
    have htg := k0 P Q zx zy
    rw [if_pos hr, hT] at htg
    refine aK false 49 [.cell 2 26, .tmp 3] Tryz.func17 rfl rfl rfl (by simp) (by decide) rfl fun X hX => ?_
    (repeat (first | refine aC ?_ | refine a7 ?_ | ((first | refine a8 [0, 2, 3, 4, 5, 7, 8, 9, 10, 11, 46] hX ?_ | refine a6 [0, 2, 3, 4, 5, 7, 8, 9, 10, 11, 46] hX mixed ?_ | refine aD ?_ | refine aA ?_ | refine aB ?_); (simp [go_sem]; try (refine ⟨by kernel_rfl, ?_⟩)))))
    first | refine aE (hc) rfl (by simp [go_sem]) rfl ?_ | refine aF (hc) rfl (by simp [go_sem]) rfl ?_
    try (simp [go_sem]; try (refine ⟨by kernel_rfl, ?_⟩))
    (repeat (first | refine aC ?_ | refine a7 ?_ | ((first | refine a8 [0, 2, 3, 4, 5, 7, 8, 9, 10, 11, 46] hX ?_ | refine a6 [0, 2, 3, 4, 5, 7, 8, 9, 10, 11, 46] hX mixed ?_ | refine aD ?_ | refine aA ?_ | refine aB ?_); (simp [go_sem]; try (refine ⟨by kernel_rfl, ?_⟩)))))
    first | refine aE (hrx) rfl (by simp [go_sem]) rfl ?_ | refine aF (hrx) rfl (by simp [go_sem]) rfl ?_
    try (simp [go_sem]; try (refine ⟨by kernel_rfl, ?_⟩))
    (repeat (first | refine aC ?_ | refine a7 ?_ | ((first | refine a8 [0, 2, 3, 4, 5, 7, 8, 9, 10, 11, 46] hX ?_ | refine a6 [0, 2, 3, 4, 5, 7, 8, 9, 10, 11, 46] hX mixed ?_ | refine aD ?_ | refine aA ?_ | refine aB ?_); (simp [go_sem]; try (refine ⟨by kernel_rfl, ?_⟩)))))
    first | refine aE (hry) rfl (by simp [go_sem]) rfl ?_ | refine aF (hry) rfl (by simp [go_sem]) rfl ?_
    try (simp [go_sem]; try (refine ⟨by kernel_rfl, ?_⟩))
    (repeat (first | refine aC ?_ | refine a7 ?_ | ((first | refine a8 [0, 2, 3, 4, 5, 7, 8, 9, 10, 11, 46] hX ?_ | refine a6 [0, 2, 3, 4, 5, 7, 8, 9, 10, 11, 46] hX mixed ?_ | refine aD ?_ | refine aA ?_ | refine aB ?_); (simp [go_sem]; try (refine ⟨by kernel_rfl, ?_⟩)))))
    first | refine aI (fun hg => aY P Q hr) rfl (by simp [go_sem]) rfl ?_ | refine aH (fun hg => aY P Q hr) rfl (by simp [go_sem]) rfl ?_
    try (simp [go_sem]; try (refine ⟨by kernel_rfl, ?_⟩))
    first | refine aI (fun hg => htg) rfl (by simp [go_sem]) rfl ?_ | refine aH (fun hg => htg) rfl (by simp [go_sem]) rfl ?_
    try (simp [go_sem]; try (refine ⟨by kernel_rfl, ?_⟩))
    refine aG (b := true) (by simp [go_sem, gA]) (fun _ => ?_) (fun h => by cases h)
    (repeat (first | refine aC ?_ | refine a7 ?_ | ((first | refine a8 [0, 2, 3, 4, 5, 7, 8, 9, 10, 11, 46] hX ?_ | refine a6 [0, 2, 3, 4, 5, 7, 8, 9, 10, 11, 46] hX mixed ?_ | refine aD ?_ | refine aA ?_ | refine aB ?_); (simp [go_sem]; try (refine ⟨by kernel_rfl, ?_⟩)))))
  · have hnT : ¬ isT s := by
      rintro ⟨p', q', hr, e⟩
      obtain ⟨a, b⟩ := hback p' q' hr e
      cases a; cases b
      exact hall ⟨rfl, rfl, hr, e.symm⟩
    obtain ⟨rfl, rfl, rfl⟩ := h2 hnT
    refine aK false 49 [.cell 2 26, .tmp 3] Tryz.func17 rfl rfl rfl (by simp) (by decide) rfl fun X hX => ?_
    (repeat (first | refine aC ?_ | refine a7 ?_ | ((first | refine a8 [0, 2, 3, 4, 5, 7, 8, 9, 10, 11, 46] hX ?_ | refine a6 [0, 2, 3, 4, 5, 7, 8, 9, 10, 11, 46] hX mixed ?_ | refine aD ?_ | refine aA ?_ | refine aB ?_); (simp [go_sem]; try (refine ⟨by kernel_rfl, ?_⟩)))))
    first | refine aE (hc) rfl (by simp [go_sem]) rfl ?_ | refine aF (hc) rfl (by simp [go_sem]) rfl ?_
    try (simp [go_sem]; try (refine ⟨by kernel_rfl, ?_⟩))
    (repeat (first | refine aC ?_ | refine a7 ?_ | ((first | refine a8 [0, 2, 3, 4, 5, 7, 8, 9, 10, 11, 46] hX ?_ | refine a6 [0, 2, 3, 4, 5, 7, 8, 9, 10, 11, 46] hX mixed ?_ | refine aD ?_ | refine aA ?_ | refine aB ?_); (simp [go_sem]; try (refine ⟨by kernel_rfl, ?_⟩)))))
    first | refine aE (hrx) rfl (by simp [go_sem]) rfl ?_ | refine aF (hrx) rfl (by simp [go_sem]) rfl ?_
    try (simp [go_sem]; try (refine ⟨by kernel_rfl, ?_⟩))
    (repeat (first | refine aC ?_ | refine a7 ?_ | ((first | refine a8 [0, 2, 3, 4, 5, 7, 8, 9, 10, 11, 46] hX ?_ | refine a6 [0, 2, 3, 4, 5, 7, 8, 9, 10, 11, 46] hX mixed ?_ | refine aD ?_ | refine aA ?_ | refine aB ?_); (simp [go_sem]; try (refine ⟨by kernel_rfl, ?_⟩)))))
    first | refine aE (hry) rfl (by simp [go_sem]) rfl ?_ | refine aF (hry) rfl (by simp [go_sem]) rfl ?_
    try (simp [go_sem]; try (refine ⟨by kernel_rfl, ?_⟩))
    (repeat (first | refine aC ?_ | refine a7 ?_ | ((first | refine a8 [0, 2, 3, 4, 5, 7, 8, 9, 10, 11, 46] hX ?_ | refine a6 [0, 2, 3, 4, 5, 7, 8, 9, 10, 11, 46] hX mixed ?_ | refine aD ?_ | refine aA ?_ | refine aB ?_); (simp [go_sem]; try (refine ⟨by kernel_rfl, ?_⟩)))))
    first | refine aI (fun hg => j6 p q zx zy) rfl (by simp [go_sem]) rfl ?_ | refine aH (fun hg => j6 p q zx zy) rfl (by simp [go_sem]) rfl ?_
    try (simp [go_sem]; try (refine ⟨by kernel_rfl, ?_⟩))
    first | refine aI (fun hg => k0 p q zx zy) rfl (by simp [go_sem]) rfl ?_ | refine aH (fun hg => k0 p q zx zy) rfl (by simp [go_sem]) rfl ?_
    try (simp [go_sem]; try (refine ⟨by kernel_rfl, ?_⟩))
    refine aG (b := false) (by simp [go_sem, gA]; intro a b c; rw [if_pos c]; exact fun e => hall ⟨a, b, c, e⟩) (fun h => by cases h) (fun _ => ?_)
    (repeat (first | refine aC ?_ | refine a7 ?_ | ((first | refine a8 [0, 2, 3, 4, 5, 7, 8, 9, 10, 11, 46] hX ?_ | refine a6 [0, 2, 3, 4, 5, 7, 8, 9, 10, 11, 46] hX mixed ?_ | refine aD ?_ | refine aA ?_ | refine aB ?_); (simp [go_sem]; try (refine ⟨by kernel_rfl, ?_⟩)))))
    try exact ⟨rfl, rfl⟩
end Go.Proofs.YtebinaffldlihaaGreatDoor
