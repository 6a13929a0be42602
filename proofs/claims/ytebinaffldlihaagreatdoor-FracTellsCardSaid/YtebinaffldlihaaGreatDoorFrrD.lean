import Derived.Test.YtebinaffldlihaaGreatDoorFrrA
import Derived.Test.YtebinaffldlihaaGreatDoorFracC
import Derived.Test.YtebinaffldlihaaGreatDoorRefV
set_option linter.all false
namespace Go.Proofs.YtebinaffldlihaaGreatDoor
open Go.RowKit Go.Ab
attribute [local irreducible] AWP Go.Ab.Sub Means MeansH CallK CallG CallT CallGT CallU
theorem pJ (p q : Int) (hp : rz p) (hq : rz q) : Means false Tryz.prog 22 [frZ p q] (bb (decide (rf p q))) := by
  have := bM (sg p) (dg (ab p)) (by have := bB hp; omega) (sg q) (dg (ab q)) (by have := bB hq; omega)
  simpa only [qU hp hq] using this
set_option maxHeartbeats 4000000 in
theorem j8 (p q : Int) (hp : rz p) (hq : rz q) : Means false Tryz.prog 26 [frZ p q] (sb (if rf p q then ftxt p q else [])) := by
  have l1 := gL hp
  have l2 := gL hq
  refine aK false 14 [.tmp 2] Tryz.func26 rfl rfl rfl (by simp) (by decide) rfl fun X hX => ?_
  (repeat (first | refine aC ?_ | refine a7 ?_ | ((first | refine a8 [0, 1, 2, 5] hX ?_ | refine a6 [0, 1, 2, 5] hX mixed ?_ | refine aD ?_ | refine aA ?_ | refine aB ?_); (simp [go_sem]; try (refine ⟨by kernel_rfl, ?_⟩)))))
  first | refine aE (pJ p q hp hq) rfl (by simp [go_sem]) rfl ?_ | refine aF (pJ p q hp hq) rfl (by simp [go_sem]) rfl ?_
  try (simp [go_sem]; try (refine ⟨by kernel_rfl, ?_⟩))
  by_cases h : rf p q
  · refine aG (b := false) (by simp [go_sem, h]) (fun h => by cases h) (fun _ => ?_)
    (repeat (first | refine aC ?_ | refine a7 ?_ | ((first | refine a8 [0, 1, 2, 5] hX ?_ | refine a6 [0, 1, 2, 5] hX mixed ?_ | refine aD ?_ | refine aA ?_ | refine aB ?_); (simp [go_sem]; try (refine ⟨by kernel_rfl, ?_⟩)))))
    first | refine aE (jG p hp) rfl (by simp [go_sem]) rfl ?_ | refine aF (jG p hp) rfl (by simp [go_sem]) rfl ?_
    try (simp [go_sem]; try (refine ⟨by kernel_rfl, ?_⟩))
    refine ⟨by unfold maxLen; omega, ?_⟩
    try (simp [go_sem]; try (refine ⟨by kernel_rfl, ?_⟩))
    first | refine aE (jG q hq) rfl (by simp [go_sem]) rfl ?_ | refine aF (jG q hq) rfl (by simp [go_sem]) rfl ?_
    try (simp [go_sem]; try (refine ⟨by kernel_rfl, ?_⟩))
    refine ⟨by unfold maxLen; omega, ?_⟩
    (repeat (first | refine aC ?_ | refine a7 ?_ | ((first | refine a8 [0, 1, 2, 5] hX ?_ | refine a6 [0, 1, 2, 5] hX mixed ?_ | refine aD ?_ | refine aA ?_ | refine aB ?_); (simp [go_sem, h, ftxt]; try (refine ⟨by kernel_rfl, ?_⟩)))))
    try (simp [go_sem, h, ftxt]; try (refine ⟨by kernel_rfl, ?_⟩))
    (repeat (first | refine aC ?_ | refine a7 ?_ | ((first | refine a8 [0, 1, 2, 5] hX ?_ | refine a6 [0, 1, 2, 5] hX mixed ?_ | refine aD ?_ | refine aA ?_ | refine aB ?_); (simp [go_sem, h, ftxt]; try (refine ⟨by kernel_rfl, ?_⟩)))))
  · refine aG (b := true) (by simp [go_sem, h]) (fun _ => ?_) (fun h => by cases h)
    (repeat (first | refine aC ?_ | refine a7 ?_ | ((first | refine a8 [0, 1, 2, 5] hX ?_ | refine a6 [0, 1, 2, 5] hX mixed ?_ | refine aD ?_ | refine aA ?_ | refine aB ?_); (simp [go_sem, h]; try (refine ⟨by kernel_rfl, ?_⟩)))))
set_option maxHeartbeats 4000000 in
set_option maxRecDepth 20000 in
theorem qY (s : List UInt8) (hs : s.length ≤ 100000) (P Q : Int) (E : Int) (h1 : ∀ p q, rf p q → s = ftxt p q → P = p ∧ Q = q ∧ E = 0) (h2 : ¬ isT s → P = 0 ∧ Q = 0 ∧ E = 2) : Means false Tryz.prog 18 [sb s] (.tup [frZ P Q, ii E]) := by
  obtain ⟨x, y', hx47, hsx, hy'⟩ : ∃ x y', (∀ c ∈ x, c ≠ 47) ∧ s = x ++ y' ∧ (y' = [] ∨ ∃ y, y' = 47 :: y) := by
    rcases mD s with h | ⟨x, y, e, h⟩
    · exact ⟨s, [], h, by simp, .inl rfl⟩
    · exact ⟨x, 47 :: y, h, e, .inr ⟨y, rfl⟩⟩
  have hsl : s.length = x.length + y'.length := by rw [hsx, List.length_append]
  have hxs : ∀ i (h : i < x.length), s[i]'(by omega) ≠ 47 := fun i h => by
    simp only [hsx]
    rw [List.getElem_append_left h]
    exact hx47 _ (List.getElem_mem h)
  refine aK false 59 [.cell 2 26, .tmp 3] Tryz.func18 rfl rfl rfl (by simp) (by decide) rfl fun X hX => ?_
  (repeat (first | refine aC ?_ | refine a7 ?_ | ((first | refine a8 [0, 2, 3, 4, 5, 6, 7, 8, 9, 19, 25, 56] hX ?_ | refine a6 [0, 2, 3, 4, 5, 6, 7, 8, 9, 19, 25, 56] hX mixed ?_ | refine aD ?_ | refine aA ?_ | refine aB ?_); (simp [go_sem]; try (refine ⟨by kernel_rfl, ?_⟩)))))
  refine aQ (fun n : Nat => ⟨mkE [(0, sb s), (2, .el 0 4 0 0), (3, ii 0), (4, ii n)], [.row ⟨26, 4, [.agg [ii 0, .nil, ii 0, .nil]]⟩]⟩) (fun n => n ≤ x.length) (fun n => x.length - n) 0 ?_ ?_ ?_
  · refine aL _ [.old 0 ⟨26, 4, [.agg [ii 0, .nil, ii 0, .nil]]⟩] (by simp [go_sem]) ?_
    simp [go_sem]
  · exact Nat.zero_le _
  · intro n hn
    have hwn := w64 (x := (n : Int) + 1) (by omega) (by omega)
    by_cases hlt : n < x.length
    · have hns : n < s.length := by omega
      have hne := hxs n hlt
      have hni : ¬ ((s[n].toNat : Int) = 47) := fun h => hne (UInt8.toNat_inj.1 (by show s[n].toNat = 47; omega))
      (repeat (first | refine aC ?_ | refine a7 ?_ | ((first | refine a8 [0, 2, 3, 4, 5, 6, 7, 8, 9, 19, 25, 56] hX ?_ | refine a6 [0, 2, 3, 4, 5, 6, 7, 8, 9, 19, 25, 56] hX mixed ?_ | refine aD ?_ | refine aA ?_ | refine aB ?_); (simp [go_sem, hns]; try (refine ⟨by kernel_rfl, ?_⟩)))))
      refine aG (b := true) (by simp [go_sem, hns, hni]) (fun _ => ?_) (fun h => by cases h)
      (repeat (first | refine aC ?_ | refine a7 ?_ | ((first | refine a8 [0, 2, 3, 4, 5, 6, 7, 8, 9, 19, 25, 56] hX ?_ | refine a6 [0, 2, 3, 4, 5, 6, 7, 8, 9, 19, 25, 56] hX mixed ?_ | refine aD ?_ | refine aA ?_ | refine aB ?_); (simp [go_sem, hwn]; try (refine ⟨by kernel_rfl, ?_⟩)))))
      refine ⟨n + 1, by omega, by omega, ?_⟩
      refine aL _ [.old 0 ⟨26, 4, [.agg [ii 0, .nil, ii 0, .nil]]⟩] (by simp [go_sem]) ?_
      simp [go_sem]
    · have hnx : n = x.length := by omega
      subst hnx
      rcases hy' with rfl | ⟨y, rfl⟩
      · have hl : s.length = x.length := by simpa using hsl
        have hT : ¬ isT s := by
          rintro ⟨p, q, hr, e⟩
          rw [List.append_nil] at hsx
          exact absurd rfl (hx47 47 (by rw [← hsx, e]; simp [ftxt]))
        obtain ⟨rfl, rfl, rfl⟩ := h2 hT
        (repeat (first | refine aC ?_ | refine a7 ?_ | ((first | refine a8 [0, 2, 3, 4, 5, 6, 7, 8, 9, 19, 25, 56] hX ?_ | refine a6 [0, 2, 3, 4, 5, 6, 7, 8, 9, 19, 25, 56] hX mixed ?_ | refine aD ?_ | refine aA ?_ | refine aB ?_); (simp [go_sem]; try (refine ⟨by kernel_rfl, ?_⟩)))))
        refine aG (b := false) (by simp [go_sem, hl]) (fun h => by cases h) (fun _ => ?_)
        (repeat (first | refine aC ?_ | refine a7 ?_ | ((first | refine a8 [0, 2, 3, 4, 5, 6, 7, 8, 9, 19, 25, 56] hX ?_ | refine a6 [0, 2, 3, 4, 5, 6, 7, 8, 9, 19, 25, 56] hX mixed ?_ | refine aD ?_ | refine aA ?_ | refine aB ?_); (simp [go_sem]; try (refine ⟨by kernel_rfl, ?_⟩)))))
        refine aG (b := true) (by simp [go_sem, hl]) (fun _ => ?_) (fun h => by cases h)
        (repeat (first | refine aC ?_ | refine a7 ?_ | ((first | refine a8 [0, 2, 3, 4, 5, 6, 7, 8, 9, 19, 25, 56] hX ?_ | refine a6 [0, 2, 3, 4, 5, 6, 7, 8, 9, 19, 25, 56] hX mixed ?_ | refine aD ?_ | refine aA ?_ | refine aB ?_); (simp [go_sem]; try (refine ⟨by kernel_rfl, ?_⟩)))))
      · have hl : x.length < s.length := by simp at hsl; omega
        have hg : s[x.length] = 47 := by simp only [hsx]; simp
        have hly : y.length ≤ 100000 := by simp at hsl; omega
        have hlx : x.length ≤ 100000 := by omega
        have hrx := rY x hlx
        have hry := rY y hly
        have zx := qW x
        have zy := qW y
        have tx := @k5 x
        have ty := @k5 y
        have hback : ∀ p q, rf p q → s = ftxt p q → rd x = (p, 0) ∧ rd y = (q, 0) := fun p q hr e => by
          have e2 := dF x y hx47
          rw [← hsx, e, ftxt, dF (txt p) (txt q) (f0 p)] at e2
          have e3 := (Prod.mk.inj e2)
          rw [← e3.1, ← (Prod.mk.inj e3.2).1]
          exact ⟨d9 hr.1, d9 hr.2.1⟩
        have x1 : (⟨s.toArray⟩ : ByteArray).extract 0 x.length = ⟨x.toArray⟩ := by rw [hsx]; apply ByteArray.ext; simp
        have x2 : (⟨s.toArray⟩ : ByteArray).extract (x.length + 1) s.length = ⟨y.toArray⟩ := by rw [hsx]; apply ByteArray.ext; simp; rw [List.take_of_length_le (by omega)]
        generalize rd x = A at *
        generalize rd y = B at *
        obtain ⟨p, e1⟩ := A
        obtain ⟨q, e2⟩ := B
        simp only [] at hrx hry zx zy tx ty hback
        have hlt1 : ¬ x.length = s.length := by omega
        have hni : (s[x.length].toNat : Int) = 47 := by rw [hg]; rfl
        (repeat (first | refine aC ?_ | refine a7 ?_ | ((first | refine a8 [0, 2, 3, 4, 5, 6, 7, 8, 9, 19, 25, 56] hX ?_ | refine a6 [0, 2, 3, 4, 5, 6, 7, 8, 9, 19, 25, 56] hX mixed ?_ | refine aD ?_ | refine aA ?_ | refine aB ?_); (simp [go_sem, hl, hg]; try (refine ⟨by kernel_rfl, ?_⟩)))))
        refine aG (b := false) (by simp [go_sem, hl, hg]) (fun h => by cases h) (fun _ => ?_)
        (repeat (first | refine aC ?_ | refine a7 ?_ | ((first | refine a8 [0, 2, 3, 4, 5, 6, 7, 8, 9, 19, 25, 56] hX ?_ | refine a6 [0, 2, 3, 4, 5, 6, 7, 8, 9, 19, 25, 56] hX mixed ?_ | refine aD ?_ | refine aA ?_ | refine aB ?_); (simp [go_sem]; try (refine ⟨by kernel_rfl, ?_⟩)))))
        refine aG (b := false) (by simp [go_sem, hlt1]; try omega) (fun h => by cases h) (fun _ => ?_)
        (repeat (first | refine aC ?_ | refine a7 ?_ | ((first | refine a8 [0, 2, 3, 4, 5, 6, 7, 8, 9, 19, 25, 56] hX ?_ | refine a6 [0, 2, 3, 4, 5, 6, 7, 8, 9, 19, 25, 56] hX mixed ?_ | refine aD ?_ | refine aA ?_ | refine aB ?_); (simp [go_sem, hwn]; try (refine ⟨by kernel_rfl, ?_⟩)))))
        refine ⟨by omega, ?_⟩
        rw [x1]
        first | refine aE (hrx) rfl (by simp [go_sem]) rfl ?_ | refine aF (hrx) rfl (by simp [go_sem]) rfl ?_
        try (simp [go_sem]; try (refine ⟨by kernel_rfl, ?_⟩))
        (repeat (first | refine aC ?_ | refine a7 ?_ | ((first | refine a8 [0, 2, 3, 4, 5, 6, 7, 8, 9, 19, 25, 56] hX ?_ | refine a6 [0, 2, 3, 4, 5, 6, 7, 8, 9, 19, 25, 56] hX mixed ?_ | refine aD ?_ | refine aA ?_ | refine aB ?_); (simp [go_sem, hwn, hl]; try (refine ⟨by kernel_rfl, ?_⟩)))))
        try refine ⟨by omega, ?_⟩
        try rw [x2]
        first | refine aE (hry) rfl (by simp [go_sem]) rfl ?_ | refine aF (hry) rfl (by simp [go_sem]) rfl ?_
        try (simp [go_sem]; try (refine ⟨by kernel_rfl, ?_⟩))
        (repeat (first | refine aC ?_ | refine a7 ?_ | ((first | refine a8 [0, 2, 3, 4, 5, 6, 7, 8, 9, 19, 25, 56] hX ?_ | refine a6 [0, 2, 3, 4, 5, 6, 7, 8, 9, 19, 25, 56] hX mixed ?_ | refine aD ?_ | refine aA ?_ | refine aB ?_); (simp [go_sem]; try (refine ⟨by kernel_rfl, ?_⟩)))))
        by_cases hall : e1 = 0 ∧ e2 = 0 ∧ rf p q ∧ ftxt p q = s
        · obtain ⟨rfl, rfl, hr, hT⟩ := hall
          obtain ⟨rfl, rfl, rfl⟩ := h1 p q hr hT.symm
          have htg := j8 P Q zx zy
          rw [if_pos hr, hT] at htg
          first | refine aI (fun hg => htg) rfl (by simp [go_sem]) rfl ?_ | refine aH (fun hg => htg) rfl (by simp [go_sem]) rfl ?_
          try (simp [go_sem]; try (refine ⟨by kernel_rfl, ?_⟩))
          refine aG (b := false) (by simp [go_sem, gA, bne]) (fun h => by cases h) (fun _ => ?_)
          (repeat (first | refine aC ?_ | refine a7 ?_ | ((first | refine a8 [0, 2, 3, 4, 5, 6, 7, 8, 9, 19, 25, 56] hX ?_ | refine a6 [0, 2, 3, 4, 5, 6, 7, 8, 9, 19, 25, 56] hX mixed ?_ | refine aD ?_ | refine aA ?_ | refine aB ?_); (simp [go_sem]; try (refine ⟨by kernel_rfl, ?_⟩)))))
        · have hnT : ¬ isT s := by
            rintro ⟨p', q', hr, e⟩
            obtain ⟨a, b⟩ := hback p' q' hr e
            cases a; cases b
            exact hall ⟨rfl, rfl, hr, e.symm⟩
          have hno : (¬ e1 = 0 ∨ ¬ e2 = 0) ∨ ¬ (if rf p q then ftxt p q else []) = s := Classical.byContradiction fun q0 => by
            simp only [not_or, Classical.not_not] at q0
            obtain ⟨⟨a, b⟩, c⟩ := q0
            split at c
            · rename_i hr; exact hall ⟨a, b, hr, c⟩
            · rw [hsx] at c; simp at c
          obtain ⟨rfl, rfl, rfl⟩ := h2 hnT
          first | refine aI (fun hg => j8 p q zx zy) rfl (by simp [go_sem]) rfl ?_ | refine aH (fun hg => j8 p q zx zy) rfl (by simp [go_sem]) rfl ?_
          try (simp [go_sem]; try (refine ⟨by kernel_rfl, ?_⟩))
          refine aG (b := true) (by simp [go_sem, gA, bne]; exact hno) (fun _ => ?_) (fun h => by cases h)
          (repeat (first | refine aC ?_ | refine a7 ?_ | ((first | refine a8 [0, 2, 3, 4, 5, 6, 7, 8, 9, 19, 25, 56] hX ?_ | refine a6 [0, 2, 3, 4, 5, 6, 7, 8, 9, 19, 25, 56] hX mixed ?_ | refine aD ?_ | refine aA ?_ | refine aB ?_); (simp [go_sem]; try (refine ⟨by kernel_rfl, ?_⟩)))))
          try exact ⟨rfl, rfl⟩
end Go.Proofs.YtebinaffldlihaaGreatDoor
