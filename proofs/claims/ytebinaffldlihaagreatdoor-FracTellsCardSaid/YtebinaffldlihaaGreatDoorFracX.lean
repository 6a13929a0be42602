import Derived.Test.YtebinaffldlihaaGreatDoorFracC
set_option linter.all false
namespace Go.Proofs.YtebinaffldlihaaGreatDoor
open Go.RowKit Go.Ab
attribute [local irreducible] AWP Go.Ab.Sub Means MeansH CallK CallG CallT CallGT
theorem tA (s1 s2 : Int) (a b : List Int) (hla : a.length ≤ 140737488355328) (hlb : b.length ≤ 140737488355328) : Means false Tryz.prog 27 [big2 s1 a, big2 s2 b] (bb (decide (s1 = s2 ∧ a = b))) := by
  refine aK false 38 [.tmp 4] Tryz.func27 rfl rfl rfl (by simp) (by decide) rfl fun X hX => ?_
  (repeat (first | refine aC ?_ | refine a7 ?_ | ((first | refine a8 [0, 1, 2, 3, 4, 5, 19, 24, 37] hX ?_ | refine a6 [0, 1, 2, 3, 4, 5, 19, 24, 37] hX mixed ?_ | refine aD ?_ | refine aA ?_ | refine aB ?_); (simp [go_sem]; try (refine ⟨by kernel_rfl, ?_⟩)))))
  by_cases h : s1 = s2
  · subst h
    by_cases hl : a.length = b.length
    · (repeat (first | refine aC ?_ | refine a7 ?_ | ((first | refine a8 [0, 1, 2, 3, 4, 5, 19, 24, 37] hX ?_ | refine a6 [0, 1, 2, 3, 4, 5, 19, 24, 37] hX mixed ?_ | refine aD ?_ | refine aA ?_ | refine aB ?_); (simp [go_sem, hl]; try (refine ⟨by kernel_rfl, ?_⟩)))))
      refine aG (b := false) (by simp [go_sem, hl]) (fun hb => by cases hb) (fun _ => ?_)
      (repeat (first | refine aC ?_ | refine a7 ?_ | ((first | refine a8 [0, 1, 2, 3, 4, 5, 19, 24, 37] hX ?_ | refine a6 [0, 1, 2, 3, 4, 5, 19, 24, 37] hX mixed ?_ | refine aD ?_ | refine aA ?_ | refine aB ?_); (simp [go_sem]; try (refine ⟨by kernel_rfl, ?_⟩)))))
      refine aQ (fun n : Nat => ⟨mkE [(2, .el 0 2 0 0), (3, .el 1 2 0 0), (5, ii n)], [.row ⟨24, 2, [big2 s1 a]⟩, .row ⟨24, 2, [big2 s1 b]⟩]⟩) (fun n => n ≤ a.length ∧ a.take n = b.take n) (fun n => a.length - n) 0 ?_ ?_ ?_
      · refine aL _ [.old 0 ⟨24, 2, [big2 s1 a]⟩, .old 1 ⟨24, 2, [big2 s1 b]⟩] (by simp [go_sem]) ?_
        simp [go_sem]
      · exact ⟨Nat.zero_le _, by simp⟩
      · rintro n ⟨hn, he⟩
        (repeat (first | refine aC ?_ | refine a7 ?_ | ((first | refine a8 [0, 1, 2, 3, 4, 5, 19, 24, 37] hX ?_ | refine a6 [0, 1, 2, 3, 4, 5, 19, 24, 37] hX mixed ?_ | refine aD ?_ | refine aA ?_ | refine aB ?_); (simp [go_sem]; try (refine ⟨by kernel_rfl, ?_⟩)))))
        refine aG (b := decide (n < a.length)) (by simp [go_sem]) (fun hd2 => ?_) (fun hd2 => ?_)
        · simp at hd2
          have h2 : n < b.length := by omega
          (repeat (first | refine aC ?_ | refine a7 ?_ | ((first | refine a8 [0, 1, 2, 3, 4, 5, 19, 24, 37] hX ?_ | refine a6 [0, 1, 2, 3, 4, 5, 19, 24, 37] hX mixed ?_ | refine aD ?_ | refine aA ?_ | refine aB ?_); (simp [go_sem, hd2, h2]; (try simp (disch := omega) only [w64, td, tm]); try (refine ⟨by kernel_rfl, ?_⟩)))))
          (repeat refine And.intro (by first | omega | (unfold maxLen; omega) | kernel_rfl | (refine ⟨by first | omega | (unfold maxLen; omega), by first | omega | (unfold maxLen; omega)⟩) | grind) ?_)
          try (simp [go_sem, hd2, h2]; try (refine ⟨by kernel_rfl, ?_⟩))
          refine aG (b := decide (a[n] ≠ b[n])) (by simp [go_sem, hd2, h2]; try omega) (fun hc => ?_) (fun hc => ?_)
          · simp only [decide_eq_true_eq] at hc
            have hne : ¬ a = b := fun e => hc (by simp only [e])
            (repeat (first | refine aC ?_ | refine a7 ?_ | ((first | refine a8 [0, 1, 2, 3, 4, 5, 19, 24, 37] hX ?_ | refine a6 [0, 1, 2, 3, 4, 5, 19, 24, 37] hX mixed ?_ | refine aD ?_ | refine aA ?_ | refine aB ?_); (simp [go_sem, hne]; try (refine ⟨by kernel_rfl, ?_⟩)))))
          · simp at hc
            (repeat (first | refine aC ?_ | refine a7 ?_ | ((first | refine a8 [0, 1, 2, 3, 4, 5, 19, 24, 37] hX ?_ | refine a6 [0, 1, 2, 3, 4, 5, 19, 24, 37] hX mixed ?_ | refine aD ?_ | refine aA ?_ | refine aB ?_); (simp [go_sem]; (try simp (disch := omega) only [w64, td, tm]); try (refine ⟨by kernel_rfl, ?_⟩)))))
            refine ⟨n + 1, ⟨by omega, ?_⟩, by omega, ?_⟩
            · rw [List.take_succ_eq_append_getElem hd2, List.take_succ_eq_append_getElem h2, he, hc]
            · refine aL _ [.old 0 ⟨24, 2, [big2 s1 a]⟩, .old 1 ⟨24, 2, [big2 s1 b]⟩] (by simp [go_sem]) ?_
              simp [go_sem]
        · have hnl : n = a.length := by simp at hd2; omega
          subst hnl
          have hab : a = b := by rwa [List.take_length, hl, List.take_length] at he
          (repeat (first | refine aC ?_ | refine a7 ?_ | ((first | refine a8 [0, 1, 2, 3, 4, 5, 19, 24, 37] hX ?_ | refine a6 [0, 1, 2, 3, 4, 5, 19, 24, 37] hX mixed ?_ | refine aD ?_ | refine aA ?_ | refine aB ?_); (simp [go_sem, hab]; try (refine ⟨by kernel_rfl, ?_⟩)))))
    · have hne : ¬ a = b := fun e => hl (by rw [e])
      (repeat (first | refine aC ?_ | refine a7 ?_ | ((first | refine a8 [0, 1, 2, 3, 4, 5, 19, 24, 37] hX ?_ | refine a6 [0, 1, 2, 3, 4, 5, 19, 24, 37] hX mixed ?_ | refine aD ?_ | refine aA ?_ | refine aB ?_); (simp [go_sem, hl]; try (refine ⟨by kernel_rfl, ?_⟩)))))
      refine aG (b := true) (by simp [go_sem, hl]; try omega) (fun _ => ?_) (fun hb => by cases hb)
      (repeat (first | refine aC ?_ | refine a7 ?_ | ((first | refine a8 [0, 1, 2, 3, 4, 5, 19, 24, 37] hX ?_ | refine a6 [0, 1, 2, 3, 4, 5, 19, 24, 37] hX mixed ?_ | refine aD ?_ | refine aA ?_ | refine aB ?_); (simp [go_sem, hne]; try (refine ⟨by kernel_rfl, ?_⟩)))))
  · (repeat (first | refine aC ?_ | refine a7 ?_ | ((first | refine a8 [0, 1, 2, 3, 4, 5, 19, 24, 37] hX ?_ | refine a6 [0, 1, 2, 3, 4, 5, 19, 24, 37] hX mixed ?_ | refine aD ?_ | refine aA ?_ | refine aB ?_); (simp [go_sem, h]; try (refine ⟨by kernel_rfl, ?_⟩)))))
    refine aG (b := true) (by simp [go_sem, h]) (fun _ => ?_) (fun hb => by cases hb)
    (repeat (first | refine aC ?_ | refine a7 ?_ | ((first | refine a8 [0, 1, 2, 3, 4, 5, 19, 24, 37] hX ?_ | refine a6 [0, 1, 2, 3, 4, 5, 19, 24, 37] hX mixed ?_ | refine aD ?_ | refine aA ?_ | refine aB ?_); (simp [go_sem, h]; try (refine ⟨by kernel_rfl, ?_⟩)))))
theorem eH (z w : Int) (hz : rz z) (hw : rz w) : Means false Tryz.prog 27 [bigZ z, bigZ w] (bb (decide (z = w))) := by
  have := tA (sg z) (sg w) (dg (ab z)) (dg (ab w)) (by have := bB hz; omega) (by have := bB hw; omega)
  simpa only [o8] using this
theorem fR {z w : Int} (h : z = w) (hz : rz z) : Means false Tryz.prog 27 [bigZ z, bigZ w] (bb true) := by
  have := eH z w hz (h ▸ hz)
  rwa [decide_eq_true h] at this
theorem wO (a b c d : Int) (ha : rz a) (hb : rz b) (hc : rz c) (hd : rz d) : Means false Tryz.prog 10 [frZ a b, frZ c d] (bb (decide (a = c ∧ b = d))) := by
  refine aK false 17 [.tmp 4] Tryz.func10 rfl rfl rfl (by simp) (by decide) rfl fun X hX => ?_
  (repeat (first | refine aC ?_ | refine a7 ?_ | ((first | refine a8 [0, 1, 2, 3, 4] hX ?_ | refine a6 [0, 1, 2, 3, 4] hX mixed ?_ | refine aD ?_ | refine aA ?_ | refine aB ?_); (simp [go_sem]; try (refine ⟨by kernel_rfl, ?_⟩)))))
  first | refine aE (eH a c ha hc) rfl (by simp [go_sem]) rfl ?_ | refine aF (eH a c ha hc) rfl (by simp [go_sem]) rfl ?_
  try (simp [go_sem]; try (refine ⟨by kernel_rfl, ?_⟩))
  first | refine aI (fun hg => eH b d hb hd) rfl (by simp [go_sem]) rfl ?_ | refine aH (fun hg => eH b d hb hd) rfl (by simp [go_sem]) rfl ?_
  try (simp [go_sem]; try (refine ⟨by kernel_rfl, ?_⟩))
  (repeat (first | refine aC ?_ | refine a7 ?_ | ((first | refine a8 [0, 1, 2, 3, 4] hX ?_ | refine a6 [0, 1, 2, 3, 4] hX mixed ?_ | refine aD ?_ | refine aA ?_ | refine aB ?_); (simp [go_sem]; try (refine ⟨by kernel_rfl, ?_⟩)))))
theorem n3 {a b c d : Int} (h1 : a = c) (h2 : b = d) (ha : rz a) (hb : rz b) : Means false Tryz.prog 10 [frZ a b, frZ c d] (bb true) := by
  have := wO a b c d ha hb (h1 ▸ ha) (h2 ▸ hb)
  rwa [decide_eq_true ⟨h1, h2⟩] at this
theorem n4 (s1 : Int) (L1 : List Int) (l1 : L1.length ≤ 9223372036854775807) (s2 : Int) (L2 : List Int) (l2 : L2.length ≤ 9223372036854775807) (n : Int) : Means false Tryz.prog 5 [frac4 s1 L1 s2 L2, ii n] (bb (decide ((L1.length : Int) ≤ n ∧ (L2.length : Int) ≤ n))) := by
  refine aK false 19 [.tmp 4] Tryz.func5 rfl rfl rfl (by simp) (by decide) rfl fun X hX => ?_
  (repeat (first | refine aC ?_ | refine a7 ?_ | ((first | refine a8 [0, 1, 2, 4] hX ?_ | refine a6 [0, 1, 2, 4] hX mixed ?_ | refine aD ?_ | refine aA ?_ | refine aB ?_); (simp [go_sem]; try (refine ⟨by kernel_rfl, ?_⟩)))))
end Go.Proofs.YtebinaffldlihaaGreatDoor
