import Derived.Test.YtebinaffldlihaaGreatDoorBigG
set_option linter.all false
namespace Go.Proofs.YtebinaffldlihaaGreatDoor
open Go.RowKit Go.Ab
attribute [local irreducible] AWP Go.Ab.Sub Means MeansH CallK CallG CallT CallGT
def ab (z : Int) : Int := if z < 0 then -z else z
def sg (z : Int) : Int := if z < 0 then -1 else if 0 < z then 1 else 0
abbrev big2 (s : Int) (L : List Int) : AV := .agg [ii s, il L]
abbrev bigZ (z : Int) : AV := big2 (sg z) (dg (ab z))
def rz (z : Int) : Prop := ab z < 1048576 ^ 60
def isR (s : Int) (L : List Int) : Prop := okD L ∧ (L.length = 0 → s = 0) ∧ ∀ h : 0 < L.length, (s = 1 ∨ s = -1) ∧ L.length ≤ 60 ∧ L[L.length - 1]'(by omega) ≠ 0
noncomputable instance (s : Int) (L : List Int) : Decidable (isR s L) := Classical.propDecidable _
noncomputable instance (z : Int) : Decidable (rz z) := Classical.propDecidable _
theorem aV (z : Int) : 0 ≤ ab z := by unfold ab; split <;> omega
theorem rJ (z : Int) : sg z * ab z = z := by
  unfold sg ab
  split
  · omega
  · split
    · omega
    · omega
theorem iA {z : Int} (h : rz z) : isR (sg z) (dg (ab z)) := by
  refine ⟨aN _, fun hl => ?_, fun hl => ⟨?_, (aP 60).2 h, ?_⟩⟩
  · have := bF.1 (List.length_eq_zero_iff.1 hl)
    have := aV z
    unfold ab at *; unfold sg
    split <;> split at * <;> omega
  · have hz : z ≠ 0 := by
      intro h0; subst h0
      have : dg (ab 0) = [] := rfl
      rw [this] at hl; simp at hl
    unfold sg
    split
    · exact .inr rfl
    · rw [if_pos (by omega)]; exact .inl rfl
  · have := mB (ab z) (by intro e; rw [e] at hl; simp at hl)
    rwa [List.getLast_eq_getElem] at this
theorem wN {L : List Int} (ho : okD L) (h : ∀ hl : 0 < L.length, L[L.length - 1]'(by omega) ≠ 0) : dg (val L) = L := by
  refine uY ho fun hl => ?_
  rw [List.getLast_eq_getElem]
  exact h (List.length_pos_iff.2 hl)
theorem gB {s : Int} {L : List Int} (h : isR s L) : ∃ z, rz z ∧ s = sg z ∧ L = dg (ab z) := by
  obtain ⟨h1, h2, h3⟩ := h
  have hd := wN h1 fun hl => (h3 hl).2.2
  have hv := aT h1
  by_cases hl : 0 < L.length
  · obtain ⟨hs, hlen, hne⟩ := h3 hl
    have hp : 0 < val L := by
      refine Decidable.byContradiction fun hn => ?_
      rw [eP (by omega)] at hd
      rw [← hd] at hl; simp at hl
    have hr : val L < 1048576 ^ 60 := (aP 60).1 (by rw [hd]; exact hlen)
    rcases hs with rfl | rfl
    · refine ⟨val L, ?_, ?_, ?_⟩
      · unfold rz ab; rw [if_neg (by omega)]; exact hr
      · unfold sg; rw [if_neg (by omega), if_pos hp]
      · unfold ab; rw [if_neg (by omega), hd]
    · refine ⟨-val L, ?_, ?_, ?_⟩
      · unfold rz ab; rw [if_pos (by omega), Int.neg_neg]; exact hr
      · unfold sg; rw [if_pos (by omega)]
      · unfold ab; rw [if_pos (by omega), Int.neg_neg, hd]
  · have h0 : L = [] := List.length_eq_zero_iff.1 (by omega)
    subst h0
    exact ⟨0, by unfold rz ab; simp, h2 rfl, rfl⟩
set_option maxHeartbeats 4000000 in
set_option maxRecDepth 20000 in
theorem eQ (s : Int) (L : List Int) (hl : L.length ≤ 9223372036854775807) : Means false Tryz.prog 44 [big2 s L] (bb (decide (isR s L))) := by
  refine aK false 49 [.tmp 2] Tryz.func44 rfl rfl rfl (by simp) (by decide) rfl fun X hX => ?_
  (repeat (first | refine aC ?_ | refine a7 ?_ | ((first | refine a8 [0, 1, 2, 3, 5, 10, 11, 12, 13, 21, 24] hX ?_ | refine a6 [0, 1, 2, 3, 5, 10, 11, 12, 13, 21, 24] hX mixed ?_ | refine aD ?_ | refine aA ?_ | refine aB ?_); (simp [go_sem]; (try simp (disch := omega) only [w64, td, tm]); try (refine ⟨by kernel_rfl, ?_⟩)))))
  refine aQ (fun n : Nat => ⟨mkE [(1, .el 0 2 0 0), (3, ii L.length), (10, il L), (11, ii L.length), (12, ii n)], [.row ⟨24, 2, [big2 s L]⟩]⟩) (fun n => n ≤ L.length ∧ okD (L.take n)) (fun n => L.length - n) 0 ?_ ?_ ?_
  · refine aL _ [.old 0 ⟨24, 2, [big2 s L]⟩] (by simp [go_sem]) ?_
    simp [go_sem]
  · exact ⟨Nat.zero_le _, by simp [okD]⟩
  · rintro n ⟨hn, hok⟩
    (repeat (first | refine aC ?_ | refine a7 ?_ | ((first | refine a8 [0, 1, 2, 3, 5, 10, 11, 12, 13, 21, 24] hX ?_ | refine a6 [0, 1, 2, 3, 5, 10, 11, 12, 13, 21, 24] hX mixed ?_ | refine aD ?_ | refine aA ?_ | refine aB ?_); (simp [go_sem]; try (refine ⟨by kernel_rfl, ?_⟩)))))
    refine aG (b := decide (n < L.length)) (by simp [go_sem]) (fun hd => ?_) (fun hd => ?_)
    · simp at hd
      (repeat (first | refine aC ?_ | refine a7 ?_ | ((first | refine a8 [0, 1, 2, 3, 5, 10, 11, 12, 13, 21, 24] hX ?_ | refine a6 [0, 1, 2, 3, 5, 10, 11, 12, 13, 21, 24] hX mixed ?_ | refine aD ?_ | refine aA ?_ | refine aB ?_); (simp [go_sem, hd]; (try simp (disch := omega) only [w64, td, tm]); try (refine ⟨by kernel_rfl, ?_⟩)))))
      by_cases h0 : 0 ≤ L[n] ∧ L[n] < 1048576
      · have h1 : ¬ L[n] < 0 := by omega
        have h2 : ¬ 1048575 < L[n] := by omega
        (repeat (first | refine aC ?_ | refine a7 ?_ | ((first | refine a8 [0, 1, 2, 3, 5, 10, 11, 12, 13, 21, 24] hX ?_ | refine a6 [0, 1, 2, 3, 5, 10, 11, 12, 13, 21, 24] hX mixed ?_ | refine aD ?_ | refine aA ?_ | refine aB ?_); (simp [go_sem, hd, h1, h2]; (try simp (disch := omega) only [w64, td, tm]); try (refine ⟨by kernel_rfl, ?_⟩)))))
        try (simp [go_sem, hd, h1, h2]; try (refine ⟨by kernel_rfl, ?_⟩))
        refine aG (b := false) (by simp [go_sem]) (fun hb => by cases hb) (fun _ => ?_)
        (repeat (first | refine aC ?_ | refine a7 ?_ | ((first | refine a8 [0, 1, 2, 3, 5, 10, 11, 12, 13, 21, 24] hX ?_ | refine a6 [0, 1, 2, 3, 5, 10, 11, 12, 13, 21, 24] hX mixed ?_ | refine aD ?_ | refine aA ?_ | refine aB ?_); (simp [go_sem]; (try simp (disch := omega) only [w64, td, tm]); try (refine ⟨by kernel_rfl, ?_⟩)))))
        refine ⟨n + 1, ⟨by omega, ?_⟩, by omega, ?_⟩
        · rw [List.take_succ_eq_append_getElem hd]
          exact cT.2 ⟨hok, by simp [okD]; exact h0⟩
        · refine aL _ [.old 0 ⟨24, 2, [big2 s L]⟩] (by simp [go_sem]) ?_
          simp [go_sem]
      · have hno : ¬ isR s L := fun h => h0 (b7 h.1 hd)
        by_cases h1 : L[n] < 0
        · (repeat (first | refine aC ?_ | refine a7 ?_ | ((first | refine a8 [0, 1, 2, 3, 5, 10, 11, 12, 13, 21, 24] hX ?_ | refine a6 [0, 1, 2, 3, 5, 10, 11, 12, 13, 21, 24] hX mixed ?_ | refine aD ?_ | refine aA ?_ | refine aB ?_); (simp [go_sem, hd, h1]; (try simp (disch := omega) only [w64, td, tm]); try (refine ⟨by kernel_rfl, ?_⟩)))))
          try (simp [go_sem, hd, h1]; try (refine ⟨by kernel_rfl, ?_⟩))
          refine aG (b := true) (by simp [go_sem]) (fun _ => ?_) (fun hb => by cases hb)
          (repeat (first | refine aC ?_ | refine a7 ?_ | ((first | refine a8 [0, 1, 2, 3, 5, 10, 11, 12, 13, 21, 24] hX ?_ | refine a6 [0, 1, 2, 3, 5, 10, 11, 12, 13, 21, 24] hX mixed ?_ | refine aD ?_ | refine aA ?_ | refine aB ?_); (simp [go_sem, hno]; try (refine ⟨by kernel_rfl, ?_⟩)))))
        · have h2 : 1048575 < L[n] := by omega
          (repeat (first | refine aC ?_ | refine a7 ?_ | ((first | refine a8 [0, 1, 2, 3, 5, 10, 11, 12, 13, 21, 24] hX ?_ | refine a6 [0, 1, 2, 3, 5, 10, 11, 12, 13, 21, 24] hX mixed ?_ | refine aD ?_ | refine aA ?_ | refine aB ?_); (simp [go_sem, hd, h1, h2]; (try simp (disch := omega) only [w64, td, tm]); try (refine ⟨by kernel_rfl, ?_⟩)))))
          try (simp [go_sem, hd, h1, h2]; try (refine ⟨by kernel_rfl, ?_⟩))
          refine aG (b := true) (by simp [go_sem]) (fun _ => ?_) (fun hb => by cases hb)
          (repeat (first | refine aC ?_ | refine a7 ?_ | ((first | refine a8 [0, 1, 2, 3, 5, 10, 11, 12, 13, 21, 24] hX ?_ | refine a6 [0, 1, 2, 3, 5, 10, 11, 12, 13, 21, 24] hX mixed ?_ | refine aD ?_ | refine aA ?_ | refine aB ?_); (simp [go_sem, hno]; try (refine ⟨by kernel_rfl, ?_⟩)))))
    · have hnl : n = L.length := by simp at hd; omega
      subst hnl
      rw [List.take_length] at hok
      (repeat (first | refine aC ?_ | refine a7 ?_ | ((first | refine a8 [0, 1, 2, 3, 5, 10, 11, 12, 13, 21, 24] hX ?_ | refine a6 [0, 1, 2, 3, 5, 10, 11, 12, 13, 21, 24] hX mixed ?_ | refine aD ?_ | refine aA ?_ | refine aB ?_); (simp [go_sem]; (try simp (disch := omega) only [w64, td, tm]); try (refine ⟨by kernel_rfl, ?_⟩)))))
      refine aG (b := decide (L.length = 0)) (by simp [go_sem]; try omega) (fun hb => ?_) (fun hb => ?_)
      · simp only [decide_eq_true_eq] at hb
        have e : isR s L ↔ s = 0 := ⟨fun h => h.2.1 hb, fun h => ⟨hok, fun _ => h, fun h => by omega⟩⟩
        (repeat (first | refine aC ?_ | refine a7 ?_ | ((first | refine a8 [0, 1, 2, 3, 5, 10, 11, 12, 13, 21, 24] hX ?_ | refine a6 [0, 1, 2, 3, 5, 10, 11, 12, 13, 21, 24] hX mixed ?_ | refine aD ?_ | refine aA ?_ | refine aB ?_); (simp [go_sem]; try (refine ⟨by kernel_rfl, ?_⟩)))))
        simp only [e]
      · simp only [decide_eq_false_iff_not] at hb
        have hlp : 0 < L.length := by omega
        have e : isR s L ↔ (s = 1 ∨ s = -1) ∧ L.length ≤ 60 ∧ L[L.length - 1] ≠ 0 := ⟨fun h => h.2.2 hlp, fun h => ⟨hok, fun h => by omega, fun _ => h⟩⟩
        have hc : ((L.length : Int) - 1).toNat = L.length - 1 := by omega
        have hc1 : 1 ≤ (L.length : Int) := by omega
        have hc2 : (L.length : Int) - 1 < L.length := by omega
        have hc3 : L.length - 1 < L.length := by omega
        have hw1 := w64 (x := (L.length : Int) - 1) (by omega) (by omega)
        by_cases h1 : s = 1
        · subst h1
          by_cases h3 : L.length ≤ 60
          · have h4 : (L.length : Int) ≤ 60 := by omega
            (repeat (first | refine aC ?_ | refine a7 ?_ | ((first | refine a8 [0, 1, 2, 3, 5, 10, 11, 12, 13, 21, 24] hX ?_ | refine a6 [0, 1, 2, 3, 5, 10, 11, 12, 13, 21, 24] hX mixed ?_ | refine aD ?_ | refine aA ?_ | refine aB ?_); (simp [go_sem, hc, hc1, hc2, hc3, hw1, h3]; try (refine ⟨by kernel_rfl, ?_⟩)))))
            simp [e, h3, h4]
          · have h4 : ¬ (L.length : Int) ≤ 60 := by omega
            (repeat (first | refine aC ?_ | refine a7 ?_ | ((first | refine a8 [0, 1, 2, 3, 5, 10, 11, 12, 13, 21, 24] hX ?_ | refine a6 [0, 1, 2, 3, 5, 10, 11, 12, 13, 21, 24] hX mixed ?_ | refine aD ?_ | refine aA ?_ | refine aB ?_); (simp [go_sem, hc, hc1, hc2, hc3, hw1, h3]; try (refine ⟨by kernel_rfl, ?_⟩)))))
            simp [e, h3, h4]
        · by_cases h2 : s = -1
          · subst h2
            by_cases h3 : L.length ≤ 60
            · have h4 : (L.length : Int) ≤ 60 := by omega
              (repeat (first | refine aC ?_ | refine a7 ?_ | ((first | refine a8 [0, 1, 2, 3, 5, 10, 11, 12, 13, 21, 24] hX ?_ | refine a6 [0, 1, 2, 3, 5, 10, 11, 12, 13, 21, 24] hX mixed ?_ | refine aD ?_ | refine aA ?_ | refine aB ?_); (simp [go_sem, hc, hc1, hc2, hc3, hw1, h3]; try (refine ⟨by kernel_rfl, ?_⟩)))))
              simp [e, h3, h4]
            · have h4 : ¬ (L.length : Int) ≤ 60 := by omega
              (repeat (first | refine aC ?_ | refine a7 ?_ | ((first | refine a8 [0, 1, 2, 3, 5, 10, 11, 12, 13, 21, 24] hX ?_ | refine a6 [0, 1, 2, 3, 5, 10, 11, 12, 13, 21, 24] hX mixed ?_ | refine aD ?_ | refine aA ?_ | refine aB ?_); (simp [go_sem, hc, hc1, hc2, hc3, hw1, h3]; try (refine ⟨by kernel_rfl, ?_⟩)))))
              simp [e, h3, h4]
          · (repeat (first | refine aC ?_ | refine a7 ?_ | ((first | refine a8 [0, 1, 2, 3, 5, 10, 11, 12, 13, 21, 24] hX ?_ | refine a6 [0, 1, 2, 3, 5, 10, 11, 12, 13, 21, 24] hX mixed ?_ | refine aD ?_ | refine aA ?_ | refine aB ?_); (simp [go_sem, hc, hc1, hc2, hc3, hw1, h1, h2]; try (refine ⟨by kernel_rfl, ?_⟩)))))
            simp [e, h1, h2]
theorem bS (s : Int) (L : List Int) (z : Int) (hl : L.length ≤ 100000) (ho : okD L) (hz : ab z = val L) (hs : val L ≠ 0 → sg z = s) : Means false Tryz.prog 57 [ii s, il L] (bigZ z) := by
  refine aK false 14 [.cell 4 24] Tryz.func57 rfl rfl rfl (by simp) (by decide) rfl fun X hX => ?_
  (repeat (first | refine aC ?_ | refine a7 ?_ | ((first | refine a8 [0, 1, 4, 9] hX ?_ | refine a6 [0, 1, 4, 9] hX mixed ?_ | refine aD ?_ | refine aA ?_ | refine aB ?_); (simp [go_sem]; try (refine ⟨by kernel_rfl, ?_⟩)))))
  first | refine aE (u3 L hl ho) rfl (by simp [go_sem]) rfl ?_ | refine aF (u3 L hl ho) rfl (by simp [go_sem]) rfl ?_
  try (simp [go_sem]; try (refine ⟨by kernel_rfl, ?_⟩))
  (repeat (first | refine aC ?_ | refine a7 ?_ | ((first | refine a8 [0, 1, 4, 9] hX ?_ | refine a6 [0, 1, 4, 9] hX mixed ?_ | refine aD ?_ | refine aA ?_ | refine aB ?_); (simp [go_sem]; try (refine ⟨by kernel_rfl, ?_⟩)))))
  have hv := aT ho
  refine aG (b := decide (val L = 0)) (by simp [go_sem, bF]; omega) (fun hb => ?_) (fun hb => ?_)
  · simp at hb
    have : z = 0 := by unfold ab at hz; split at hz <;> omega
    subst this
    (repeat (first | refine aC ?_ | refine a7 ?_ | ((first | refine a8 [0, 1, 4, 9] hX ?_ | refine a6 [0, 1, 4, 9] hX mixed ?_ | refine aD ?_ | refine aA ?_ | refine aB ?_); (simp [go_sem]; try (refine ⟨by kernel_rfl, ?_⟩)))))
    simp [ab, dU]
  · simp at hb
    have hs2 := hs hb
    (repeat (first | refine aC ?_ | refine a7 ?_ | ((first | refine a8 [0, 1, 4, 9] hX ?_ | refine a6 [0, 1, 4, 9] hX mixed ?_ | refine aD ?_ | refine aA ?_ | refine aB ?_); (simp [go_sem, hs2, hz]; try (refine ⟨by kernel_rfl, ?_⟩)))))
theorem z0 : bigZ 0 = big2 0 [] := rfl
theorem t8 (z : Int) (hl : (dg (ab z)).length ≤ 100000) : Means false Tryz.prog 59 [bb true, bigZ z] (.tup [bigZ (if rz z then z else 0), ii (if rz z then 0 else 6)]) := by
  refine aK false 17 [.cell 4 24, .tmp 5] Tryz.func59 rfl rfl rfl (by simp) (by decide) rfl fun X hX => ?_
  (repeat (first | refine aC ?_ | refine a7 ?_ | ((first | refine a8 [0, 1, 3, 4, 5, 6, 10] hX ?_ | refine a6 [0, 1, 3, 4, 5, 6, 10] hX mixed ?_ | refine aD ?_ | refine aA ?_ | refine aB ?_); (simp [go_sem]; try (refine ⟨by kernel_rfl, ?_⟩)))))
  refine aG (b := false) (by simp [go_sem]) (fun hb => by cases hb) (fun _ => ?_)
  (repeat (first | refine aC ?_ | refine a7 ?_ | ((first | refine a8 [0, 1, 3, 4, 5, 6, 10] hX ?_ | refine a6 [0, 1, 3, 4, 5, 6, 10] hX mixed ?_ | refine aD ?_ | refine aA ?_ | refine aB ?_); (simp [go_sem]; (try simp (disch := omega) only [w64, td, tm]); try (refine ⟨by kernel_rfl, ?_⟩)))))
  have e : rz z ↔ (dg (ab z)).length ≤ 60 := (aP 60).symm
  refine aG (b := decide (¬ rz z)) (by simp [go_sem, e]; try omega) (fun hb => ?_) (fun hb => ?_)
  · simp at hb
    (repeat (first | refine aC ?_ | refine a7 ?_ | ((first | refine a8 [0, 1, 3, 4, 5, 6, 10] hX ?_ | refine a6 [0, 1, 3, 4, 5, 6, 10] hX mixed ?_ | refine aD ?_ | refine aA ?_ | refine aB ?_); (simp [go_sem]; try (refine ⟨by kernel_rfl, ?_⟩)))))
    simp [hb]
    exact ⟨rfl, rfl⟩
  · simp at hb
    (repeat (first | refine aC ?_ | refine a7 ?_ | ((first | refine a8 [0, 1, 3, 4, 5, 6, 10] hX ?_ | refine a6 [0, 1, 3, 4, 5, 6, 10] hX mixed ?_ | refine aD ?_ | refine aA ?_ | refine aB ?_); (simp [go_sem]; try (refine ⟨by kernel_rfl, ?_⟩)))))
    simp [hb]
end Go.Proofs.YtebinaffldlihaaGreatDoor
