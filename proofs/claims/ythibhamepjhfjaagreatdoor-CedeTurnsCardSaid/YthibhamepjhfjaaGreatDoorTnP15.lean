/-
  Lemmas for the statement at the top.
-/
import Derived.Test.YthibhamepjhfjaaGreatDoorTnP14
set_option linter.all false
namespace Go.Proofs.YthibhamepjhfjaaGreatDoor
open Go.RowKit Go.Ab
def q13x0 : List Nat := [0, 1, 4, 5, 6, 21, 25, 49, 53, 88]
def q13x1 : List Nat := [0, 1, 4, 5, 9, 13, 21]
def q13x2 : List Nat := [0, 1, 4, 5, 13, 21]
def q13x3 : List Nat := [0, 2, 3, 4, 8]
attribute [go_sem] q13x0 q13x1 q13x2 q13x3
attribute [local irreducible] AWP Go.Ab.Sub Means MeansH MeansX CallK CallG CallT CallGT CallU
def fewTo (S : List (List Int)) (i : Nat) : Prop := ∀ k, k < i → (S.getD k []).length ≤ 14
def fewP (own : List Int) (S : List (List Int)) : Prop := own.length ≤ 6 ∧ S.length ≤ 6 ∧ fewTo S S.length
noncomputable instance (own : List Int) (S : List (List Int)) : Decidable (fewP own S) := Classical.propDecidable _
theorem x3 {S : List (List Int)} {k : Nat} (h : k < S.length) : S.getD k [] = S[k] := by rw [List.getD_eq_getElem?_getD, List.getElem?_eq_getElem h]; rfl
set_option maxHeartbeats 4000000 in
theorem HT (own : List Int) (S : List (List Int)) : Means false Tryz.prog 8 [il own, ill S] (bb (decide (fewP own S))) := by
  refine aN false 30 [.tmp 4] Tryz.func8 rfl rfl rfl (by simp) (by decide) rfl fun X hX => ?_
  (repeat (first | refine aD ?_ | refine a8 ?_ | ((first | refine aA q13x2 hX ?_ | refine a7 q13x2 hX mixed ?_ | refine aE ?_ | refine aB ?_ | refine aC ?_); (simp [go_sem]; try (refine ⟨by kernel_rfl, ?_⟩)))))
  refine aQ (fun i : Nat => ⟨mkE [(0, il own), (1, ill S), (5, ii i)], []⟩) (fun i => i ≤ S.length ∧ i ≤ 7 ∧ fewTo S i) (fun i => 7 - i) 0 ?_ ?_ ?_
  · refine aI _ [] (by simp [go_sem]) ?_
    simp [go_sem]
  · exact ⟨by omega, by omega, fun k hk => by omega⟩
  · rintro i ⟨h1, h2, h3⟩
    have wi := w64 (x := (i : Int) + 1) (by omega) (by omega)
    (repeat (first | refine aD ?_ | refine a8 ?_ | ((first | refine aA q13x2 hX ?_ | refine a7 q13x2 hX mixed ?_ | refine aE ?_ | refine aB ?_ | refine aC ?_); (simp [go_sem]; try (refine ⟨by kernel_rfl, ?_⟩)))))
    refine aH (b := decide (i < S.length) && decide ((i : Int) < 7)) (by simp [go_sem]) (fun hb => ?_) (fun hb => ?_)
    · simp only [Bool.and_eq_true, decide_eq_true_eq] at hb
      obtain ⟨hb, h7⟩ := hb
      have q1 := eT (L := S) hb
      have hg := x3 hb
      (repeat (first | refine aD ?_ | refine a8 ?_ | ((first | refine aA q13x2 hX ?_ | refine a7 q13x2 hX mixed ?_ | refine aE ?_ | refine aB ?_ | refine aC ?_); (simp [go_sem, hb, q1]; try (refine ⟨by kernel_rfl, ?_⟩)))))
      refine aH (b := decide (14 < S[i].length)) (by simp [go_sem, hb, q1]; try omega) (fun hd => ?_) (fun hd => ?_)
      · simp only [decide_eq_true_eq] at hd
        have e : ¬ fewP own S := fun h => by
          have := h.2.2 i hb
          rw [hg] at this; omega
        (repeat (first | refine aD ?_ | refine a8 ?_ | ((first | refine aA q13x2 hX ?_ | refine a7 q13x2 hX mixed ?_ | refine aE ?_ | refine aB ?_ | refine aC ?_); (simp [go_sem, e]; try (refine ⟨by kernel_rfl, ?_⟩)))))
      · simp only [decide_eq_false_iff_not] at hd
        (repeat (first | refine aD ?_ | refine a8 ?_ | ((first | refine aA q13x2 hX ?_ | refine a7 q13x2 hX mixed ?_ | refine aE ?_ | refine aB ?_ | refine aC ?_); (simp [go_sem, wi]; try (refine ⟨by kernel_rfl, ?_⟩)))))
        refine ⟨i + 1, ⟨by omega, by omega, fun k hk => ?_⟩, by omega, ?_⟩
        · by_cases e : k = i
          · subst e; rw [hg]; omega
          · exact h3 k (by omega)
        · refine aI _ [] (by simp [go_sem]) ?_
          simp [go_sem]
    · simp only [Bool.and_eq_false_iff, decide_eq_false_iff_not] at hb
      (repeat (first | refine aD ?_ | refine a8 ?_ | ((first | refine aA q13x2 hX ?_ | refine a7 q13x2 hX mixed ?_ | refine aE ?_ | refine aB ?_ | refine aC ?_); (simp [go_sem]; try (refine ⟨by kernel_rfl, ?_⟩)))))
      have e : decide (fewP own S) = (decide ((own.length : Int) ≤ 6) && decide ((S.length : Int) ≤ 6)) := by
        rw [Bool.eq_iff_iff]
        simp only [Bool.and_eq_true, decide_eq_true_eq]
        constructor
        · rintro ⟨h4, h5, _⟩
          omega
        · rintro ⟨h4, h5⟩
          refine ⟨by omega, by omega, ?_⟩
          have : i = S.length := by omega
          rw [← this]; exact h3
      rw [e]
theorem BU (l : List Int) (hl : l.length ≤ 1000) (h : ∀ x ∈ l, 0 ≤ x ∧ x ≤ 1000) : Means false Tryz.prog 40 [il l] (ii (sumI l)) := by
  refine aN false 18 [.tmp 2] Tryz.func40 rfl rfl rfl (by simp) (by decide) rfl fun X hX => ?_
  (repeat (first | refine aD ?_ | refine a8 ?_ | ((first | refine aA q13x3 hX ?_ | refine a7 q13x3 hX mixed ?_ | refine aE ?_ | refine aB ?_ | refine aC ?_); (simp [go_sem]; try (refine ⟨by kernel_rfl, ?_⟩)))))
  refine aQ (fun k : Nat => ⟨mkE [(0, il l), (3, ii (sumI (l.take k))), (4, ii k)], []⟩) (fun k => k ≤ l.length) (fun k => l.length - k) 0 ?_ ?_ ?_
  · refine aI _ [] (by simp [go_sem]) ?_
    simp [go_sem, sumI]
  · omega
  · intro k hk
    (repeat (first | refine aD ?_ | refine a8 ?_ | ((first | refine aA q13x3 hX ?_ | refine a7 q13x3 hX mixed ?_ | refine aE ?_ | refine aB ?_ | refine aC ?_); (simp [go_sem]; try (refine ⟨by kernel_rfl, ?_⟩)))))
    refine aH (b := decide (k < l.length)) (by simp [go_sem]) (fun hb => ?_) (fun hb => ?_)
    · simp only [decide_eq_true_eq] at hb
      have q1 := cR hb
      have b1 := eA l k h
      have b2 := eA l (k + 1) h
      have e : sumI (l.take (k + 1)) = sumI (l.take k) + l[k] := by rw [List.take_succ_eq_append_getElem hb, kN]
      rw [e] at b2
      have w1 := w64 (x := sumI (l.take k) + l[k]) (by omega) (by omega)
      have w2 := w64 (x := (k : Int) + 1) (by omega) (by omega)
      (repeat (first | refine aD ?_ | refine a8 ?_ | ((first | refine aA q13x3 hX ?_ | refine a7 q13x3 hX mixed ?_ | refine aE ?_ | refine aB ?_ | refine aC ?_); (simp [go_sem, hb, q1, w1, w2]; try (refine ⟨by kernel_rfl, ?_⟩)))))
      refine ⟨k + 1, by omega, by omega, ?_⟩
      rw [e]
      refine aI _ [] (by simp [go_sem]) ?_
      simp [go_sem]
    · simp only [decide_eq_false_iff_not] at hb
      have hk2 : k = l.length := by omega
      subst hk2
      rw [List.take_length]
      (repeat (first | refine aD ?_ | refine a8 ?_ | ((first | refine aA q13x3 hX ?_ | refine a7 q13x3 hX mixed ?_ | refine aE ?_ | refine aB ?_ | refine aC ?_); (simp [go_sem]; try (refine ⟨by kernel_rfl, ?_⟩)))))
def cellOk (S : List (List Int)) (k j : Nat) : Prop := 0 ≤ sO S k j ∧ sO S k j ≤ 1000 ∧ (k = j → sO S k j = 0)
noncomputable instance (S : List (List Int)) (k j : Nat) : Decidable (cellOk S k j) := Classical.propDecidable _
def cellsTo (S : List (List Int)) (k j : Nat) : Prop := ∀ t, t < j → cellOk S k t
def rowsTo (own : List Int) (S : List (List Int)) (i : Nat) : Prop := ∀ k, k < i → rowOk own S k
theorem z8 {own : List Int} {S : List (List Int)} {k : Nat} (hk : k < own.length) : rowOk own S k ↔ (0 ≤ wO own k ∧ wO own k ≤ 1099511627776) ∧ (S.getD k []).length = own.length ∧ cellsTo S k own.length := by
  unfold rowOk cellsTo cellOk
  constructor
  · rintro ⟨h1, h2, h3, h4⟩
    refine ⟨h1, h2, fun t ht => ?_⟩
    have ht' : t < (S.getD k []).length := by omega
    have : sO S k t = (S.getD k [])[t] := by unfold sO; exact bT ht'
    have h5 := h3 _ (List.getElem_mem ht')
    rw [← this] at h5
    exact ⟨h5.1, h5.2, fun e => e ▸ h4⟩
  · rintro ⟨h1, h2, h3⟩
    refine ⟨h1, h2, fun x hx => ?_, (h3 k hk).2.2 rfl⟩
    obtain ⟨t, ht, rfl⟩ := List.getElem_of_mem hx
    have : sO S k t = (S.getD k [])[t] := by unfold sO; exact bT ht
    have := h3 t (by omega)
    omega
set_option maxHeartbeats 8000000 in
set_option maxRecDepth 20000 in
theorem BV (own : List Int) (S : List (List Int)) (hl : own.length ≤ 9223372036854775807) (hS : S.length ≤ 9223372036854775807) : Means false Tryz.prog 17 [il own, ill S] (bb (decide (PR own S))) := by
  by_cases h0 : 0 < own.length ∧ own.length ≤ 12 ∧ S.length = own.length
  · refine aN false 89 [.tmp 4] Tryz.func17 rfl rfl rfl (by simp) (by decide) rfl fun X hX => ?_
    (repeat (first | refine aD ?_ | refine a8 ?_ | ((first | refine aA q13x0 hX ?_ | refine a7 q13x0 hX mixed ?_ | refine aE ?_ | refine aB ?_ | refine aC ?_); (simp [go_sem]; try (refine ⟨by kernel_rfl, ?_⟩)))))
    refine aH (b := false) (by simp [go_sem, h0.2.2]; omega) (fun h => by cases h) (fun _ => ?_)
    (repeat (first | refine aD ?_ | refine a8 ?_ | ((first | refine aA q13x0 hX ?_ | refine a7 q13x0 hX mixed ?_ | refine aE ?_ | refine aB ?_ | refine aC ?_); (simp [go_sem]; try (refine ⟨by kernel_rfl, ?_⟩)))))
    refine aQ (fun k : Nat => ⟨mkE [(0, il own), (1, ill S), (5, ii k)], []⟩) (fun k => k ≤ own.length ∧ rowsTo own S k) (fun k => own.length - k) 0 ?_ ?_ ?_
    · refine aI _ [] (by simp [go_sem]) ?_
      simp [go_sem]
    · exact ⟨by omega, fun j hj => by omega⟩
    · rintro k ⟨hk, hp⟩
      have wk := w64 (x := (k : Int) + 1) (by omega) (by omega)
      (repeat (first | refine aD ?_ | refine a8 ?_ | ((first | refine aA q13x0 hX ?_ | refine a7 q13x0 hX mixed ?_ | refine aE ?_ | refine aB ?_ | refine aC ?_); (simp [go_sem]; try (refine ⟨by kernel_rfl, ?_⟩)))))
      refine aH (b := decide (k < own.length)) (by simp [go_sem]) (fun hb => ?_) (fun hb => ?_)
      · simp only [decide_eq_true_eq] at hb
        have hkS : k < S.length := by omega
        have q1 := cR hb
        have q2 := eT (L := S) hkS
        have hg := x3 hkS
        have hro := z8 (S := S) hb
        rw [hg, show wO own k = own[k] from bT hb] at hro
        (repeat (first | refine aD ?_ | refine a8 ?_ | ((first | refine aA q13x0 hX ?_ | refine a7 q13x0 hX mixed ?_ | refine aE ?_ | refine aB ?_ | refine aC ?_); (simp [go_sem, hb, hkS, q1, q2]; try (refine ⟨by kernel_rfl, ?_⟩)))))
        refine aH (b := decide (¬ ((0 ≤ own[k] ∧ own[k] ≤ 1099511627776) ∧ S[k].length = own.length))) (by simp [go_sem, hb, hkS, q1, q2]; try grind) (fun hd => ?_) (fun hd => ?_)
        · have e : ¬ PR own S := fun h => by
            have := ((hI own S).1 h).2 k hb
            have := hro.1 this
            simp [this.1, this.2.1] at hd
          (repeat (first | refine aD ?_ | refine a8 ?_ | ((first | refine aA q13x0 hX ?_ | refine a7 q13x0 hX mixed ?_ | refine aE ?_ | refine aB ?_ | refine aC ?_); (simp [go_sem, e]; try (refine ⟨by kernel_rfl, ?_⟩)))))
        · have hd : 0 ≤ own[k] ∧ own[k] ≤ 1099511627776 ∧ S[k].length = own.length := by simpa using hd
          (repeat (first | refine aD ?_ | refine a8 ?_ | ((first | refine aA q13x0 hX ?_ | refine a7 q13x0 hX mixed ?_ | refine aE ?_ | refine aB ?_ | refine aC ?_); (simp [go_sem]; try (refine ⟨by kernel_rfl, ?_⟩)))))
          refine aQ (fun j : Nat => ⟨mkE [(0, il own), (1, ill S), (5, ii k), (6, ii j)], []⟩) (fun j => j ≤ own.length ∧ cellsTo S k j) (fun j => own.length - j) 0 ?_ ?_ ?_
          · refine aI _ [] (by simp [go_sem]) ?_
            simp [go_sem]
          · exact ⟨by omega, fun j hj => by omega⟩
          · rintro j ⟨hj, hc⟩
            have wj := w64 (x := (j : Int) + 1) (by omega) (by omega)
            (repeat (first | refine aD ?_ | refine a8 ?_ | ((first | refine aA q13x0 hX ?_ | refine a7 q13x0 hX mixed ?_ | refine aE ?_ | refine aB ?_ | refine aC ?_); (simp [go_sem]; try (refine ⟨by kernel_rfl, ?_⟩)))))
            refine aH (b := decide (j < own.length)) (by simp [go_sem]) (fun hb2 => ?_) (fun hb2 => ?_)
            · simp only [decide_eq_true_eq] at hb2
              have hjS : j < S[k].length := by omega
              have q3 := cR hjS
              have hso : S[k][j] = sO S k j := by unfold sO; rw [hg]; exact (bT hjS).symm
              rw [hso] at q3
              have hco : cellOk S k j ↔ 0 ≤ sO S k j ∧ sO S k j ≤ 1000 ∧ (k = j → sO S k j = 0) := Iff.rfl
              generalize sO S k j = v at *
              (repeat (first | refine aD ?_ | refine a8 ?_ | ((first | refine aA q13x0 hX ?_ | refine a7 q13x0 hX mixed ?_ | refine aE ?_ | refine aB ?_ | refine aC ?_); (simp [go_sem, hb2, hkS, hjS, q2, q3]; try (refine ⟨by kernel_rfl, ?_⟩)))))
              refine ⟨fun h1 h2 h3 => ⟨⟨h1, h2⟩, h3⟩, ?_⟩
              refine aH (b := decide (v < 0) || decide (1000 < v) || decide ((k : Int) = (j : Int)) && !decide (v = 0)) (by simp [go_sem]) (fun hd2 => ?_) (fun hd2 => ?_)
              · simp only [Bool.or_eq_true, Bool.and_eq_true, Bool.not_eq_true', decide_eq_true_eq, decide_eq_false_iff_not] at hd2
                have e : ¬ PR own S := fun h => by
                  have := ((hI own S).1 h).2 k hb
                  have := hco.1 ((hro.1 this).2.2 j hb2)
                  omega
                (repeat (first | refine aD ?_ | refine a8 ?_ | ((first | refine aA q13x0 hX ?_ | refine a7 q13x0 hX mixed ?_ | refine aE ?_ | refine aB ?_ | refine aC ?_); (simp [go_sem, e]; try (refine ⟨by kernel_rfl, ?_⟩)))))
              · simp only [Bool.or_eq_false_iff, Bool.and_eq_false_iff, Bool.not_eq_false', decide_eq_true_eq, decide_eq_false_iff_not] at hd2
                have hd2 : cellOk S k j := hco.2 (by omega)
                (repeat (first | refine aD ?_ | refine a8 ?_ | ((first | refine aA q13x0 hX ?_ | refine a7 q13x0 hX mixed ?_ | refine aE ?_ | refine aB ?_ | refine aC ?_); (simp [go_sem, wj]; try (refine ⟨by kernel_rfl, ?_⟩)))))
                refine ⟨j + 1, ⟨by omega, fun t ht => ?_⟩, by omega, ?_⟩
                · by_cases e : t = j
                  · subst e; exact hd2
                  · exact hc t (by omega)
                · refine aI _ [] (by simp [go_sem]) ?_
                  simp [go_sem]
            · simp only [decide_eq_false_iff_not] at hb2
              have : j = own.length := by omega
              subst this
              (repeat (first | refine aD ?_ | refine a8 ?_ | ((first | refine aA q13x0 hX ?_ | refine a7 q13x0 hX mixed ?_ | refine aE ?_ | refine aB ?_ | refine aC ?_); (simp [go_sem, wk]; try (refine ⟨by kernel_rfl, ?_⟩)))))
              refine ⟨k + 1, ⟨by omega, fun t ht => ?_⟩, by omega, ?_⟩
              · by_cases e : t = k
                · subst e; exact hro.2 ⟨⟨hd.1, hd.2.1⟩, hd.2.2, hc⟩
                · exact hp t (by omega)
              · refine aI _ [] (by simp [go_sem]) ?_
                simp [go_sem]
      · simp only [decide_eq_false_iff_not] at hb
        have hk2 : k = own.length := by omega
        subst hk2
        have e : PR own S := (hI own S).2 ⟨h0, hp⟩
        (repeat (first | refine aD ?_ | refine a8 ?_ | ((first | refine aA q13x0 hX ?_ | refine a7 q13x0 hX mixed ?_ | refine aE ?_ | refine aB ?_ | refine aC ?_); (simp [go_sem, e]; try (refine ⟨by kernel_rfl, ?_⟩)))))
  · have e : ¬ PR own S := fun h => h0 ⟨h.pos, h.most, h.len⟩
    refine aN false 89 [.tmp 4] Tryz.func17 rfl rfl rfl (by simp) (by decide) rfl fun X hX => ?_
    (repeat (first | refine aD ?_ | refine a8 ?_ | ((first | refine aA q13x0 hX ?_ | refine a7 q13x0 hX mixed ?_ | refine aE ?_ | refine aB ?_ | refine aC ?_); (simp [go_sem]; try (refine ⟨by kernel_rfl, ?_⟩)))))
    refine aH (b := true) (by simp [go_sem]; omega) (fun _ => ?_) (fun h => by cases h)
    (repeat (first | refine aD ?_ | refine a8 ?_ | ((first | refine aA q13x0 hX ?_ | refine a7 q13x0 hX mixed ?_ | refine aE ?_ | refine aB ?_ | refine aC ?_); (simp [go_sem, e]; try (refine ⟨by kernel_rfl, ?_⟩)))))
theorem GT (own : List Int) (S : List (List Int)) (hl : own.length ≤ 9223372036854775807) (hS : S.length ≤ 9223372036854775807) : Means false Tryz.prog 20 [il own, ill S] (ii (badP own S)) := by
  have c1 := BV own S hl hS
  refine aN false 22 [.tmp 4] Tryz.func20 rfl rfl rfl (by simp) (by decide) rfl fun X hX => ?_
  (repeat (first | refine aD ?_ | refine a8 ?_ | ((first | refine aA q13x1 hX ?_ | refine a7 q13x1 hX mixed ?_ | refine aE ?_ | refine aB ?_ | refine aC ?_); (simp [go_sem]; try (refine ⟨by kernel_rfl, ?_⟩)))))
  first | refine aF (c1) rfl (by simp [go_sem]) rfl ?_ | refine aG (c1) rfl (by simp [go_sem]) rfl ?_
  try (simp [go_sem]; try (refine ⟨by kernel_rfl, ?_⟩))
  by_cases h : PR own S
  · refine aH (b := false) (by simp [go_sem, h]) (fun h => by cases h) (fun _ => ?_)
    (repeat (first | refine aD ?_ | refine a8 ?_ | ((first | refine aA q13x1 hX ?_ | refine a7 q13x1 hX mixed ?_ | refine aE ?_ | refine aB ?_ | refine aC ?_); (simp [go_sem]; try (refine ⟨by kernel_rfl, ?_⟩)))))
    refine aQ (fun k : Nat => ⟨mkE [(1, ill S), (5, ii k)], []⟩) (fun k => k ≤ S.length ∧ ∀ l ∈ S.take k, sumI l < 1000) (fun k => S.length - k) 0 ?_ ?_ ?_
    · refine aI _ [] (by simp [go_sem]) ?_
      simp [go_sem]
    · exact ⟨by omega, by simp⟩
    · rintro k ⟨hk, hp⟩
      have hsl := h.len
      have hmo := h.most
      have wk := w64 (x := (k : Int) + 1) (by omega) (by omega)
      (repeat (first | refine aD ?_ | refine a8 ?_ | ((first | refine aA q13x1 hX ?_ | refine a7 q13x1 hX mixed ?_ | refine aE ?_ | refine aB ?_ | refine aC ?_); (simp [go_sem]; try (refine ⟨by kernel_rfl, ?_⟩)))))
      refine aH (b := decide (k < S.length)) (by simp [go_sem]) (fun hb => ?_) (fun hb => ?_)
      · simp only [decide_eq_true_eq] at hb
        have q2 := eT (L := S) hb
        have hpr := dZ h (List.getElem_mem hb)
        have c2 := BU S[k] (by omega) hpr.2
        (repeat (first | refine aD ?_ | refine a8 ?_ | ((first | refine aA q13x1 hX ?_ | refine a7 q13x1 hX mixed ?_ | refine aE ?_ | refine aB ?_ | refine aC ?_); (simp [go_sem, hb, q2]; try (refine ⟨by kernel_rfl, ?_⟩)))))
        first | refine aF (c2) rfl (by simp [go_sem]) rfl ?_ | refine aG (c2) rfl (by simp [go_sem]) rfl ?_
        try (simp [go_sem]; try (refine ⟨by kernel_rfl, ?_⟩))
        refine aH (b := decide (1000 ≤ sumI S[k])) (by simp [go_sem]) (fun hd => ?_) (fun hd => ?_)
        · simp only [decide_eq_true_eq] at hd
          have e : badP own S = 23 := by
            unfold badP
            rw [if_pos h, if_neg fun hv => by have := hv.lt _ (List.getElem_mem hb); omega]
          (repeat (first | refine aD ?_ | refine a8 ?_ | ((first | refine aA q13x1 hX ?_ | refine a7 q13x1 hX mixed ?_ | refine aE ?_ | refine aB ?_ | refine aC ?_); (simp [go_sem, e]; try (refine ⟨by kernel_rfl, ?_⟩)))))
        · simp only [decide_eq_false_iff_not] at hd
          (repeat (first | refine aD ?_ | refine a8 ?_ | ((first | refine aA q13x1 hX ?_ | refine a7 q13x1 hX mixed ?_ | refine aE ?_ | refine aB ?_ | refine aC ?_); (simp [go_sem, wk]; try (refine ⟨by kernel_rfl, ?_⟩)))))
          refine ⟨k + 1, ⟨by omega, fun l hl => ?_⟩, by omega, ?_⟩
          · rw [List.take_succ_eq_append_getElem hb] at hl
            rcases List.mem_append.1 hl with hl | hl
            · exact hp l hl
            · simp at hl; subst hl; omega
          · refine aI _ [] (by simp [go_sem]) ?_
            simp [go_sem]
      · simp only [decide_eq_false_iff_not] at hb
        rw [List.take_of_length_le (by omega)] at hp
        have e : badP own S = 0 := by unfold badP; rw [if_pos h, if_pos ⟨h, hp⟩]
        (repeat (first | refine aD ?_ | refine a8 ?_ | ((first | refine aA q13x1 hX ?_ | refine a7 q13x1 hX mixed ?_ | refine aE ?_ | refine aB ?_ | refine aC ?_); (simp [go_sem, e]; try (refine ⟨by kernel_rfl, ?_⟩)))))
  · have e : badP own S = 1 := by unfold badP; rw [if_neg h]
    rw [e]
    refine aH (b := true) (by simp [go_sem, h]) (fun _ => ?_) (fun h => by cases h)
    (repeat (first | refine aD ?_ | refine a8 ?_ | ((first | refine aA q13x1 hX ?_ | refine a7 q13x1 hX mixed ?_ | refine aE ?_ | refine aB ?_ | refine aC ?_); (simp [go_sem]; try (refine ⟨by kernel_rfl, ?_⟩)))))
end Go.Proofs.YthibhamepjhfjaaGreatDoor

namespace Go.Proofs.YthibhamepjhfjaaGreatDoor
open Go.RowKit Go.Ab
theorem nZ (f : Nat → Rat) (c : Rat) (n : Nat) : sumR (fun k => c * f k) n = c * sumR f n := by
  have := cK f (fun _ => 0) c 0 n
  have e : (fun k => c * f k) = fun k => c * f k + 0 * 0 := by funext k; grind
  rw [e, this]; grind
variable {own : List Int} {S : List (List Int)}
theorem EE (h : PV own S) {t : Nat} (ht : t < own.length) : keptX own S t = allX own S t - sumR (fun i => allX own S t * (((sO S t i : Int) : Rat) / 1000)) own.length := by
  obtain ⟨l, hl, hS, hs⟩ := lS h.toPR ht
  have hg : S.getD t [] = l := by rw [List.getD_eq_getElem?_getD, hS]; rfl
  have e : sumR (fun i => allX own S t * (((sO S t i : Int) : Rat) / 1000)) own.length = allX own S t * (((sumI l : Int) : Rat) / 1000) := by
    rw [← hs]
    have e2 : (fun i => allX own S t * (((sO S t i : Int) : Rat) / 1000)) = fun i => (allX own S t / 1000) * ((sO S t i : Int) : Rat) := by funext i; grind
    rw [e2, nZ]; grind
  unfold keptX
  rw [e, hg, Rat.intCast_sub]
  have : ((1000 : Int) : Rat) = 1000 := rfl
  rw [this]; grind
end Go.Proofs.YthibhamepjhfjaaGreatDoor

namespace Go.Proofs.YthibhamepjhfjaaGreatDoor
open Go.RowKit Go.Ab
attribute [local irreducible] AWP Go.Ab.Sub Means MeansH MeansX CallK CallG CallT CallGT CallU
structure coinOk (f : Rat) (l : Int) : Prop where
  less : ((l - 1 : Int) : Rat) < f
  more : f < ((l + 1 : Int) : Rat)
  whole : ((fl f : Int) : Rat) = f → ((l : Int) : Rat) = f
  bd : 0 ≤ l ∧ l ≤ 9000000000000
  nn : 0 ≤ f
  top : f ≤ ((6597069766656 : Int) : Rat)
end Go.Proofs.YthibhamepjhfjaaGreatDoor

namespace Go.Proofs.YthibhamepjhfjaaGreatDoor
open Go.RowKit Go.Ab
attribute [local irreducible] AWP Go.Ab.Sub Means MeansH MeansX CallK CallG CallT CallGT CallU
variable {own : List Int} {S : List (List Int)}
end Go.Proofs.YthibhamepjhfjaaGreatDoor

namespace Go.Proofs.YthibhamepjhfjaaGreatDoor
open Go.RowKit Go.Ab
theorem vQ (f : Nat → Rat) : ∀ n, sumR (fun t => f ((t + 1) % n)) n = sumR f n
  | 0 => rfl
  | n + 1 => by
    have h1 : sumR (fun t => f ((t + 1) % (n + 1))) (n + 1) = sumR (fun t => f (t + 1)) n + f 0 := by
      simp only [sumR, Nat.mod_self]
      congr 1
      exact aS fun t ht => by rw [Nat.mod_eq_of_lt (by omega)]
    rw [h1, j7]; grind
theorem iL (f : Nat → Rat) (n : Nat) : ∀ b, sumR (fun t => f ((t + b) % n)) n = sumR f n
  | 0 => aS fun t ht => by rw [Nat.add_zero, Nat.mod_eq_of_lt ht]
  | b + 1 => by
    rw [← iL f n b, ← vQ (fun t => f ((t + b) % n)) n]
    refine aS fun t _ => ?_
    show f _ = f _
    rw [Nat.mod_add_mod, Nat.add_right_comm]; rfl
variable {own : List Int} {S : List (List Int)}
def turnO (own : List Int) (b : Nat) : List Int := (List.range own.length).map fun i => wO own ((i + b) % own.length)
def turnS (S : List (List Int)) (n b : Nat) : List (List Int) := (List.range n).map fun i => (List.range n).map fun j => sO S ((i + b) % n) ((j + b) % n)
theorem aZ (own : List Int) (b : Nat) : (turnO own b).length = own.length := by simp [turnO]
theorem iM (S : List (List Int)) (n b : Nat) : (turnS S n b).length = n := by simp [turnS]
theorem tV {b i : Nat} (h : i < own.length) : wO (turnO own b) i = wO own ((i + b) % own.length) := by
  unfold wO turnO
  simp [List.getD_eq_getElem?_getD, h, wO]
theorem pK {n b i : Nat} (h : i < n) : (turnS S n b).getD i [] = (List.range n).map fun j => sO S ((i + b) % n) ((j + b) % n) := by
  simp [turnS, List.getD_eq_getElem?_getD, h]
theorem hY {n b i j : Nat} (h : i < n) (h2 : j < n) : sO (turnS S n b) i j = sO S ((i + b) % n) ((j + b) % n) := by
  unfold sO
  rw [pK h]
  simp [List.getD_eq_getElem?_getD, h2, sO]
theorem BW (h : PR own S) {t : Nat} (ht : t < own.length) : ((sumI (S.getD t []) : Int) : Rat) = sumR (fun k => ((sO S t k : Int) : Rat)) own.length := by
  obtain ⟨l, _, hS, hs⟩ := lS h ht
  rw [hs, List.getD_eq_getElem?_getD, hS]; rfl
theorem BX {o : List Int} {s : List (List Int)} (h0 : 0 < o.length) (h1 : o.length ≤ 12) (h2 : s.length = o.length) (h3 : ∀ k, k < o.length → 0 ≤ wO o k ∧ wO o k ≤ 1099511627776) (h4 : ∀ k, k < o.length → (s.getD k []).length = o.length) (h5 : ∀ i j, i < o.length → j < o.length → 0 ≤ sO s i j ∧ sO s i j ≤ 1000) (h6 : ∀ i, i < o.length → sO s i i = 0) : PR o s :=
  ⟨h0, h1, h2, h3, fun l hl => by
    obtain ⟨k, hk, rfl⟩ := List.getElem_of_mem hl
    have := h4 k (by omega)
    rwa [List.getD_eq_getElem?_getD, List.getElem?_eq_getElem hk] at this, h5, h6⟩
theorem BY {o : List Int} {s : List (List Int)} (h : PR o s) (hs : ∀ k, k < o.length → sumR (fun j => ((sO s k j : Int) : Rat)) o.length < 1000) : PV o s :=
  ⟨h, fun l hl => by
    obtain ⟨k, hk, rfl⟩ := List.getElem_of_mem hl
    have hko : k < o.length := by rw [← h.len]; exact hk
    have h1 := hs k hko
    rw [← BW h hko] at h1
    have h2 : ((sumI (s.getD k []) : Int) : Rat) < ((1000 : Int) : Rat) := h1
    have h3 := Rat.intCast_lt_intCast.1 h2
    rwa [List.getD_eq_getElem?_getD, List.getElem?_eq_getElem hk] at h3⟩
theorem BZ (h : PV own S) {k : Nat} (hk : k < own.length) : sumR (fun j => ((sO S k j : Int) : Rat)) own.length < 1000 := by
  obtain ⟨l, hl, _, hs⟩ := lS h.toPR hk
  rw [hs]
  have := h.lt l hl
  have : ((sumI l : Int) : Rat) < ((1000 : Int) : Rat) := Rat.intCast_lt_intCast.2 this
  exact this
theorem r7 (h : PV own S) (b : Nat) : PV (turnO own b) (turnS S own.length b) := by
  have hn := h.pos
  have hm : ∀ i, (i + b) % own.length < own.length := fun i => Nat.mod_lt _ hn
  refine BY (BX ?_ ?_ ?_ ?_ ?_ ?_ ?_) fun k hk => ?_
  · rw [aZ]; exact hn
  · rw [aZ]; exact h.most
  · rw [aZ, iM]
  · intro k hk
    rw [aZ] at hk
    rw [tV hk]; exact h.w _ (hm k)
  · intro k hk
    rw [aZ] at hk ⊢
    rw [pK hk]; simp
  · intro i j hi hj
    rw [aZ] at hi hj
    rw [hY hi hj]; exact h.s _ _ (hm i) (hm j)
  · intro i hi
    rw [aZ] at hi
    rw [hY hi hi]; exact h.d _ (hm i)
  · rw [aZ] at hk ⊢
    have e : sumR (fun j => ((sO (turnS S own.length b) k j : Int) : Rat)) own.length = sumR (fun j => ((sO S ((k + b) % own.length) ((j + b) % own.length) : Int) : Rat)) own.length := aS fun j hj => by rw [hY hk hj]
    rw [e, iL (fun j => ((sO S ((k + b) % own.length) j : Int) : Rat))]
    exact BZ h (hm k)
theorem tW (h : PV own S) (b : Nat) {i : Nat} (hi : i < own.length) : allX (turnO own b) (turnS S own.length b) i = allX own S ((i + b) % own.length) := by
  have hm : ∀ i, (i + b) % own.length < own.length := fun i => Nat.mod_lt _ h.pos
  refine (jJ (r7 h b) (x := fun t => allX own S ((t + b) % own.length)) (fun k hk => ?_) (by rw [aZ]; exact hi)).symm
  rw [aZ] at hk ⊢
  show allX own S ((k + b) % own.length) = _
  rw [qC h (hm k), tV hk]
  congr 1
  rw [← iL (fun t => allX own S t * (((sO S t ((k + b) % own.length) : Int) : Rat) / 1000)) own.length b]
  exact aS fun t ht => by rw [hY ht hk]
theorem dW (h : PV own S) {t : Nat} (ht : t < own.length) : keptX own S t = allX own S t * (1 - sumR (fun i => ((sO S t i : Int) : Rat)) own.length / 1000) := by
  rw [EE h ht]
  have e2 : (fun i => allX own S t * (((sO S t i : Int) : Rat) / 1000)) = fun i => (allX own S t / 1000) * ((sO S t i : Int) : Rat) := by funext i; grind
  rw [e2, nZ]; grind
theorem zA (h : PV own S) (b : Nat) {i : Nat} (hi : i < own.length) : keptX (turnO own b) (turnS S own.length b) i = keptX own S ((i + b) % own.length) := by
  have hm : ∀ i, (i + b) % own.length < own.length := fun i => Nat.mod_lt _ h.pos
  rw [dW (r7 h b) (by rw [aZ]; exact hi), dW h (hm i), tW h b hi, aZ]
  congr 3
  rw [← iL (fun j => ((sO S ((i + b) % own.length) j : Int) : Rat)) own.length b]
  exact aS fun j hj => by rw [hY hi hj]
def zeroS (n : Nat) : List (List Int) := (List.range n).map fun _ => List.replicate n 0
theorem tX (n j : Nat) : (List.replicate n (0 : Int)).getD j 0 = 0 := by
  rw [List.getD_eq_getElem?_getD]
  by_cases h : j < n
  · simp [h]
  · rw [List.getElem?_eq_none (by simpa using h)]; rfl
theorem pL {n i : Nat} (h : i < n) : (zeroS n).getD i [] = List.replicate n 0 := by simp [zeroS, List.getD_eq_getElem?_getD, h]
theorem i6 {n i : Nat} (h : i < n) (j : Nat) : sO (zeroS n) i j = 0 := by unfold sO; rw [pL h, tX]
theorem r8 (h : PV own S) : PV own (zeroS own.length) := by
  refine BY (BX h.pos h.most (by simp [zeroS]) h.w (fun k hk => by rw [pL hk]; simp) (fun i j hi hj => by rw [i6 hi]; decide) (fun i hi => i6 hi i)) fun k hk => ?_
  have e : sumR (fun j => ((sO (zeroS own.length) k j : Int) : Rat)) own.length = 0 := dJ fun j _ => by rw [i6 hk]; rfl
  rw [e]; decide
theorem C0 (h : PV own S) {i : Nat} (hi : i < own.length) : allX own (zeroS own.length) i = ((wO own i : Int) : Rat) := by
  refine (jJ (r8 h) (x := fun t => ((wO own t : Int) : Rat)) (fun k hk => ?_) hi).symm
  have e : sumR (fun t => ((wO own t : Int) : Rat) * (((sO (zeroS own.length) t k : Int) : Rat) / 1000)) own.length = 0 := dJ fun t ht => by
    rw [i6 ht]
    have : ((0 : Int) : Rat) = 0 := rfl
    rw [this]; grind
  rw [e]; grind
theorem zB (h : PV own S) {i : Nat} (hi : i < own.length) : keptX own (zeroS own.length) i = ((wO own i : Int) : Rat) := by
  rw [dW (r8 h) hi, C0 h hi]
  have e : sumR (fun j => ((sO (zeroS own.length) i j : Int) : Rat)) own.length = 0 := dJ fun j _ => by rw [i6 hi]; rfl
  rw [e]; grind
def growO (own : List Int) (f : Int) : List Int := own.map (· * f)
theorem c5 (own : List Int) (f : Int) : (growO own f).length = own.length := by simp [growO]
theorem C1 {f : Int} {k : Nat} (h : k < own.length) : wO (growO own f) k = wO own k * f := by
  unfold wO growO
  simp [List.getD_eq_getElem?_getD, h]
theorem x4 {f : Int} (h : PV own S) (hr : PR (growO own f) S) : PV (growO own f) S := ⟨hr, h.lt⟩
theorem tY {f : Int} (h : PV own S) (hr : PR (growO own f) S) {i : Nat} (hi : i < own.length) : allX (growO own f) S i = allX own S i * ((f : Int) : Rat) := by
  refine (jJ (x4 h hr) (x := fun t => allX own S t * ((f : Int) : Rat)) (fun k hk => ?_) (by rw [c5]; exact hi)).symm
  rw [c5] at hk ⊢
  show allX own S k * ((f : Int) : Rat) = _
  rw [C1 hk, Rat.intCast_mul]
  have e : sumR (fun t => allX own S t * ((f : Int) : Rat) * (((sO S t k : Int) : Rat) / 1000)) own.length = ((f : Int) : Rat) * sumR (fun t => allX own S t * (((sO S t k : Int) : Rat) / 1000)) own.length := by
    rw [← nZ]
    exact aS fun t _ => by grind
  rw [e]
  have := qC h hk
  rw [this]; grind
theorem zC {f : Int} (h : PV own S) (hr : PR (growO own f) S) {i : Nat} (hi : i < own.length) : keptX (growO own f) S i = keptX own S i * ((f : Int) : Rat) := by
  unfold keptX
  rw [tY h hr hi]; grind
def moreS (S : List (List Int)) (n : Nat) : List (List Int) := S.map (· ++ [0]) ++ [List.replicate (n + 1) 0]
theorem tZ {k : Nat} (h : k < own.length) : wO (own ++ [0]) k = wO own k := by
  unfold wO; simp [List.getD_eq_getElem?_getD, List.getElem?_append_left h]
theorem j3 : wO (own ++ [0]) own.length = 0 := by
  unfold wO; simp [List.getD_eq_getElem?_getD]
theorem o3 (h : PR own S) {i : Nat} (hi : i < own.length) : (moreS S own.length).getD i [] = S.getD i [] ++ [0] := by
  have : i < S.length := by rw [h.len]; exact hi
  unfold moreS
  rw [List.getD_eq_getElem?_getD, List.getElem?_append_left (by simpa using this)]
  simp [List.getD_eq_getElem?_getD, this]
theorem j4 (h : PR own S) : (moreS S own.length).getD own.length [] = List.replicate (own.length + 1) 0 := by
  unfold moreS
  rw [List.getD_eq_getElem?_getD, List.getElem?_append_right (by rw [List.length_map, h.len]; omega)]
  simp [h.len]
theorem mC (h : PR own S) {i : Nat} (hi : i < own.length) : (S.getD i []).length = own.length := by
  have hS : i < S.length := by rw [h.len]; exact hi
  rw [List.getD_eq_getElem?_getD, List.getElem?_eq_getElem hS]
  exact h.row _ (List.getElem_mem hS)
theorem kC (h : PR own S) {i j : Nat} (hi : i < own.length) (hj : j < own.length) : sO (moreS S own.length) i j = sO S i j := by
  unfold sO
  rw [o3 h hi, List.getD_eq_getElem?_getD, List.getElem?_append_left (by rw [mC h hi]; exact hj), ← List.getD_eq_getElem?_getD]
theorem i7 (h : PR own S) {i : Nat} (hi : i < own.length) : sO (moreS S own.length) i own.length = 0 := by
  unfold sO
  rw [o3 h hi, List.getD_eq_getElem?_getD, List.getElem?_append_right (by rw [mC h hi]; omega), mC h hi, Nat.sub_self]; rfl
theorem fJ (h : PR own S) (j : Nat) : sO (moreS S own.length) own.length j = 0 := by
  unfold sO
  rw [j4 h, tX]
theorem bM (own : List Int) : (own ++ [0]).length = own.length + 1 := by simp
theorem pM (h : PR own S) : (moreS S own.length).length = own.length + 1 := by simp [moreS, h.len]
theorem fB {k n : Nat} (h : k < n + 1) : k < n ∨ k = n := by omega
theorem kD (h : PV own S) (h6 : own.length ≤ 6) : PV (own ++ [0]) (moreS S own.length) := by
  have hr := h.toPR
  refine BY (BX (by simp) (by rw [bM]; omega) (by rw [pM hr, bM]) (fun k hk => ?_) (fun k hk => ?_) (fun i j hi hj => ?_) (fun i hi => ?_)) fun k hk => ?_
  · rw [bM] at hk
    rcases fB hk with hk | rfl
    · rw [tZ hk]; exact h.w k hk
    · rw [j3]; decide
  · rw [bM] at hk ⊢
    rcases fB hk with hk | rfl
    · rw [o3 hr hk, List.length_append, mC hr hk]; rfl
    · rw [j4 hr]; simp
  · rw [bM] at hi hj
    rcases fB hi with hi | rfl
    · rcases fB hj with hj | rfl
      · rw [kC hr hi hj]; exact h.s i j hi hj
      · rw [i7 hr hi]; decide
    · rw [fJ hr]; decide
  · rw [bM] at hi
    rcases fB hi with hi | rfl
    · rw [kC hr hi hi]; exact h.d i hi
    · exact fJ hr _
  · rw [bM] at hk ⊢
    simp only [sumR]
    rcases fB hk with hk | rfl
    · rw [i7 hr hk]
      have e : sumR (fun j => ((sO (moreS S own.length) k j : Int) : Rat)) own.length = sumR (fun j => ((sO S k j : Int) : Rat)) own.length := aS fun j hj => by rw [kC hr hk hj]
      have := BZ h hk
      have h0 : ((0 : Int) : Rat) = 0 := rfl
      rw [e, h0]; grind
    · have e : sumR (fun j => ((sO (moreS S own.length) own.length j : Int) : Rat)) own.length = 0 := dJ fun j _ => by rw [fJ hr]; rfl
      rw [e, fJ hr]; decide +kernel
theorem u6 (h : PV own S) (h6 : own.length ≤ 6) {i : Nat} (hi : i < own.length + 1) : allX (own ++ [0]) (moreS S own.length) i = if i < own.length then allX own S i else 0 := by
  have hr := h.toPR
  refine (jJ (kD h h6) (x := fun t => if t < own.length then allX own S t else 0) (fun k hk => ?_) (by rw [bM]; exact hi)).symm
  rw [bM] at hk ⊢
  have h0 : ((0 : Int) : Rat) = 0 := rfl
  show (if k < own.length then allX own S k else 0) = _
  simp only [sumR, Nat.lt_irrefl, if_false]
  rcases fB hk with hk | rfl
  · rw [if_pos hk, tZ hk, qC h hk]
    have e : sumR (fun t => (if t < own.length then allX own S t else 0) * (((sO (moreS S own.length) t k : Int) : Rat) / 1000)) own.length = sumR (fun t => allX own S t * (((sO S t k : Int) : Rat) / 1000)) own.length := aS fun t ht => by rw [if_pos ht, kC hr ht hk]
    rw [e]; grind
  · rw [if_neg (by omega), j3]
    have e : sumR (fun t => (if t < own.length then allX own S t else 0) * (((sO (moreS S own.length) t own.length : Int) : Rat) / 1000)) own.length = 0 := dJ fun t ht => by
      rw [i7 hr ht, h0]; grind
    rw [e, h0]; grind
theorem zD (h : PV own S) (h6 : own.length ≤ 6) {i : Nat} (hi : i < own.length + 1) : keptX (own ++ [0]) (moreS S own.length) i = if i < own.length then keptX own S i else 0 := by
  have hr := h.toPR
  have h0 : ((0 : Int) : Rat) = 0 := rfl
  rw [dW (kD h h6) (by rw [bM]; exact hi), u6 h h6 hi, bM]
  rcases fB hi with hi | rfl
  · rw [if_pos hi, if_pos hi, dW h hi]
    simp only [sumR]
    rw [i7 hr hi, h0]
    have e : sumR (fun j => ((sO (moreS S own.length) i j : Int) : Rat)) own.length = sumR (fun j => ((sO S i j : Int) : Rat)) own.length := aS fun j hj => by rw [kC hr hi hj]
    rw [e]; grind
  · rw [if_neg (by omega), if_neg (by omega)]; grind
theorem C2 (h : PV own S) (h6 : own.length ≤ 6) : Fit (poolM (own ++ [0]) (moreS S own.length)) (own ++ [0]).length := by
  have hm := kD h h6
  have hr := h.toPR
  refine AR (gK hm) (sB hm.toPR) ?_
  rw [bM]
  by_cases h5 : own.length = 6
  · refine .inr ⟨by omega, fun k hk => ?_, fun t ht => ?_⟩
    · have := iC (own := own ++ [0]) (S := moreS S own.length) (k := k) (t := 6) (by rw [bM]; omega)
      rw [this, if_neg (by omega)]
      have e := fJ hr k
      rw [h5] at e ⊢
      rw [e]; rfl
    · have := iC (own := own ++ [0]) (S := moreS S own.length) (k := 6) (t := t) (by rw [bM]; omega)
      rw [this, if_neg (by omega)]
      have e := i7 hr (i := t) (by omega)
      rw [h5] at e ⊢
      rw [e]; rfl
  · exact .inl (by omega)
end Go.Proofs.YthibhamepjhfjaaGreatDoor

