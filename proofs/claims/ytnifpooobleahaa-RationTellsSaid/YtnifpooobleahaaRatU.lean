/-
  Layer 39 in plain words: the quota.
-/
import Derived.Test.YtnifpooobleahaaRatT
set_option linter.all false
namespace Go.Proofs.Ytnifpooobleahaa

theorem prop_spec {C : List Int} {h : Int} (hok : okC' C = true) (hh : 0 ≤ h) (hs : ¬ sumL C ≤ h) :
    ∃ W : List Int, (prop C h).length = C.length ∧ sumL (prop C h) = h ∧ (∀ i (hi : i < C.length) (hi' : i < (prop C h).length), (prop C h)[i] = h * C[i] / sumL C + if (i : Int) ∈ W then 1 else 0) ∧
      (∀ i (hi : i < C.length), (i : Int) ∈ W → 0 < h * C[i] % sumL C) ∧
      (∀ i k (hi : i < C.length) (hk : k < C.length), (i : Int) ∈ W → (h * C[i] % sumL C < h * C[k] % sumL C ∨ (h * C[i] % sumL C = h * C[k] % sumL C ∧ k < i)) → (k : Int) ∈ W) := by
  have hs0 : 0 < sumL C := by omega
  have hlb := left_bd (h := h) hs0
  have e : prop C h = bumps (qF h (sumL C) C) ((srt (kR (rF h (sumL C) C)) (idxI C.length)).take (h - sumL (qF h (sumL C) C)).toNat) := if_neg hs
  rw [e]
  have hqr := qr_sum h (sumL C) C
  generalize sumL C = s at *
  obtain ⟨m, hm⟩ : ∃ m : Nat, (m : Int) = h - sumL (qF h s C) := ⟨(h - sumL (qF h s C)).toNat, by omega⟩
  rw [show (h - sumL (qF h s C)).toNat = m by omega]
  have hRl := rF_len h s C
  have hRb : ∀ r ∈ rF h s C, 0 ≤ r ∧ r < s := fun r hr => by
    simp only [rF, List.mem_map] at hr
    obtain ⟨c, _, rfl⟩ := hr
    exact ⟨Int.emod_nonneg _ (by omega), Int.emod_lt_of_pos _ hs0⟩
  have hsum : sumL (rF h s C) = s * m := by rw [hm, Int.mul_sub, Int.mul_comm s h]; omega
  have hkr : ∀ i (hi : i < C.length), kR (rF h s C) (i : Int) = h * C[i] % s := fun i hi => by
    unfold kR
    rw [Int.toNat_natCast, List.getD_eq_getElem?_getD, List.getElem?_eq_getElem (by rw [rF_len]; exact hi)]
    simp [rF]
  have hmp := fun x => more_pos (R := rF h s C) (m := m) hs0 hRb hsum (x := x)
  rw [hRl] at hmp
  have hp := srt_perm (kR (rF h s C)) (idxI C.length)
  have hso := srt_sorted (K := kR (rF h s C)) (idxI_nodup C.length)
  generalize srt (kR (rF h s C)) (idxI C.length) = O at *
  have hOm : ∀ x ∈ O, 0 ≤ x ∧ x < C.length := fun x hx => idxI_mem.1 (hp.mem_iff.1 hx)
  have hOn : O.Nodup := hp.nodup_iff.2 (idxI_nodup _)
  have hOl : O.length = C.length := by rw [hp.length_eq, idxI_len]
  refine ⟨O.take m, by rw [bumps_len, qF_len], ?_, ?_, ?_, ?_⟩
  · rw [bumps_sum _ _ fun x hx => by rw [qF_len]; exact hOm x (List.mem_of_mem_take hx), List.length_take]
    omega
  · intro i hi hi'
    rw [bumps_at _ _ i (by rw [qF_len]; exact hi) hi' (hOn.sublist (List.take_sublist _ _)) fun x hx => (hOm x (List.mem_of_mem_take hx)).1]
    simp [qF]
  · intro i hi hx
    have := hmp i hx
    rwa [hkr i hi] at this
  · intro i k hi hk hx hb
    have hkO : (k : Int) ∈ O := hp.mem_iff.2 (idxI_mem.2 ⟨by omega, by omega⟩)
    rw [← List.take_append_drop m O] at hkO
    rcases List.mem_append.1 hkO with h1 | h1
    · exact h1
    · exfalso
      rw [← List.take_append_drop m O, List.pairwise_append] at hso
      have := hso.2.2 _ hx _ h1
      unfold bef at this
      rw [hkr i hi, hkr k hk] at this
      omega
theorem quo_facts {h s c : Int} (hh : 0 ≤ h ∧ h < s) (hc : 0 ≤ c) : s * (h * c / s) + h * c % s = h * c ∧ 0 ≤ h * c % s ∧ h * c % s < s ∧ 0 ≤ h * c / s ∧ h * c ≤ s * c :=
  ⟨Int.mul_ediv_add_emod _ _, Int.emod_nonneg _ (by omega), Int.emod_lt_of_pos _ (by omega), Int.ediv_nonneg (Int.mul_nonneg hh.1 hc) (by omega), Int.mul_le_mul_of_nonneg_right (by omega) hc⟩
/-- A part is its quota, rounded up or down, and not more than was claimed. -/
theorem prop_in {C : List Int} {h : Int} (hok : okC' C = true) (hh : 0 ≤ h) (hs : ¬ sumL C ≤ h) {i : Nat} (hi : i < C.length) (hi' : i < (prop C h).length) :
    0 ≤ (prop C h)[i] ∧ (prop C h)[i] ≤ C[i] ∧ ((prop C h)[i] - 1) * sumL C < h * C[i] ∧ h * C[i] < ((prop C h)[i] + 1) * sumL C := by
  obtain ⟨W, _, _, h3, h4, _⟩ := prop_spec hok hh hs
  have hc := okC_mem hok (List.getElem_mem hi)
  have e := h3 i hi hi'
  have hw := h4 i hi
  obtain ⟨f1, f2, f3, f4, f5⟩ := quo_facts (h := h) (s := sumL C) (c := C[i]) ⟨hh, by omega⟩ hc.1
  rw [e]
  generalize h * C[i] % sumL C = r at *
  generalize hq : h * C[i] / sumL C = q at *
  generalize C[i] = c at *
  generalize sumL C = s at *
  have a1 : (q - 1) * s = s * q - s := by rw [Int.sub_mul, Int.mul_comm]; omega
  have a2 : (q + 1) * s = s * q + s := by rw [Int.add_mul, Int.mul_comm]; omega
  have a3 : (q + 1 + 1) * s = s * q + s + s := by rw [Int.add_mul, a2]; omega
  have hqc : r > 0 → q < c := fun hr => by
    rcases Int.lt_or_le q c with h | h
    · exact h
    · have := Int.mul_le_mul_of_nonneg_left h (show 0 ≤ s by omega); omega
  have hqc2 : q ≤ c := by
    rcases Int.lt_or_le c q with h | h
    · have := Int.mul_le_mul_of_nonneg_left (show c + 1 ≤ q by omega) (show 0 ≤ s by omega)
      rw [Int.mul_add] at this; omega
    · exact h
  split
  · rename_i hx
    have := hw hx
    have := hqc this
    rw [show q + 1 - 1 = q by omega, Int.mul_comm q s, a3]
    refine ⟨by omega, by omega, by omega, by omega⟩
  · rw [Int.add_zero, a1, a2]
    refine ⟨by omega, hqc2, by omega, by omega⟩
/-- A greater claim does not get less; of equal claims the earlier one does not get less. -/
theorem prop_mono {C : List Int} {h : Int} (hok : okC' C = true) (hh : 0 ≤ h) (hs : ¬ sumL C ≤ h) {i k : Nat} (hi : i < C.length) (hk : k < C.length) (hi' : i < (prop C h).length) (hk' : k < (prop C h).length) (hc : C[i] < C[k] ∨ (C[k] = C[i] ∧ k < i)) : (prop C h)[i] ≤ (prop C h)[k] := by
  obtain ⟨W, _, _, h3, h4, h5⟩ := prop_spec hok hh hs
  have e1 := h3 i hi hi'
  have e2 := h3 k hk hk'
  have w1 := h4 i hi
  have w2 := h5 i k hi hk
  have c1 := okC_mem hok (List.getElem_mem hi)
  have c2 := okC_mem hok (List.getElem_mem hk)
  obtain ⟨f1, f2, f3, f4, _⟩ := quo_facts (h := h) (s := sumL C) (c := C[i]) ⟨hh, by omega⟩ c1.1
  obtain ⟨g1, g2, g3, g4, _⟩ := quo_facts (h := h) (s := sumL C) (c := C[k]) ⟨hh, by omega⟩ c2.1
  rw [e1, e2]
  rcases hc with hc | ⟨hc, hki⟩
  · have m1 : h * C[i] + h ≤ h * C[k] := by
      have := Int.mul_le_mul_of_nonneg_left (show C[i] + 1 ≤ C[k] by omega) hh
      rw [Int.mul_add] at this; omega
    have hq : h * C[i] / sumL C ≤ h * C[k] / sumL C := Int.ediv_le_ediv (by omega) (by omega)
    by_cases hx : (i : Int) ∈ W
    · have hr := w1 hx
      rw [if_pos hx]
      rcases Int.lt_or_le (h * C[i] / sumL C) (h * C[k] / sumL C) with hl | hl
      · split <;> omega
      · have he : h * C[i] / sumL C = h * C[k] / sumL C := by omega
        rw [he] at f1
        have hh1 : 0 < h := by
          rcases Int.lt_or_le 0 h with h0 | h0
          · exact h0
          · have : h = 0 := by omega
            subst this; simp at hr
        rw [if_pos (w2 hx (.inl (by omega)))]; omega
    · rw [if_neg hx]; split <;> omega
  · have e3 : h * C[k] / sumL C = h * C[i] / sumL C := by rw [hc]
    have e4 : h * C[i] % sumL C = h * C[k] % sumL C := by rw [hc]
    rw [e3]
    by_cases hx : (i : Int) ∈ W
    · rw [if_pos hx, if_pos (w2 hx (.inr ⟨e4, hki⟩))]; omega
    · rw [if_neg hx]; split <;> omega

end Go.Proofs.Ytnifpooobleahaa
