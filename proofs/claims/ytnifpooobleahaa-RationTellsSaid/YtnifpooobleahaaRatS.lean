/-
  Layer 39 in plain words: what sharing by a level gives.
-/
import Derived.Test.YtnifpooobleahaaRatP
set_option linter.all false
namespace Go.Proofs.Ytnifpooobleahaa

theorem lv_ex' {C : List Int} {h : Int} (hok : okC' C = true) (hh : 0 ≤ h) : ∀ n : Nat, h < fill C n → ∃ l, isLv C h l
  | 0, hn => by rw [Int.natCast_zero, fill_zero hok] at hn; omega
  | n + 1, hn => by
    by_cases h1 : h < fill C n
    · exact lv_ex' hok hh n h1
    · exact ⟨n, ⟨by omega, by omega, by simpa using hn⟩⟩
theorem lv_ex {C : List Int} {h : Int} (hok : okC' C = true) (hh : 0 ≤ h) (hs : ¬ sumL C ≤ h) : ∃ l, isLv C h l := by
  refine lv_ex' hok hh 1099511627776 ?_
  rw [fill_top fun c hc => by have := okC_mem hok hc; omega]; omega
theorem share_cases {C : List Int} {h : Int} (hok : okC' C = true) (hh : 0 ≤ h) : (sumL C ≤ h ∧ share C h = C) ∨ (¬ sumL C ≤ h ∧ ∃ l, isLv C h l ∧ share C h = shr l (h - fill C l) C) := by
  by_cases hs : sumL C ≤ h
  · exact .inl ⟨hs, if_pos hs⟩
  · obtain ⟨l, hl⟩ := lv_ex hok hh hs
    exact .inr ⟨hs, l, hl, by rw [share, if_neg hs, lvl_eq hl]⟩
theorem share_len {C : List Int} {h : Int} (hok : okC' C = true) (hh : 0 ≤ h) : (share C h).length = C.length := by
  rcases share_cases hok hh with ⟨_, e⟩ | ⟨_, l, _, e⟩
  · rw [e]
  · rw [e, shr_len]
theorem share_sum {C : List Int} {h : Int} (hok : okC' C = true) (hh : 0 ≤ h) : sumL (share C h) = min h (sumL C) := by
  rcases share_cases hok hh with ⟨hs, e⟩ | ⟨hs, l, hl, e⟩
  · rw [e]; omega
  · have := isLv_left hl
    rw [e, shr_sum l C _ this.1 (by omega)]; omega
theorem shr_at (l : Int) : ∀ (C : List Int) (q : Int) (i : Nat) (h : i < C.length) (h' : i < (shr l q C).length), (shr l q C)[i] = share1 l (leftA l q (C.take i)) C[i]
  | c :: C, q, 0, _, _ => by
    simp only [shr, List.take_zero, leftA, share1, List.getElem_cons_zero]
    split <;> rfl
  | c :: C, q, i + 1, h, h' => by
    have h2 : i < C.length := by simpa using h
    simp only [List.take_succ_cons, leftA, List.getElem_cons_succ]
    by_cases hc : l < c ∧ 0 < q
    · have e : shr l q (c :: C) = (l + 1) :: shr l (q - 1) C := by rw [shr, if_pos hc]
      rw [if_pos hc]
      simp only [e, List.getElem_cons_succ]
      exact shr_at l C (q - 1) i h2 (by rw [shr_len]; exact h2)
    · have e : shr l q (c :: C) = min c l :: shr l q C := by rw [shr, if_neg hc]
      rw [if_neg hc]
      simp only [e, List.getElem_cons_succ]
      exact shr_at l C q i h2 (by rw [shr_len]; exact h2)
theorem leftA_le (l : Int) {C : List Int} {q : Int} (hq : 0 ≤ q) {i k : Nat} (hik : i ≤ k) : leftA l q (C.take k) ≤ leftA l q (C.take i) := by
  have e : C.take k = C.take i ++ (C.take k).drop i := by
    conv => lhs; rw [← List.take_append_drop i (C.take k)]
    rw [List.take_take, Nat.min_eq_left hik]
  rw [e, leftA_app]
  exact (leftA_bd l _ _ (leftA_bd l _ _ hq).1).2
/-- Nobody gets less than 0, or more than was claimed. -/
theorem share_in {C : List Int} {h : Int} (hok : okC' C = true) (hh : 0 ≤ h) {i : Nat} (hi : i < C.length) (hi' : i < (share C h).length) : 0 ≤ (share C h)[i] ∧ (share C h)[i] ≤ C[i] := by
  have hc := okC_mem hok (List.getElem_mem hi)
  rcases share_cases hok hh with ⟨hs, e⟩ | ⟨hs, l, hl, e⟩
  · simp only [e]; omega
  · have h0 := hl.low
    simp only [e]
    rw [shr_at l C _ i hi]
    unfold share1; split <;> omega
/-- Whoever gets less than was claimed. -/
theorem share_fair {C : List Int} {h : Int} (hok : okC' C = true) (hh : 0 ≤ h) {i k : Nat} (hi : i < C.length) (hk : k < C.length) (hi' : i < (share C h).length) (hk' : k < (share C h).length) :
    ¬ ((share C h)[i] < C[i] ∧ ((share C h)[i] + 1 < (share C h)[k] ∨ (i < k ∧ (share C h)[k] < C[k] ∧ (share C h)[i] < (share C h)[k]))) := by
  rcases share_cases hok hh with ⟨hs, e⟩ | ⟨hs, l, hl, e⟩
  · simp only [e]; omega
  · have hq := (isLv_left hl).1
    have h0 := hl.low
    simp only [e]
    rw [shr_at l C _ i hi, shr_at l C _ k hk]
    generalize h - fill C l = q at hq
    have hm : i < k → leftA l q (C.take k) ≤ leftA l q (C.take i) := fun hik => leftA_le l hq (by omega)
    generalize leftA l q (C.take k) = a at hm
    generalize leftA l q (C.take i) = b at hm
    unfold share1
    split <;> split <;> omega

theorem leftA_more (l : Int) : ∀ (C : List Int) (q : Int), 0 ≤ q → 0 < leftA l q C → 0 < leftA l (q + 1) C
  | [], q, h0, h => by simp only [leftA] at *; omega
  | c :: C, q, h0, h => by
    unfold leftA at h ⊢
    by_cases hc : l < c
    · by_cases hq : 0 < q
      · rw [if_pos ⟨hc, hq⟩] at h
        rw [if_pos ⟨hc, by omega⟩]
        have := leftA_more l C (q - 1) (by omega) h
        rwa [show q + 1 - 1 = q - 1 + 1 by omega]
      · have : q = 0 := by omega
        subst this
        rw [if_neg (by omega)] at h
        have := leftA_bd l C 0 (by omega)
        omega
    · rw [if_neg (by omega)] at h ⊢
      exact leftA_more l C q h0 h
theorem shr_full (l : Int) : ∀ C : List Int, shr l (cntG C l) C = C.map fun c => min c (l + 1)
  | [] => rfl
  | c :: C => by
    have e : (cntG (c :: C) l : Int) = cntG C l + if l < c then 1 else 0 := by
      unfold cntG; rw [List.countP_cons]; by_cases h : l < c <;> simp [h]
    rw [e]
    by_cases h : l < c
    · rw [if_pos h, shr, if_pos ⟨h, by omega⟩, show (cntG C l : Int) + 1 - 1 = cntG C l by omega, shr_full l C, List.map_cons, show min c (l + 1) = l + 1 by omega]
    · rw [if_neg h, shr, if_neg (by omega), show (cntG C l : Int) + 0 = cntG C l by omega, shr_full l C, List.map_cons, show min c (l + 1) = min c l by omega]
theorem shr_none (l : Int) : ∀ C : List Int, shr l 0 C = C.map fun c => min c l
  | [] => rfl
  | c :: C => by rw [shr, if_neg (by omega), shr_none l C]; rfl
theorem fill_le (l : Int) : ∀ C : List Int, fill C l ≤ sumL C
  | [] => Int.le_refl _
  | c :: C => by have := fill_le l C; rw [fill_cons, sumL_cons]; omega
theorem fill_all {l : Int} : ∀ {C : List Int}, fill C l = sumL C → (C.map fun c => min c l) = C
  | [], _ => rfl
  | c :: C, h => by
    have h1 := fill_le l C
    rw [fill_cons, sumL_cons] at h
    rw [List.map_cons, fill_all (C := C) (by omega), show min c l = c by omega]
theorem cntG_zero {C : List Int} {l : Int} (h : cntG C l = 0) : ∀ c ∈ C, c ≤ l := by
  intro c hc
  unfold cntG at h
  rw [List.countP_eq_zero] at h
  have := h c hc
  simp at this; omega
/-- With one coin more. -/
theorem share_more {C : List Int} {h l : Int} (hs : ¬ sumL C ≤ h) (hl : isLv C h l) : share C (h + 1) = shr l (h - fill C l + 1) C := by
  have h1 := isLv_left hl
  have h2 := fill_step C l
  have h3 := fill_le (l + 1) C
  have h0 := hl.low
  by_cases hq : h - fill C l + 1 < cntG C l
  · have hl2 : isLv C (h + 1) l := ⟨hl.low, by omega, by omega⟩
    rw [share, if_neg (by omega), lvl_eq hl2, show h + 1 - fill C l = h - fill C l + 1 by omega]
  · have e : h - fill C l + 1 = cntG C l := by omega
    rw [e, shr_full]
    by_cases hs2 : sumL C ≤ h + 1
    · rw [share, if_pos hs2, fill_all (by omega)]
    · have h4 := fill_step C (l + 1)
      have hc : cntG C (l + 1) ≠ 0 := fun hz => by
        have := fill_top (cntG_zero hz)
        omega
      have hl2 : isLv C (h + 1) (l + 1) := ⟨by omega, by omega, by omega⟩
      rw [share, if_neg hs2, lvl_eq hl2, show h + 1 - fill C (l + 1) = 0 by omega, shr_none]
theorem share_step {C : List Int} {h : Int} (hok : okC' C = true) (hh : 0 ≤ h) {i : Nat} (hi : i < C.length) (hi' : i < (share C h).length) (hi2 : i < (share C (h + 1)).length) :
    (share C h)[i] ≤ (share C (h + 1))[i] ∧ (share C (h + 1))[i] ≤ (share C h)[i] + 1 := by
  rcases share_cases hok hh with ⟨hs, e⟩ | ⟨hs, l, hl, e⟩
  · have e2 : share C (h + 1) = C := if_pos (by omega)
    simp only [e, e2]; omega
  · have e2 := share_more hs hl
    have hq := (isLv_left hl).1
    simp only [e, e2]
    rw [shr_at l C _ i hi, shr_at l C _ i hi]
    have := leftA_more l (C.take i) _ hq
    generalize leftA l (h - fill C l) (C.take i) = a at this
    generalize leftA l (h - fill C l + 1) (C.take i) = b at this
    unfold share1
    split <;> split <;> omega
theorem okC_rev {C : List Int} (h : okC' C = true) : okC' C.reverse = true := by unfold okC' at *; rw [List.all_reverse]; exact h
/-- In the opposite order. -/
theorem share_rev {C : List Int} {h : Int} (hok : okC' C = true) (hh : 0 ≤ h) {i : Nat} (hi : i < C.length) (hi' : i < (share C h).length) (hi2 : C.length - 1 - i < (share C.reverse h).length) :
    -1 ≤ (share C.reverse h)[C.length - 1 - i] - (share C h)[i] ∧ (share C.reverse h)[C.length - 1 - i] - (share C h)[i] ≤ 1 := by
  have hr : ∀ hx : C.length - 1 - i < C.reverse.length, C.reverse[C.length - 1 - i] = C[i] := fun hx => by
    rw [List.getElem_reverse]; congr 1; omega
  rcases share_cases hok hh with ⟨hs, e⟩ | ⟨hs, l, hl, e⟩
  · have e2 : share C.reverse h = C.reverse := if_pos (by rw [sumL_rev]; exact hs)
    simp only [e, e2, hr]; omega
  · have hl2 : isLv C.reverse h l := ⟨hl.low, by rw [fill_rev]; exact hl.le, by rw [fill_rev]; exact hl.lt⟩
    have e2 : share C.reverse h = shr l (h - fill C l) C.reverse := by rw [share, if_neg (by rw [sumL_rev]; exact hs), lvl_eq hl2, fill_rev]
    simp only [e, e2]
    rw [shr_at l C _ i hi, shr_at l C.reverse _ _ (by simp; omega), hr]
    unfold share1
    split <;> split <;> omega
def cntE (v : Int) (l : List Int) : Nat := l.countP fun y => decide (y = v)
theorem cntE_succ {v : Int} {l : List Int} {k : Nat} (h : k < l.length) : cntE v (l.take (k + 1)) = cntE v (l.take k) + if l[k] = v then 1 else 0 := by
  unfold cntE
  rw [List.take_succ_eq_append_getElem h, List.countP_append]
  by_cases e : l[k] = v <;> simp [e]
theorem cntE_le (v : Int) (l : List Int) : cntE v l ≤ l.length := List.countP_le_length
theorem shr_cnt (l v : Int) : ∀ (C : List Int) (q : Int), 0 ≤ q → q ≤ cntG C l → (cntE v (shr l q C) : Int) = cntE v (C.filter fun c => decide (c ≤ l)) + (if v = l + 1 then q else 0) + (if v = l then cntG C l - q else 0)
  | [], q, h0, h1 => by
    have : q = 0 := by simp [cntG] at h1; omega
    subst this
    simp [shr, cntE, cntG]
  | c :: C, q, h0, h1 => by
    have e : (cntG (c :: C) l : Int) = cntG C l + if l < c then 1 else 0 := by
      unfold cntG; rw [List.countP_cons]; by_cases h : l < c <;> simp [h]
    have ec : ∀ (x : Int) (L : List Int), (cntE v (x :: L) : Int) = cntE v L + if x = v then 1 else 0 := fun x L => by
      unfold cntE; rw [List.countP_cons]; by_cases h : x = v <;> simp [h]
    rw [e] at h1 ⊢
    by_cases hc : l < c
    · rw [if_pos hc] at h1 ⊢
      rw [List.filter_cons_of_neg (by simp; omega)]
      by_cases hq : 0 < q
      · rw [shr, if_pos ⟨hc, hq⟩, ec, shr_cnt l v C (q - 1) (by omega) (by omega)]
        (repeat' split) <;> omega
      · have : q = 0 := by omega
        subst this
        rw [shr, if_neg (by omega), ec, shr_cnt l v C 0 (by omega) (by omega), show min c l = l by omega]
        (repeat' split) <;> omega
    · rw [if_neg hc] at h1 ⊢
      rw [List.filter_cons_of_pos (by simp; omega), shr, if_neg (by omega), ec, ec, shr_cnt l v C q h0 (by omega), show min c l = c by omega]
      split <;> split <;> split <;> omega
theorem cntE_rev (v : Int) (l : List Int) : cntE v l.reverse = cntE v l := by unfold cntE; exact List.countP_reverse
theorem cntG_rev (C : List Int) (l : Int) : cntG C.reverse l = cntG C l := by unfold cntG; exact List.countP_reverse
/-- The numbers that are given out are the same. -/
theorem share_cnt {C : List Int} {h : Int} (hok : okC' C = true) (hh : 0 ≤ h) (v : Int) : cntE v (share C.reverse h) = cntE v (share C h) := by
  rcases share_cases hok hh with ⟨hs, e⟩ | ⟨hs, l, hl, e⟩
  · have e2 : share C.reverse h = C.reverse := if_pos (by rw [sumL_rev]; exact hs)
    rw [e, e2, cntE_rev]
  · have hl2 : isLv C.reverse h l := ⟨hl.low, by rw [fill_rev]; exact hl.le, by rw [fill_rev]; exact hl.lt⟩
    have e2 : share C.reverse h = shr l (h - fill C l) C.reverse := by rw [share, if_neg (by rw [sumL_rev]; exact hs), lvl_eq hl2, fill_rev]
    have hq := isLv_left hl
    have a1 := shr_cnt l v C (h - fill C l) hq.1 (by omega)
    have a2 := shr_cnt l v C.reverse (h - fill C l) hq.1 (by rw [cntG_rev]; omega)
    rw [cntG_rev, List.filter_reverse, cntE_rev] at a2
    rw [e, e2]
    omega

end Go.Proofs.Ytnifpooobleahaa
