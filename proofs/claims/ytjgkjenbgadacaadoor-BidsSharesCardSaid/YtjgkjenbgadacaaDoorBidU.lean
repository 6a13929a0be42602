/-
  Layer 24 in plain words: what is put in at a place, and the others.
-/
import Derived.Test.YtjgkjenbgadacaaDoorBidS
set_option linter.all false
namespace Go.Proofs.YtjgkjenbgadacaaDoor
open Go.Ab

theorem insL_get {α : Type} {A : List α} {t : Nat} {v : α} (ht : t ≤ A.length) (i : Nat) : (insL t v A)[i]? = if i < t then A[i]? else if i = t then some v else A[i - 1]? := by
  unfold insL
  have hl : (A.take t).length = t := by simp; omega
  by_cases h1 : i < t
  · rw [if_pos h1, List.getElem?_append_left (by omega), List.getElem?_take, if_pos h1]
  · rw [if_neg h1, List.getElem?_append_right (by omega), hl]
    by_cases h2 : i = t
    · subst h2; simp
    · rw [if_neg h2]
      obtain ⟨d, hd⟩ : ∃ d, i - t = d + 1 := ⟨i - t - 1, by omega⟩
      rw [hd, List.getElem?_cons_succ, List.getElem?_drop]
      congr 1; omega
theorem insL_sum {A : List Int} {t : Nat} {v : Int} : sumL (insL t v A) = v + sumL A := by
  unfold insL
  have e : sumL A = sumL (A.take t) + sumL (A.drop t) := by rw [← sumL_app, List.take_append_drop]
  rw [sumL_app, sumL_cons, e]; omega
theorem sumL_nonneg : ∀ {A : List Int}, (∀ x ∈ A, 0 ≤ x) → 0 ≤ sumL A
  | [], _ => by simp
  | a :: A, h => by
    have h1 := h a (by simp)
    have h2 := sumL_nonneg (A := A) fun x hx => h x (by simp [hx])
    rw [sumL_cons]; omega
theorem sumL_part {A : List Int} (h : ∀ x ∈ A, 0 ≤ x) (k : Nat) : 0 ≤ sumL (A.take k) ∧ sumL (A.take k) ≤ sumL A := by
  have e : sumL A = sumL (A.take k) + sumL (A.drop k) := by rw [← sumL_app, List.take_append_drop]
  have h1 := sumL_nonneg (A := A.take k) fun x hx => h x (List.mem_of_mem_take hx)
  have h2 := sumL_nonneg (A := A.drop k) fun x hx => h x (List.mem_of_mem_drop hx)
  omega
/-- The others, among the first i. -/
def oth (A : List Int) (t i : Nat) : List Int := A.take (if i ≤ t then i else i - 1)
theorem oth_zero (A : List Int) (t : Nat) : oth A t 0 = [] := by simp [oth]
theorem oth_self {A : List Int} {t : Nat} : oth A t (t + 1) = oth A t t := by
  unfold oth
  rw [if_neg (by omega), if_pos (Nat.le_refl _)]; rfl
theorem oth_succ {A : List Int} {t i : Nat} (h : i ≠ t) {j : Nat} (hj : j = if i < t then i else i - 1) (hA : j < A.length) : oth A t i = A.take j ∧ oth A t (i + 1) = A.take j ++ [A[j]] := by
  unfold oth
  by_cases h1 : i < t
  · rw [if_pos h1] at hj
    subst hj
    rw [if_pos (by omega), if_pos (by omega), List.take_succ_eq_append_getElem hA]
    exact ⟨rfl, rfl⟩
  · rw [if_neg h1] at hj
    rw [if_neg (by omega), if_neg (by omega), ← hj, show i + 1 - 1 = j + 1 by omega, List.take_succ_eq_append_getElem hA]
    exact ⟨rfl, rfl⟩
theorem oth_all {A : List Int} {t : Nat} (ht : t ≤ A.length) : oth A t (A.length + 1) = A := by
  unfold oth
  rw [if_neg (by omega)]; simp
theorem lastL_take {P : Int} {A : List Int} {j : Nat} (hj : j < A.length) : lastL P (A.take j) = if h : j = 0 then P else A[j - 1] := by
  unfold lastL
  by_cases h : j = 0
  · subst h; simp
  · rw [dif_neg h, List.getLast?_eq_getElem?, List.length_take, Nat.min_eq_left (by omega), List.getElem?_take, if_pos (by omega), List.getElem?_eq_getElem (by omega)]
    rfl
theorem minL_le (P : Int) : ∀ (n : Nat) (O : List Int), O.length = n → minL P O ≤ P := by
  intro n
  induction n with
  | zero => intro O h; rw [List.eq_nil_of_length_eq_zero h]; exact Int.le_refl _
  | succ n ih =>
    intro O h
    rcases List.eq_nil_or_concat O with rfl | ⟨A, x, rfl⟩
    · simp at h
    · rw [List.concat_eq_append, minL_snoc]
      have := ih A (by simpa using h)
      omega
theorem maxL_ge : ∀ (n : Nat) (O : List Int), O.length = n → 0 ≤ maxL O := by
  intro n
  induction n with
  | zero => intro O h; rw [List.eq_nil_of_length_eq_zero h]; exact Int.le_refl _
  | succ n ih =>
    intro O h
    rcases List.eq_nil_or_concat O with rfl | ⟨A, x, rfl⟩
    · simp at h
    · rw [List.concat_eq_append, maxL_snoc]
      have := ih A (by simpa using h)
      omega

/-- What each gets: one at a place, and the others. -/
theorem pot_shape {L : List Bd} {P : Int} {M : List Int} {b : Bd} (hok : okL L = true ∧ coinB P = true ∧ okMb M = true) (hw : winB L P M = some b) :
    ∃ (t : Nat) (ht : t < M.length) (v : Int) (A : List Int), (potS L P M).1 = insL t v A ∧ (potS L P M).2 = 0 ∧ M[t] = b.w ∧ A.length + 1 = M.length ∧ (M.length ≠ 1 → v = P - b.n) ∧ v + sumL A = P ∧ 0 ≤ v ∧ v ≤ P ∧
      ∃ q : Int, 0 ≤ q ∧ q ≤ P ∧ (∀ x ∈ A, q ≤ x ∧ x ≤ q + 1 ∧ x ≤ P) ∧ ∀ i j (hi : i < A.length) (hj : j < A.length), i < j → A[j] ≤ A[i] := by
  obtain ⟨hbL, hbM, hbc⟩ := winB_some hw
  obtain ⟨ht, hte⟩ := atI_lt hbM
  obtain ⟨_, _, h0, h60⟩ := (okMb_iff M).1 hok.2.2
  have hP : 0 ≤ P := by have := hok.2.1; simp [coinB] at this; omega
  have hbn : 0 ≤ b.n ∧ b.n ≤ P := by
    have h1 := ((okL_iff L).1 hok.1).1 b hbL
    simp only [cntB, Bool.and_eq_true, decide_eq_true_eq] at hbc
    simp only [okB, Bool.and_eq_true, hbc.1, if_true, coinB, decide_eq_true_eq] at h1
    omega
  by_cases h1 : M.length = 1
  · have hp : potS L P M = ([P], 0) := by unfold potS; rw [if_pos hok, hw]; simp only []; rw [if_pos h1]
    rw [hp]
    have ht0 : atI M b.w = 0 := by omega
    exact ⟨atI M b.w, ht, P, [], by rw [ht0]; rfl, rfl, hte, by simp [h1], fun h => absurd h1 h, by simp, hP, Int.le_refl _, 0, by omega, hP, by simp, by simp⟩
  · have hp : potS L P M = (insL (atI M b.w) (P - b.n) (evens b.n (M.length - 1)), 0) := by unfold potS; rw [if_pos hok, hw]; simp only []; rw [if_neg h1]
    rw [hp]
    have hk : 0 < M.length - 1 := by omega
    obtain ⟨e1, e2, e3⟩ := evens_spec (n := b.n) hk
    have hq0 : 0 ≤ b.n / ((M.length - 1 : Nat) : Int) := Int.ediv_nonneg hbn.1 (by omega)
    have hnn : ∀ x ∈ evens b.n (M.length - 1), 0 ≤ x := fun x hx => by
      obtain ⟨i, hi, rfl⟩ := List.getElem_of_mem hx
      have := e2 i hi
      omega
    have hmx : ∀ x ∈ evens b.n (M.length - 1), x ≤ b.n := fun x hx => by
      obtain ⟨i, hi, rfl⟩ := List.getElem_of_mem hx
      have h3 := sumL_part hnn (i + 1)
      rw [sumL_succ hi, e1] at h3
      have h4 := sumL_part hnn i
      omega
    refine ⟨atI M b.w, ht, P - b.n, _, rfl, rfl, hte, by rw [evens_len]; omega, fun _ => rfl, by rw [e1]; omega, by omega, by omega, b.n / ((M.length - 1 : Nat) : Int), hq0, ?_, fun x hx => ?_, e3⟩
    · have hl := evens_len b.n (M.length - 1)
      have h5 := e2 0 (by omega)
      have h6 := hmx _ (List.getElem_mem (show 0 < (evens b.n (M.length - 1)).length by omega))
      omega
    · have h6 := hmx x hx
      obtain ⟨i, hi, rfl⟩ := List.getElem_of_mem hx
      have := e2 i hi
      omega

end Go.Proofs.YtjgkjenbgadacaaDoor
