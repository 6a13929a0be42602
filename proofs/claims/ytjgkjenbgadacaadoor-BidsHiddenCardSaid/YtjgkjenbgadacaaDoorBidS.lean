/-
  Layer 24 in plain words: the pot's shares.
-/
import Derived.Test.YtjgkjenbgadacaaDoorBidQ
import Derived.Test.YtjgkjenbgadacaaDoorSplP
import Derived.Test.YtjgkjenbgadacaaDoorFw5
set_option linter.all false
namespace Go.Proofs.YtjgkjenbgadacaaDoor
open Go.Ab

theorem sumL_ones (q : Nat) : sumL (List.replicate q 1) = q := by
  induction q with
  | zero => rfl
  | succ q ih => rw [List.replicate_succ, sumL_cons, ih]; push_cast; omega
/-- n coins in k equal parts. -/
def evens (n : Int) (k : Nat) : List Int := wtd (List.replicate k 1) n
theorem evens_len (n : Int) (k : Nat) : (evens n k).length = k := by unfold evens; rw [wtd_len, List.length_replicate]
theorem evens_spec {n : Int} {k : Nat} (hk : 0 < k) : sumL (evens n k) = n ∧ (∀ i (hi : i < (evens n k).length), n / k ≤ (evens n k)[i] ∧ (evens n k)[i] ≤ n / k + 1) ∧
    ∀ i j (hi : i < (evens n k).length) (hj : j < (evens n k).length), i < j → (evens n k)[j] ≤ (evens n k)[i] := by
  have hs : sumL (List.replicate k 1) = (k : Int) := sumL_ones k
  obtain ⟨W, h1, h2, _, h4⟩ := wtd_spec (C := List.replicate k 1) (h := n) (by rw [hs]; omega)
  have hl := evens_len n k
  have hat : ∀ i (hi : i < (evens n k).length), (evens n k)[i] = n / k + if (i : Int) ∈ W then 1 else 0 := fun i hi => by
    have := h2 i (by simp; omega) hi
    rw [hs, List.getElem_replicate, Int.mul_one] at this
    exact this
  refine ⟨h1, fun i hi => ?_, fun i j hi hj hij => ?_⟩
  · rw [hat i hi]; split <;> omega
  · rw [hat i hi, hat j hj]
    by_cases hj2 : (j : Int) ∈ W
    · have := h4 j i (by simp; omega) (by simp; omega) hj2 (.inr ⟨by simp, hij⟩)
      rw [if_pos hj2, if_pos this]; omega
    · rw [if_neg hj2]; split <;> omega

def okMb (M : List Int) : Bool := M.all keyB && decide M.Nodup && decide (0 < M.length) && decide (M.length ≤ 60)
theorem okMb_iff (M : List Int) : okMb M = true ↔ (∀ x ∈ M, 0 ≤ x ∧ x < 200) ∧ M.Nodup ∧ 0 < M.length ∧ M.length ≤ 60 := by
  simp only [okMb, Bool.and_eq_true, List.all_eq_true, decide_eq_true_eq, keyB, and_assoc]
def memB (M : List Int) (b : Bd) : Bool := decide (b.w ∈ M)
/-- Where a key stands. -/
def atI (M : List Int) (x : Int) : Nat := M.findIdx fun y => decide (y = x)
theorem atI_lt {M : List Int} {x : Int} (h : x ∈ M) : ∃ hi : atI M x < M.length, M[atI M x] = x := by
  have h1 : atI M x < M.length := List.findIdx_lt_length.2 ⟨x, h, by simp⟩
  refine ⟨h1, ?_⟩
  have := List.findIdx_getElem (p := fun y : Int => decide (y = x)) (w := h1)
  exact of_decide_eq_true this
theorem atI_not {M : List Int} {x : Int} {j : Nat} (h : j < atI M x) (hj : j < M.length) : M[j] ≠ x := by
  have := List.not_of_lt_findIdx (p := fun y : Int => decide (y = x)) h
  simpa using this
theorem atI_le (M : List Int) (x : Int) : atI M x ≤ M.length := List.findIdx_le_length
theorem atI_ge {M : List Int} {x : Int} (h : x ∉ M) : atI M x = M.length := by
  by_cases h1 : atI M x < M.length
  · have := List.findIdx_getElem (p := fun y : Int => decide (y = x)) (w := h1)
    simp at this
    exact absurd (this ▸ List.getElem_mem _) h
  · have := atI_le M x; omega

/-- Who the winner is, and what everybody gets. -/
def winB (L : List Bd) (P : Int) (M : List Int) : Option Bd := (wins (L.filter (memB M)) P).bind fun w => (L.filter (memB M))[w]?
def potS (L : List Bd) (P : Int) (M : List Int) : List Int × Int :=
  if okL L = true ∧ coinB P = true ∧ okMb M = true then
    (match winB L P M with
    | none => ([], 4)
    | some b => if M.length = 1 then ([P], 0) else (insL (atI M b.w) (P - b.n) (evens b.n (M.length - 1)), 0))
  else ([], 1)
theorem winB_some {L : List Bd} {P : Int} {M : List Int} {b : Bd} (h : winB L P M = some b) : b ∈ L ∧ b.w ∈ M ∧ cntB P b = true := by
  unfold winB at h
  cases hw : wins (L.filter (memB M)) P with
  | none => rw [hw] at h; cases h
  | some w =>
    rw [hw] at h
    obtain ⟨hk, h1, _⟩ := wins_some.1 hw
    simp only [Option.bind_some, List.getElem?_eq_getElem hk, Option.some.injEq] at h
    rw [← h]
    have := List.mem_filter.1 (List.getElem_mem hk)
    exact ⟨this.1, by simpa [memB] using this.2, h1⟩
theorem winB_none {L : List Bd} {P : Int} {M : List Int} : winB L P M = none ↔ wins (L.filter (memB M)) P = none := by
  unfold winB
  cases hw : wins (L.filter (memB M)) P with
  | none => simp
  | some w =>
    obtain ⟨hk, h1, _⟩ := wins_some.1 hw
    simp [List.getElem?_eq_getElem hk]

/-- The best so far: the first with the most, of those for which q holds; or -1. -/
def bestTo (q : Bd → Bool) (L : List Bd) : Nat → Int
  | 0 => -1
  | k + 1 => if q (L.getD k default) && (decide (bestTo q L k < 0) || decide ((L.getD (bestTo q L k).toNat default).n < (L.getD k default).n)) then k else bestTo q L k
theorem bestTo_spec (q : Bd → Bool) (L : List Bd) : ∀ k : Nat, k ≤ L.length →
    (bestTo q L k = -1 ∧ ∀ j (hj : j < L.length), j < k → q L[j] = false) ∨ (∃ a : Nat, ∃ ha : a < L.length, bestTo q L k = a ∧ a < k ∧ q L[a] = true ∧ ∀ j (hj : j < L.length), j < k → q L[j] = true → L[j].n < L[a].n ∨ L[j].n = L[a].n ∧ a ≤ j)
  | 0, _ => .inl ⟨rfl, by omega⟩
  | k + 1, h => by
    have hk : k < L.length := by omega
    have hg : L.getD k default = L[k] := by rw [List.getD_eq_getElem?_getD, List.getElem?_eq_getElem hk]; rfl
    have ih := bestTo_spec q L k (by omega)
    unfold bestTo
    rw [hg]
    rcases ih with ⟨h1, h2⟩ | ⟨a, ha, h1, h2, h3, h4⟩
    · rw [h1]
      cases hq : q L[k] with
      | false =>
        left
        refine ⟨by simp, fun j hj hjk => ?_⟩
        by_cases e : j = k
        · subst e; exact hq
        · exact h2 j hj (by omega)
      | true =>
        right
        refine ⟨k, hk, by simp, by omega, hq, fun j hj hjk hqj => ?_⟩
        by_cases e : j = k
        · subst e; exact .inr ⟨rfl, Nat.le_refl _⟩
        · rw [h2 j hj (by omega)] at hqj; cases hqj
    · have hga : L.getD a default = L[a] := by rw [List.getD_eq_getElem?_getD, List.getElem?_eq_getElem ha]; rfl
      rw [h1, Int.toNat_natCast, hga]
      right
      by_cases hc : q L[k] = true ∧ L[a].n < L[k].n
      · refine ⟨k, hk, by simp [hc.1, hc.2], by omega, hc.1, fun j hj hjk hqj => ?_⟩
        by_cases e : j = k
        · subst e; exact .inr ⟨rfl, Nat.le_refl _⟩
        · have := h4 j hj (by omega) hqj; omega
      · refine ⟨a, ha, ?_, by omega, h3, fun j hj hjk hqj => ?_⟩
        · rw [if_neg]
          simp only [Bool.and_eq_true, Bool.or_eq_true, decide_eq_true_eq]
          rintro ⟨x, y | y⟩
          · omega
          · exact hc ⟨x, y⟩
        · by_cases e : j = k
          · subst e
            have : ¬ L[a].n < L[j].n := fun x => hc ⟨hqj, x⟩
            omega
          · exact h4 j hj (by omega) hqj
/-- The best of all is the winner among the members. -/
theorem bestTo_win (L : List Bd) (P : Int) (M : List Int) :
    (bestTo (fun b => memB M b && cntB P b) L L.length = -1 ∧ winB L P M = none) ∨ (∃ a : Nat, ∃ ha : a < L.length, bestTo (fun b => memB M b && cntB P b) L L.length = a ∧ winB L P M = some L[a] ∧ L[a].w ∈ M ∧ cntB P L[a] = true) := by
  rcases bestTo_spec (fun b => memB M b && cntB P b) L L.length (Nat.le_refl _) with ⟨h1, h2⟩ | ⟨a, ha, h1, _, h3, h4⟩
  · left
    refine ⟨h1, winB_none.2 (wins_none.2 fun x hx => ?_)⟩
    obtain ⟨hx1, hx2⟩ := List.mem_filter.1 hx
    obtain ⟨j, hj, rfl⟩ := List.getElem_of_mem hx1
    have := h2 j hj hj
    rw [hx2] at this
    simpa using this
  · right
    simp only [Bool.and_eq_true] at h3 h4
    obtain ⟨c, hc1, hc2, hc3⟩ := wins_filter (P := P) (p := memB M) ha h3.1 h3.2 fun j hj hp hcj => h4 j hj hj ⟨hp, hcj⟩
    refine ⟨a, ha, h1, ?_, by simpa [memB] using h3.1, h3.2⟩
    unfold winB
    rw [hc1]
    simp only [Option.bind_some, List.getElem?_eq_getElem hc2, hc3]
/-- Of all, without members. -/
theorem bestTo_wins (L : List Bd) (P : Int) : (bestTo (cntB P) L L.length = -1 ∧ wins L P = none) ∨ (∃ a : Nat, a < L.length ∧ bestTo (cntB P) L L.length = a ∧ wins L P = some a) := by
  rcases bestTo_spec (cntB P) L L.length (Nat.le_refl _) with ⟨h1, h2⟩ | ⟨a, ha, h1, _, h3, h4⟩
  · left
    refine ⟨h1, wins_none.2 fun x hx => ?_⟩
    obtain ⟨j, hj, rfl⟩ := List.getElem_of_mem hx
    exact h2 j hj hj
  · exact .inr ⟨a, ha, h1, wins_some.2 ⟨ha, h3, fun j hj hc => h4 j hj hj hc⟩⟩

/-- What the others get. -/
def minL (P : Int) (O : List Int) : Int := O.foldl min P
def maxL (O : List Int) : Int := O.foldl max 0
def lastL (P : Int) (O : List Int) : Int := O.getLast?.getD P
theorem minL_snoc (P : Int) (O : List Int) (x : Int) : minL P (O ++ [x]) = min (minL P O) x := by unfold minL; rw [List.foldl_append]; rfl
theorem maxL_snoc (O : List Int) (x : Int) : maxL (O ++ [x]) = max (maxL O) x := by unfold maxL; rw [List.foldl_append]; rfl
theorem lastL_snoc (P : Int) (O : List Int) (x : Int) : lastL P (O ++ [x]) = x := by simp [lastL]
theorem minL_ge {P q : Int} : ∀ (n : Nat) (O : List Int), O.length = n → q ≤ P → (∀ x ∈ O, q ≤ x) → q ≤ minL P O := by
  intro n
  induction n with
  | zero => intro O h hP _; rw [List.eq_nil_of_length_eq_zero h]; exact hP
  | succ n ih =>
    intro O h hP hO
    rcases List.eq_nil_or_concat O with rfl | ⟨A, x, rfl⟩
    · exact hP
    · rw [List.concat_eq_append, minL_snoc]
      have h1 := ih A (by simpa using h) hP fun y hy => hO y (by simp [hy])
      have h2 := hO x (by simp)
      omega
theorem maxL_le {q : Int} : ∀ (n : Nat) (O : List Int), O.length = n → 0 ≤ q → (∀ x ∈ O, x ≤ q) → maxL O ≤ q := by
  intro n
  induction n with
  | zero => intro O h hP _; rw [List.eq_nil_of_length_eq_zero h]; exact hP
  | succ n ih =>
    intro O h hP hO
    rcases List.eq_nil_or_concat O with rfl | ⟨A, x, rfl⟩
    · exact hP
    · rw [List.concat_eq_append, maxL_snoc]
      have h1 := ih A (by simpa using h) hP fun y hy => hO y (by simp [hy])
      have h2 := hO x (by simp)
      omega

end Go.Proofs.YtjgkjenbgadacaaDoor
