/-
  Layer 24 in plain words: putting, opening, the winner turned around and among those that count.
-/
import Derived.Test.YtjgkjenbgadacaaDoorBidP
set_option linter.all false
namespace Go.Proofs.YtjgkjenbgadacaaDoor

/-- Put: the list, and the error. -/
def put (L : List Bd) (b : Bd) : List Bd × Int :=
  if okL L = true ∧ okB b = true then (if clashB L b = true then ([], 5) else (L ++ [b], 0)) else ([], 1)
/-- The place of a mark. -/
def atM (L : List Bd) (m : Int) : Nat := L.findIdx fun b => decide (b.m = m)
def opened (b : Bd) (n : Int) : Bd := ⟨b.m, b.w, n, true⟩
/-- Open: the list, and the error. -/
def opn (L : List Bd) (m n : Int) : List Bd × Int :=
  if okL L = true ∧ coinB n = true then
    (match L[atM L m]? with
    | none => ([], 4)
    | some b => if b.o = true then ([], 5) else (L.set (atM L m) (opened b n), 0))
  else ([], 1)

theorem atM_lt {L : List Bd} {m : Int} (h : atM L m < L.length) : L[atM L m].m = m := by
  have := List.findIdx_getElem (p := fun b : Bd => decide (b.m = m)) (w := h)
  exact of_decide_eq_true this
theorem atM_not {L : List Bd} {m : Int} {j : Nat} (h : j < atM L m) (hj : j < L.length) : L[j].m ≠ m := by
  have := List.not_of_lt_findIdx (p := fun b : Bd => decide (b.m = m)) h
  simpa using this
theorem atM_le (L : List Bd) (m : Int) : atM L m ≤ L.length := List.findIdx_le_length
theorem atM_at {L : List Bd} {k : Nat} (hk : k < L.length) (hn : ∀ j (hj : j < k), L[j].m ≠ L[k].m) : atM L L[k].m = k := by
  have h1 : ¬ k < atM L L[k].m := fun h => atM_not h hk rfl
  by_cases h2 : atM L L[k].m < k
  · exact absurd (atM_lt (by omega)) (hn _ h2)
  · omega

theorem put_ok {L : List Bd} {b : Bd} (h : (put L b).2 = 0) : okL (put L b).1 = true ∧ (put L b).1 = L ++ [b] := by
  unfold put at h ⊢
  split at h
  · rename_i hc
    rw [if_pos hc]
    split at h
    · simp at h
    · rename_i hn
      rw [if_neg hn]
      exact ⟨(okL_snoc L b).2 ⟨hc.1, hc.2, by simpa using hn⟩, rfl⟩
  · simp at h
theorem put_bad {L : List Bd} {b : Bd} (h : (put L b).2 ≠ 0) : (put L b).1 = [] := by
  unfold put at h ⊢
  split
  · rename_i hc
    rw [if_pos hc] at h
    split
    · rfl
    · rename_i hn; rw [if_neg hn] at h; exact absurd rfl h
  · rfl
theorem set_map {α β : Type} (f : α → β) {L : List α} {i : Nat} {b : α} (hi : i < L.length) (h : f b = f L[i]) : (L.set i b).map f = L.map f := by
  apply List.ext_getElem
  · simp
  · intro j h1 h2
    simp only [List.getElem_map, List.getElem_set]
    split
    · rename_i e; subst e; exact h
    · rfl
theorem opn_ok {L : List Bd} {m n : Int} (h : (opn L m n).2 = 0) : ∃ i, ∃ hi : i < L.length, okL (opn L m n).1 = true ∧ L[i].m = m ∧ L[i].o = false ∧ (opn L m n).1 = L.set i (opened L[i] n) := by
  unfold opn at h ⊢
  split at h
  · rename_i hc
    rw [if_pos hc]
    split at h
    · simp at h
    · rename_i b hb
      obtain ⟨hi, rfl⟩ := List.getElem?_eq_some_iff.1 hb
      split at h
      · simp at h
      · rename_i ho
        refine ⟨atM L m, hi, ?_, atM_lt hi, by simpa using ho, by simp only [hb, if_neg ho]⟩
        simp only [hb, if_neg ho]
        obtain ⟨h1, h2, h3⟩ := (okL_iff L).1 hc.1
        rw [okL_iff, set_map (b := opened L[atM L m] n) Bd.m hi rfl, set_map (b := opened L[atM L m] n) Bd.w hi rfl]
        refine ⟨fun x hx => ?_, h2, h3⟩
        rcases List.mem_or_eq_of_mem_set hx with hx | rfl
        · exact h1 x hx
        · have := h1 L[atM L m] (List.getElem_mem hi)
          simp only [okB, opened, Bool.and_eq_true, if_true] at this ⊢
          exact ⟨this.1, hc.2⟩
  · simp at h
theorem opn_bad {L : List Bd} {m n : Int} (h : (opn L m n).2 ≠ 0) : (opn L m n).1 = [] := by
  unfold opn at h ⊢
  split
  · rename_i hc
    rw [if_pos hc] at h
    split
    · rfl
    · rename_i b hb
      simp only [hb] at h
      split
      · rfl
      · rename_i ho; rw [if_neg ho] at h; exact absurd rfl h
  · rfl

/-- How many are not the same, among the first k. -/
def diffs (A B : List Bd) : Nat → Nat
  | 0 => 0
  | k + 1 => diffs A B k + if A[k]? = B[k]? then 0 else 1
theorem diffs_app (A : List Bd) (b : Bd) : ∀ k, k ≤ A.length → diffs A (A ++ [b]) k = 0
  | 0, _ => rfl
  | k + 1, h => by
    unfold diffs
    rw [diffs_app A b k (by omega), List.getElem?_append_left (by omega), if_pos rfl]
theorem diffs_set {A : List Bd} {i : Nat} (hi : i < A.length) {b : Bd} (h : A[i] ≠ b) : ∀ k, k ≤ A.length → diffs A (A.set i b) k = if i < k then 1 else 0
  | 0, _ => by simp [diffs]
  | k + 1, hk => by
    unfold diffs
    rw [diffs_set hi h k (by omega)]
    by_cases e : i = k
    · subst e
      rw [List.getElem?_set_self hi, List.getElem?_eq_getElem hi, if_neg (show ¬ i < i by omega), if_neg (by simp [h]), if_pos (by omega)]
    · rw [List.getElem?_set_ne e, if_pos rfl]
      by_cases h2 : i < k
      · rw [if_pos h2, if_pos (by omega)]
      · rw [if_neg h2, if_neg (by omega)]

/-- With the bids in the opposite order. -/
theorem wins_back {L : List Bd} {P : Int} {a : Nat} (h : wins L P = some a) : ∃ b, wins L.reverse P = some b ∧ ∃ hb : b < L.reverse.length, ∃ ha : a < L.length, L.reverse[b].n = L[a].n := by
  obtain ⟨ha, hc, hbest⟩ := wins_some.1 h
  cases hr : wins L.reverse P with
  | none =>
    have := wins_none.1 hr L[a] (by simp)
    rw [this] at hc; cases hc
  | some b =>
    obtain ⟨hb, hbc, hbb⟩ := wins_some.1 hr
    refine ⟨b, rfl, hb, ha, ?_⟩
    have hm : L.reverse[b] ∈ L := List.mem_reverse.1 (List.getElem_mem hb)
    obtain ⟨j, hj, hje⟩ := List.getElem_of_mem hm
    have h1 := hbest j hj (by rw [hje]; exact hbc)
    have hm2 : L[a] ∈ L.reverse := List.mem_reverse.2 (List.getElem_mem ha)
    obtain ⟨q, hq, hqe⟩ := List.getElem_of_mem hm2
    have h2 := hbb q hq (by rw [hqe]; exact hc)
    rw [hje] at h1
    rw [hqe] at h2
    omega
/-- Among some: those for which p holds; the one that wins is the first, of those for which p holds and that count, with the most. -/
theorem wins_filter {L : List Bd} {P : Int} {p : Bd → Bool} {a : Nat} (ha : a < L.length) (hpa : p L[a] = true) (hc : cntB P L[a] = true)
    (hbest : ∀ j (hj : j < L.length), p L[j] = true → cntB P L[j] = true → L[j].n < L[a].n ∨ L[j].n = L[a].n ∧ a ≤ j) : ∃ c, wins (L.filter p) P = some c ∧ ∃ hc : c < (L.filter p).length, (L.filter p)[c] = L[a] := by
  have e : L.filter p = (L.take a).filter p ++ L[a] :: (L.drop (a + 1)).filter p := by
    conv => lhs; rw [← List.take_append_drop a L, List.drop_eq_getElem_cons ha]
    rw [List.filter_append, List.filter_cons, if_pos hpa]
  have hcl : ((L.take a).filter p).length < (L.filter p).length := by rw [e]; simp
  have hce : (L.filter p)[((L.take a).filter p).length] = L[a] := by simp [e]
  refine ⟨((L.take a).filter p).length, wins_some.2 ⟨hcl, by rw [hce]; exact hc, fun j hj hjc => ?_⟩, hcl, hce⟩
  rw [hce]
  by_cases hjl : j < ((L.take a).filter p).length
  · have e2 : (L.filter p)[j] = ((L.take a).filter p)[j] := by
      simp only [e]; rw [List.getElem_append_left hjl]
    have hm := List.mem_filter.1 (List.getElem_mem hjl)
    obtain ⟨i, hi, hie⟩ := List.mem_take_iff_getElem.1 hm.1
    have hia : i < a := by omega
    rw [e2] at hjc ⊢
    have := hbest i (by omega) (by rw [hie]; exact hm.2) (by rw [hie]; exact hjc)
    rw [hie] at this
    omega
  · have hm := List.mem_filter.1 (List.getElem_mem hj)
    obtain ⟨i, hi, hie⟩ := List.getElem_of_mem hm.1
    have := hbest i hi (by rw [hie]; exact hm.2) (by rw [hie]; exact hjc)
    rw [hie] at this
    omega
theorem wins_some' {L : List Bd} {P : Int} {a : Nat} (h : wins L P = some a) : ∃ c, wins (L.filter (cntB P)) P = some c ∧ ∃ hc : c < (L.filter (cntB P)).length, ∃ ha : a < L.length, (L.filter (cntB P))[c] = L[a] := by
  obtain ⟨ha, hc, hbest⟩ := wins_some.1 h
  obtain ⟨c, h1, h2, h3⟩ := wins_filter (p := cntB P) ha hc hc fun j hj _ hjc => hbest j hj hjc
  exact ⟨c, h1, h2, ha, h3⟩
theorem wins_none' {L : List Bd} {P : Int} (h : wins L P = none) : wins L.reverse P = none ∧ wins (L.filter (cntB P)) P = none := by
  rw [wins_none] at h
  refine ⟨wins_none.2 fun x hx => h x (List.mem_reverse.1 hx), wins_none.2 fun x hx => h x (List.mem_filter.1 hx).1⟩

end Go.Proofs.YtjgkjenbgadacaaDoor
