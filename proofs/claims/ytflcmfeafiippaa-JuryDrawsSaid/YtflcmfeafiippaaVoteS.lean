/-
  Layer 31 in plain words: members, needed voices, counted voices, what they decide.
-/
import Derived.Test.YtflcmfeafiippaaFw4
set_option linter.all false
namespace Go.Proofs.Ytflcmfeafiippaa

structure V where
  mark : Int
  who : Int
  yes : Bool
  day : Int
  deriving DecidableEq

theorem V.eq_iff (a b : V) : a = b ↔ a.mark = b.mark ∧ a.who = b.who ∧ a.yes = b.yes ∧ a.day = b.day := by
  cases a; cases b; simp

def nBad (m s : Int) : Bool := decide (m < 1) || decide (60 < m) || decide (s < 0) || decide (1000 < s)
def nNeed (m s : Int) : Int := max 1 ((m * s + 999) / 1000)

theorem mul_bd {m s : Int} (h1 : 1 ≤ m) (h2 : m ≤ 60) (h3 : 0 ≤ s) (h4 : s ≤ 1000) : 0 ≤ m * s ∧ m * s ≤ 60000 := by
  refine ⟨Int.mul_nonneg (by omega) h3, ?_⟩
  calc m * s ≤ 60 * s := Int.mul_le_mul_of_nonneg_right h2 h3
    _ ≤ 60 * 1000 := Int.mul_le_mul_of_nonneg_left h4 (by omega)

/-- Where an element stands first, or -1. -/
def idx (L : List Int) (x : Int) : Int := if x ∈ L then (L.findIdx (· == x) : Nat) else -1

theorem idx_none {L : List Int} {x : Int} (h : x ∉ L) : idx L x = -1 := if_neg h
theorem idx_at {L : List Int} {k : Nat} (hk : k < L.length) (h : L[k] ∉ L.take k) : idx L L[k] = k := by
  unfold idx
  rw [if_pos (List.getElem_mem hk)]
  congr 1
  have h1 : L.findIdx (· == L[k]) ≤ k := by
    refine Nat.le_of_not_lt fun hlt => ?_
    have := List.not_of_lt_findIdx hlt
    simp at this
  have h2 : ¬ L.findIdx (· == L[k]) < k := by
    intro hlt
    have hl : L.findIdx (· == L[k]) < L.length := by omega
    have := List.findIdx_getElem (w := hl)
    simp only [beq_iff_eq] at this
    exact h (by
      rw [← this]
      exact List.mem_take_iff_getElem.2 ⟨_, by omega, rfl⟩)
  omega
theorem idx_at' {L : List Int} {k : Nat} (hk : k < L.length) (h : idx L L[k] = k) : L[k] ∉ L.take k := by
  intro hm
  obtain ⟨j, hj, e⟩ := List.mem_take_iff_getElem.1 hm
  unfold idx at h
  rw [if_pos (List.getElem_mem hk)] at h
  have h2 : L.findIdx (· == L[k]) ≤ j := by
    refine Nat.le_of_not_lt fun hlt => ?_
    have := List.not_of_lt_findIdx hlt
    simp [e] at this
  omega
theorem idx_nonneg (L : List Int) (x : Int) : (0 ≤ idx L x) = (x ∈ L) := by
  unfold idx
  by_cases h : x ∈ L <;> simp [h]
theorem idx_neg (L : List Int) (x : Int) : (idx L x < 0) = (x ∉ L) := by
  unfold idx
  by_cases h : x ∈ L <;> simp [h]

def inK (k : Int) : Bool := !(decide (k < 0) || decide (200 ≤ k))
def okM (L : List Int) : Bool := decide (0 < L.length) && decide ((L.length : Int) ≤ 60) && L.all inK && decide L.Nodup

theorem mem_take_succ {L : List Int} {k : Nat} (h : k < L.length) (x : Int) : x ∈ L.take (k + 1) ↔ x ∈ L.take k ∨ x = L[k] := by
  rw [List.take_succ_eq_append_getElem h, List.mem_append, List.mem_singleton]
theorem nodup_take_succ {L : List Int} {k : Nat} (h : k < L.length) (h1 : (L.take k).Nodup) (h2 : L[k] ∉ L.take k) : (L.take (k + 1)).Nodup := by
  rw [List.take_succ_eq_append_getElem h, List.nodup_append]
  exact ⟨h1, by simp, by intro a ha b hb; simp at hb; subst hb; rintro rfl; exact h2 ha⟩
theorem all_take_succ {L : List Int} {k : Nat} (h : k < L.length) {p : Int → Bool} (h1 : (L.take k).all p = true) (h2 : p L[k] = true) : (L.take (k + 1)).all p = true := by
  rw [List.take_succ_eq_append_getElem h, List.all_append]; simp [h1, h2]
theorem okM_dup {L : List Int} {k : Nat} (h : k < L.length) (h2 : L[k] ∈ L.take k) : okM L = false := by
  have : ¬ L.Nodup := by
    intro hn
    rw [← List.take_append_drop k L, List.nodup_append] at hn
    refine hn.2.2 _ h2 L[k] ?_ rfl
    rw [List.drop_eq_getElem_cons h]; exact List.mem_cons_self
  simp [okM, this]
theorem okM_range {L : List Int} {k : Nat} (h : k < L.length) (h2 : inK L[k] = false) : okM L = false := by
  have : L.all inK = false := List.all_eq_false.2 ⟨L[k], List.getElem_mem h, by simp [h2]⟩
  simp [okM, this]

/-- One voice more. -/
def spoke (w : Int) (l : List V) : Bool := decide (w ∈ l.map V.who)
theorem spoke_succ {l : List V} {k : Nat} (h : k < l.length) (w : Int) : spoke w (l.take (k + 1)) = (spoke w (l.take k) || decide (l[k].who = w)) := by
  unfold spoke
  rw [List.take_succ_eq_append_getElem h, List.map_append, Bool.eq_iff_iff]
  simp
  rw [eq_comm (a := w)]
def skips (L : List Int) (u : Int) (acc : List V) (v : V) : Bool := decide (u < v.day) || spoke v.who acc || !decide (v.who ∈ L)
theorem skips_not (L : List Int) (u : Int) (acc : List V) (v : V) : (decide (v.day ≤ u) && decide (v.who ∈ L) && !spoke v.who acc) = !skips L u acc v := by
  unfold skips
  by_cases h : u < v.day
  · have : ¬ v.day ≤ u := by omega
    simp [h, this]
  · have : v.day ≤ u := by omega
    simp [h, this, Bool.and_comm]
def cstep (L : List Int) (u : Int) (acc : List V) (v : V) : List V := if skips L u acc v then acc else acc ++ [v]
def cnt (L : List Int) (u : Int) (vs : List V) : List V := vs.foldl (cstep L u) []
/-- The voices that count. -/
def counted (L : List Int) (vs : List V) (u : Int) : List V := if okM L then cnt L u vs else []

theorem cnt_succ {L : List Int} {u : Int} {vs : List V} {k : Nat} (h : k < vs.length) : cnt L u (vs.take (k + 1)) = cstep L u (cnt L u (vs.take k)) vs[k] := by
  unfold cnt
  rw [List.take_succ_eq_append_getElem h, List.foldl_append]; rfl
theorem cnt_len (L : List Int) (u : Int) (vs : List V) : (cnt L u vs).length ≤ vs.length := by
  unfold cnt
  have : ∀ (vs : List V) (acc : List V), (vs.foldl (cstep L u) acc).length ≤ acc.length + vs.length := by
    intro vs
    induction vs with
    | nil => intro acc; simp
    | cons v vs ih =>
      intro acc
      simp only [List.foldl_cons, List.length_cons]
      have h1 := ih (cstep L u acc v)
      have h2 : (cstep L u acc v).length ≤ acc.length + 1 := by unfold cstep; split <;> simp
      omega
  simpa using this vs []

def yesN (l : List V) : Nat := (l.filter (·.yes)).length
theorem yesN_le (l : List V) : yesN l ≤ l.length := List.length_filter_le _ _
theorem yesN_succ {l : List V} {k : Nat} (h : k < l.length) : yesN (l.take (k + 1)) = yesN (l.take k) + if l[k].yes then 1 else 0 := by
  unfold yesN
  rw [List.take_succ_eq_append_getElem h, List.filter_append]
  cases hy : l[k].yes <;> simp [hy]

/-- What the voices that count decide. -/
def says (m need : Int) (l : List V) : Int := if need ≤ yesN l then 1 else if m - need < l.length - yesN l then 2 else 0
def tBad (L : List Int) (share : Int) : Bool := nBad L.length share || !okM L
def tally (L : List Int) (vs : List V) (share u day : Int) : Int :=
  if tBad L share then 0 else
    let o := says L.length (nNeed L.length share) (counted L vs u)
    if o = 0 ∧ u < day then 2 else o
def tErr (L : List Int) (share : Int) : Int := if tBad L share then 1 else 0

/-- Whether the voices up to i decide. -/
def decAt (L : List Int) (vs : List V) (share u : Int) (i : Nat) : Bool := !tBad L share && decide (tally L (vs.take (i + 1)) share u u ≠ 0)
def dec (L : List Int) (vs : List V) (share u : Int) : Option Nat := (List.range vs.length).find? (decAt L vs share u)
def decI (L : List Int) (vs : List V) (share u : Int) : Int := match dec L vs share u with | some i => i | none => 0
def decB (L : List Int) (vs : List V) (share u : Int) : Bool := (dec L vs share u).isSome

theorem dec_at {L : List Int} {vs : List V} {share u : Int} {k : Nat} (hk : k < vs.length) (h : decAt L vs share u k = true) (hn : ∀ i, i < k → decAt L vs share u i = false) : dec L vs share u = some k := by
  unfold dec
  rw [List.find?_range_eq_some]
  exact ⟨h, by simpa using hk, fun j hj => by simp [hn j hj]⟩
theorem dec_none {L : List Int} {vs : List V} {share u : Int} (hn : ∀ i, i < vs.length → decAt L vs share u i = false) : dec L vs share u = none := by
  unfold dec
  rw [List.find?_range_eq_none]
  intro i hi
  simp [hn i hi]

end Go.Proofs.Ytflcmfeafiippaa
