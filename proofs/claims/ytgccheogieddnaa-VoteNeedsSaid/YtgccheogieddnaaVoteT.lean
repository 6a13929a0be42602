/-
  Plain laws on what stays decided.
-/
import Derived.Test.YtgccheogieddnaaVoteQ
set_option linter.all false
namespace Go.Proofs.Ytgccheogieddnaa

def outc (L : List Int) (vs : List V) (share u : Int) : Int := says L.length (nNeed L.length share) (cnt L u vs)

theorem cnt_app (L : List Int) (u : Int) (vs ms : List V) : cnt L u vs <+: cnt L u (vs ++ ms) := by
  have := cnt_prefix L u (vs ++ ms) vs.length
  rwa [List.take_left] at this

theorem says_stays {m need : Int} {p q : List V} (h : p <+: q) (hm : (q.length : Int) ≤ m) (h0 : says m need p ≠ 0) : says m need q = says m need p := by
  obtain ⟨r, rfl⟩ := h
  have e1 : yesN (p ++ r) = yesN p + yesN r := by simp [yesN]
  have e2 : (p ++ r).length = p.length + r.length := by simp
  have h1 := yesN_le p
  have h2 := yesN_le r
  rw [e2] at hm
  unfold says at h0 ⊢
  rw [e1, e2]
  by_cases c1 : need ≤ (yesN p : Int)
  · have : need ≤ ((yesN p + yesN r : Nat) : Int) := by omega
    simp only [c1, this, if_true]
  · simp only [c1, if_false] at h0 ⊢
    by_cases c2 : m - need < (p.length : Int) - yesN p
    · have h3 : ¬ need ≤ ((yesN p + yesN r : Nat) : Int) := by omega
      have h4 : m - need < ((p.length + r.length : Nat) : Int) - ((yesN p + yesN r : Nat) : Int) := by omega
      simp only [h3, h4, c2, if_true, if_false]
    · simp [c2] at h0

theorem outc_cases (L : List Int) (vs : List V) (share u : Int) : outc L vs share u = 0 ∨ outc L vs share u = 1 ∨ outc L vs share u = 2 := by
  unfold outc says
  split
  · simp
  · split <;> simp

theorem tally_out {L : List Int} {vs : List V} {share u day : Int} (h : okM L = true) (hb : tBad L share = false) : tally L vs share u day = if outc L vs share u = 0 ∧ u < day then 2 else outc L vs share u := by
  rw [tally_ok hb, counted_ok h]; rfl

theorem outc_stays {L : List Int} {vs ms : List V} {share u : Int} (h0 : outc L vs share u ≠ 0) : outc L (vs ++ ms) share u = outc L vs share u :=
  says_stays (cnt_app L u vs ms) (by have := cnt_le L u (vs ++ ms); omega) h0

theorem decAt_out {L : List Int} {vs : List V} {share u : Int} (h : okM L = true) (hb : tBad L share = false) (i : Nat) : decAt L vs share u i = decide (outc L (vs.take (i + 1)) share u ≠ 0) := by
  unfold decAt
  rw [tally_out h hb, hb]
  simp

theorem decAt_app {L : List Int} {vs ms : List V} {share u : Int} {i : Nat} (hi : i < vs.length) : decAt L (vs ++ ms) share u i = decAt L vs share u i := by
  unfold decAt
  rw [List.take_append_of_le_length (by omega)]

theorem dec_spec {L : List Int} {vs : List V} {share u : Int} {k : Nat} (h : dec L vs share u = some k) : k < vs.length ∧ decAt L vs share u k = true ∧ ∀ i, i < k → decAt L vs share u i = false := by
  unfold dec at h
  rw [List.find?_range_eq_some] at h
  obtain ⟨h1, h2, h3⟩ := h
  exact ⟨by simpa using h2, h1, fun i hi => by simpa using h3 i hi⟩
theorem dec_noneAt {L : List Int} {vs : List V} {share u : Int} (h : dec L vs share u = none) {i : Nat} (hi : i < vs.length) : decAt L vs share u i = false := by
  unfold dec at h
  rw [List.find?_range_eq_none] at h
  simpa using h i hi

theorem outc_nil {L : List Int} {share u : Int} (hb : tBad L share = false) : outc L [] share u = 0 := by
  have := need_bd hb
  unfold outc says
  have h1 : ¬ nNeed L.length share ≤ ((yesN (cnt L u []) : Nat) : Int) := by simp [cnt, yesN]; omega
  have h2 : ¬ (L.length : Int) - nNeed L.length share < ((cnt L u []).length : Int) - (yesN (cnt L u []) : Nat) := by simp [cnt, yesN]; omega
  simp only [h1, h2, if_false]

theorem decB_out {L : List Int} {vs : List V} {share u : Int} (h : okM L = true) (hb : tBad L share = false) : decB L vs share u = decide (outc L vs share u ≠ 0) := by
  unfold decB
  cases hd : dec L vs share u with
  | some k =>
    obtain ⟨h1, h2, h3⟩ := dec_spec hd
    rw [decAt_out h hb] at h2
    have h4 := of_decide_eq_true h2
    have := outc_stays (ms := vs.drop (k + 1)) h4
    rw [List.take_append_drop] at this
    rw [this]
    simp [h4]
  | none =>
    by_cases hv : vs = []
    · subst hv; simp [outc_nil hb]
    · have hp : 0 < vs.length := List.length_pos_iff.2 hv
      have := dec_noneAt hd (i := vs.length - 1) (by omega)
      rw [decAt_out h hb, show vs.length - 1 + 1 = vs.length by omega, List.take_length] at this
      simp at this
      simp [this]

theorem dec_yes {L : List Int} {vs ms : List V} {share u : Int} (h : decB L vs share u = true) : dec L (vs ++ ms) share u = dec L vs share u := by
  unfold decB at h
  obtain ⟨k, hk⟩ := Option.isSome_iff_exists.1 h
  obtain ⟨h1, h2, h3⟩ := dec_spec hk
  rw [hk]
  exact dec_at (by simp; omega) (by rw [decAt_app h1]; exact h2) (fun i hi => by rw [decAt_app (by omega)]; exact h3 i hi)
theorem dec_no {L : List Int} {vs ms : List V} {share u : Int} (h : decB L vs share u = false) (hm : decB L (vs ++ ms) share u = true) : (vs.length : Int) ≤ decI L (vs ++ ms) share u := by
  unfold decB at h hm
  obtain ⟨k, hk⟩ := Option.isSome_iff_exists.1 hm
  obtain ⟨h1, h2, h3⟩ := dec_spec hk
  have hn : dec L vs share u = none := by simpa using h
  unfold decI
  rw [hk]
  simp only []
  refine Int.ofNat_le.2 (Nat.le_of_not_lt fun hlt => ?_)
  rw [decAt_app hlt, dec_noneAt hn hlt] at h2
  cases h2

/-- The law in plain words. -/
def staysOK (L : List Int) (vs ms : List V) (share u day later : Int) : Prop :=
  (tally L (vs ++ ms) share u (u + 1) = 1 ∨ tally L (vs ++ ms) share u (u + 1) = 2) ∧
  (decB L vs share u = true → decB L (vs ++ ms) share u = true ∧ decI L vs share u = decI L (vs ++ ms) share u) ∧
  (decB L vs share u = false → decB L (vs ++ ms) share u = true → (vs.length : Int) ≤ decI L (vs ++ ms) share u) ∧
  (tally L vs share u day = 0 → day ≤ u ∧ decB L vs share u = false) ∧
  (tally L vs share u day ≠ 0 → (tally L vs share u day = 2 ∧ decB L vs share u = false ∧ u < day) ∨ decB L vs share u = true ∧ tally L (vs ++ ms) share u (day + later) = tally L vs share u day)
theorem stays {L : List Int} {vs ms : List V} {share u day later : Int} (h : okM L = true) (hb : tBad L share = false) : staysOK L vs ms share u day later := by
  refine ⟨?_, fun hd => ?_, fun hd hm => dec_no hd hm, fun h0 => ?_, fun h0 => ?_⟩
  · rw [tally_out h hb]
    rcases outc_cases L (vs ++ ms) share u with e | e | e <;> simp [e]
    omega
  · have := dec_yes (ms := ms) hd
    refine ⟨?_, ?_⟩
    · unfold decB; rw [this]; exact hd
    · unfold decI; rw [this]
  · rw [tally_out h hb] at h0
    rw [decB_out h hb]
    split at h0
    · omega
    · rename_i hn
      refine ⟨by omega, by simp [h0]⟩
  · rw [tally_out h hb] at h0 ⊢
    rw [decB_out h hb, tally_out h hb]
    by_cases h1 : outc L vs share u = 0
    · left
      simp [h1] at h0 ⊢
      exact h0
    · right
      have := outc_stays (ms := ms) h1
      rw [this]
      simp [h1]

end Go.Proofs.Ytgccheogieddnaa
