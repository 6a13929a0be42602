/-
  Plain laws on turned voices and on one voice more.
-/
import Derived.Test.YtflcmfeafiippaaVoteP
set_option linter.all false
namespace Go.Proofs.Ytflcmfeafiippaa

def clean (L : List Int) (u : Int) (t : List V) : Prop := (∀ v ∈ t, v.day ≤ u ∧ v.who ∈ L) ∧ (t.map V.who).Nodup

theorem cnt_clean (L : List Int) (u : Int) (vs : List V) : clean L u (cnt L u vs) := by
  have : ∀ k, k ≤ vs.length → clean L u (cnt L u (vs.take k)) := by
    intro k
    induction k with
    | zero => intro _; simp [cnt, clean]
    | succ k ih =>
      intro hk
      have hk' : k < vs.length := by omega
      have ih := ih (by omega)
      rw [cnt_succ hk']
      unfold cstep
      split
      · exact ih
      · rename_i h
        simp [skips, spoke] at h
        obtain ⟨⟨h1, h2⟩, h3⟩ := h
        refine ⟨fun v hv => ?_, ?_⟩
        · rcases List.mem_append.1 hv with hv | hv
          · exact ih.1 v hv
          · simp at hv; subst hv; exact ⟨h1, h3⟩
        · rw [List.map_append, List.nodup_append]
          refine ⟨ih.2, by simp, ?_⟩
          intro a ha b hb
          simp at hb
          subst hb
          obtain ⟨v, hv, rfl⟩ := List.mem_map.1 ha
          exact h2 v hv
  have := this vs.length (Nat.le_refl _)
  rwa [List.take_length] at this
theorem clean_fix {L : List Int} {u : Int} {t : List V} (h : clean L u t) : cnt L u t = t := by
  have : ∀ k, k ≤ t.length → cnt L u (t.take k) = t.take k := by
    intro k
    induction k with
    | zero => intro _; simp [cnt]
    | succ k ih =>
      intro hk
      have hk' : k < t.length := by omega
      rw [cnt_succ hk', ih (by omega), List.take_succ_eq_append_getElem hk']
      have h1 := h.1 t[k] (List.getElem_mem hk')
      have h2 : t[k].who ∉ (t.take k).map V.who := by
        have hn := h.2
        rw [← List.take_append_drop k t, List.map_append, List.nodup_append] at hn
        intro hm
        refine hn.2.2 _ hm t[k].who ?_ rfl
        rw [List.drop_eq_getElem_cons hk', List.map_cons]; exact List.mem_cons_self
      have : skips L u (t.take k) t[k] = false := by
        simp only [skips, spoke, Bool.or_eq_false_iff, decide_eq_false_iff_not, Bool.not_eq_eq_eq_not, Bool.not_false, decide_eq_true_eq]
        exact ⟨⟨by omega, h2⟩, h1.2⟩
      simp [cstep, this]
  have := this t.length (Nat.le_refl _)
  rwa [List.take_length] at this
theorem clean_perm {L L' : List Int} {u : Int} {t t' : List V} (hL : ∀ x, x ∈ L → x ∈ L') (hp : t.Perm t') (h : clean L u t) : clean L' u t' :=
  ⟨fun v hv => ⟨(h.1 v (hp.mem_iff.2 hv)).1, hL _ (h.1 v (hp.mem_iff.2 hv)).2⟩, (hp.map V.who).nodup_iff.1 h.2⟩
theorem okM_reverse {L : List Int} (h : okM L = true) : okM L.reverse = true := by
  simp [okM] at h ⊢
  exact ⟨h.1, (List.reverse_perm L).nodup_iff.2 h.2⟩
theorem nodup_le : ∀ {a b : List Int}, a.Nodup → (∀ x ∈ a, x ∈ b) → a.length ≤ b.length
  | [], b, _, _ => Nat.zero_le _
  | x :: a, b, h, hs => by
    rw [List.nodup_cons] at h
    have hx := hs x (by simp)
    have h1 := nodup_le (a := a) (b := b.erase x) h.2 (fun y hy => by
      have : y ≠ x := by rintro rfl; exact h.1 hy
      exact (List.mem_erase_of_ne this).2 (hs y (by simp [hy])))
    have h2 := List.length_erase_of_mem hx
    have h3 := List.length_pos_of_mem hx
    simp only [List.length_cons]
    omega
theorem cnt_le (L : List Int) (u : Int) (vs : List V) : (cnt L u vs).length ≤ L.length := by
  have h := cnt_clean L u vs
  have := nodup_le h.2 (b := L) (fun x hx => by
    obtain ⟨v, hv, rfl⟩ := List.mem_map.1 hx
    exact (h.1 v hv).2)
  simpa using this
theorem turn_perm (l : List V) (n : Nat) : l.Perm (l.drop n ++ l.take n) := by
  have := List.perm_append_comm (l₁ := l.take n) (l₂ := l.drop n)
  rwa [List.take_append_drop] at this
theorem yesN_perm {l l' : List V} (h : l.Perm l') : yesN l = yesN l' := (h.filter _).length_eq
theorem tBad_reverse {L : List Int} {share : Int} (h : okM L = true) (hb : tBad L share = false) : tBad L.reverse share = false := by
  simp [tBad, okM_reverse h]
  simp [tBad] at hb
  exact hb.1
/-- Turned voices, members in the opposite order. -/
theorem tally_turned {L : List Int} {vs : List V} {share u day : Int} (n : Nat) (h : okM L = true) (hb : tBad L share = false) :
    tally L.reverse ((cnt L u vs).drop n ++ (cnt L u vs).take n) share u day = tally L vs share u day := by
  have hp := turn_perm (cnt L u vs) n
  have hc := clean_perm (L' := L.reverse) (fun x hx => by simpa using hx) hp (cnt_clean L u vs)
  rw [tally_ok hb, tally_ok (tBad_reverse h hb), counted_ok h, counted_ok (okM_reverse h), clean_fix hc]
  have e1 := yesN_perm hp
  have e2 := hp.length_eq
  unfold says
  rw [← e1, ← e2, List.length_reverse]
theorem cnt_snoc (L : List Int) (u : Int) (vs : List V) (v : V) : cnt L u (vs ++ [v]) = cnt L u vs ∨ cnt L u (vs ++ [v]) = cnt L u vs ++ [v] := by
  have : cnt L u (vs ++ [v]) = cstep L u (cnt L u vs) v := by unfold cnt; rw [List.foldl_append]; rfl
  rw [this]
  unfold cstep
  split
  · exact .inl rfl
  · exact .inr rfl
theorem tally_yes {L : List Int} {vs : List V} {share u day : Int} (w : Int) (h : okM L = true) (hb : tBad L share = false) :
    tally L (vs ++ [⟨0, w, true, u⟩]) share u day = tally L vs share u day ∨ tally L (vs ++ [⟨0, w, true, u⟩]) share u day = 1 := by
  rw [tally_ok hb, tally_ok hb, counted_ok h, counted_ok h]
  rcases cnt_snoc L u vs ⟨0, w, true, u⟩ with e | e
  · rw [e]; exact .inl rfl
  · rw [e]
    have e1 : yesN (cnt L u vs ++ [⟨0, w, true, u⟩]) = yesN (cnt L u vs) + 1 := by simp [yesN]
    unfold says
    rw [e1]
    by_cases h1 : nNeed L.length share ≤ ((yesN (cnt L u vs) + 1 : Nat) : Int)
    · right; simp only [h1, if_true]; simp
    · left
      have h2 : ¬ nNeed L.length share ≤ (yesN (cnt L u vs) : Int) := by omega
      simp only [h1, h2, if_false, List.length_append, List.length_singleton]
      have : ((L.length : Int) - nNeed L.length share < ((cnt L u vs).length + 1 : Nat) - ((yesN (cnt L u vs) + 1 : Nat) : Int)) = ((L.length : Int) - nNeed L.length share < ((cnt L u vs).length : Int) - yesN (cnt L u vs)) := by
        apply propext; omega
      simp only [this]
theorem tally_no {L : List Int} {vs : List V} {share u day : Int} (w : Int) (h : okM L = true) (hb : tBad L share = false) :
    tally L (vs ++ [⟨0, w, false, u⟩]) share u day = tally L vs share u day ∨ tally L (vs ++ [⟨0, w, false, u⟩]) share u day = 2 := by
  rw [tally_ok hb, tally_ok hb, counted_ok h, counted_ok h]
  rcases cnt_snoc L u vs ⟨0, w, false, u⟩ with e | e
  · rw [e]; exact .inl rfl
  · rw [e]
    have e1 : yesN (cnt L u vs ++ [⟨0, w, false, u⟩]) = yesN (cnt L u vs) := by simp [yesN]
    unfold says
    rw [e1]
    by_cases h1 : nNeed L.length share ≤ (yesN (cnt L u vs) : Int)
    · left; simp only [h1, if_true]
    · simp only [h1, if_false, List.length_append, List.length_singleton]
      by_cases h2 : (L.length : Int) - nNeed L.length share < ((cnt L u vs).length + 1 : Nat) - (yesN (cnt L u vs) : Int)
      · right; simp only [h2, if_true]; simp
      · left
        have h3 : ¬ ((L.length : Int) - nNeed L.length share < ((cnt L u vs).length : Int) - yesN (cnt L u vs)) := by omega
        simp only [h2, h3, if_false]

end Go.Proofs.Ytflcmfeafiippaa
