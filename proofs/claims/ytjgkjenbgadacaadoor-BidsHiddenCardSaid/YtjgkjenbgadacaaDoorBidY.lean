/-
  Layer 24 in plain words: hidden bids: texts that differ, entries and marks.
-/
import Derived.Test.YtjgkjenbgadacaaDoorBidX
set_option linter.all false
namespace Go.Proofs.YtjgkjenbgadacaaDoor
open Go.Ab Go.Proofs.YtjgkjenbgadacaaDoor.S

theorem dd_no59 (u : Nat) : (59 : UInt8) ∉ Lib.decDigits u := by
  induction u using Nat.strongRecOn with
  | _ u ih =>
    rw [Lib.decDigits]
    split
    · rename_i h
      have : u = 0 ∨ u = 1 ∨ u = 2 ∨ u = 3 ∨ u = 4 ∨ u = 5 ∨ u = 6 ∨ u = 7 ∨ u = 8 ∨ u = 9 := by omega
      rcases this with rfl | rfl | rfl | rfl | rfl | rfl | rfl | rfl | rfl | rfl <;> decide
    · rename_i h
      rw [List.mem_append, not_or]
      refine ⟨ih (u / 10) (by omega), ?_⟩
      have : u % 10 = 0 ∨ u % 10 = 1 ∨ u % 10 = 2 ∨ u % 10 = 3 ∨ u % 10 = 4 ∨ u % 10 = 5 ∨ u % 10 = 6 ∨ u % 10 = 7 ∨ u % 10 = 8 ∨ u % 10 = 9 := by omega
      rcases this with e | e | e | e | e | e | e | e | e | e <;> rw [e] <;> decide
/-- What digits say. -/
def valD (l : List UInt8) : Nat := l.foldl (fun a d => a * 10 + (d.toNat - 48)) 0
theorem valD_dd (u : Nat) : valD (Lib.decDigits u) = u := by
  induction u using Nat.strongRecOn with
  | _ u ih =>
    rw [Lib.decDigits]
    split
    · rename_i h
      have : u = 0 ∨ u = 1 ∨ u = 2 ∨ u = 3 ∨ u = 4 ∨ u = 5 ∨ u = 6 ∨ u = 7 ∨ u = 8 ∨ u = 9 := by omega
      rcases this with rfl | rfl | rfl | rfl | rfl | rfl | rfl | rfl | rfl | rfl <;> decide
    · rename_i h
      have h1 := ih (u / 10) (by omega)
      unfold valD at h1 ⊢
      rw [List.foldl_append, h1]
      have hd : ∀ d, d < 10 → (UInt8.ofNat (48 + d)).toNat - 48 = d := fun d hd => by
        have : d = 0 ∨ d = 1 ∨ d = 2 ∨ d = 3 ∨ d = 4 ∨ d = 5 ∨ d = 6 ∨ d = 7 ∨ d = 8 ∨ d = 9 := by omega
        rcases this with rfl | rfl | rfl | rfl | rfl | rfl | rfl | rfl | rfl | rfl <;> decide
      simp only [List.foldl_cons, List.foldl_nil]
      rw [hd _ (by omega)]; omega
theorem dd_inj {u v : Nat} (h : Lib.decDigits u = Lib.decDigits v) : u = v := by rw [← valD_dd u, ← valD_dd v, h]
theorem cut59 : ∀ {A B X Y : List UInt8}, (59 : UInt8) ∉ A → (59 : UInt8) ∉ B → A ++ 59 :: X = B ++ 59 :: Y → A = B ∧ X = Y
  | [], [], X, Y, _, _, h => by simpa using h
  | [], b :: B, X, Y, _, hB, h => by
    simp only [List.nil_append, List.cons_append, List.cons.injEq] at h
    exact absurd (h.1 ▸ List.mem_cons_self) hB
  | a :: A, [], X, Y, hA, _, h => by
    simp only [List.nil_append, List.cons_append, List.cons.injEq] at h
    exact absurd (h.1.symm ▸ List.mem_cons_self) hA
  | a :: A, b :: B, X, Y, hA, hB, h => by
    simp only [List.cons_append, List.cons.injEq] at h
    obtain ⟨h1, h2⟩ := cut59 (fun q => hA (List.mem_cons_of_mem _ q)) (fun q => hB (List.mem_cons_of_mem _ q)) h.2
    exact ⟨by rw [h.1, h1], h2⟩
theorem hidT_at {c p n : Int} (hc : 0 ≤ c) (hp : 0 ≤ p) (hn : 0 ≤ n) : hidT c p n = [98, 105, 100, 58] ++ (Lib.decDigits c.toNat ++ 59 :: (Lib.decDigits p.toNat ++ 59 :: (Lib.decDigits n.toNat ++ 59 :: []))) := by
  unfold hidT numT
  rw [if_neg (by omega), if_neg (by omega), if_neg (by omega), if_neg (by omega)]
  simp
theorem hidT_ne {c p n : Int} : hidT c p n ≠ [] ↔ 0 ≤ c ∧ 0 ≤ p ∧ 0 ≤ n := by
  constructor
  · intro h
    by_cases q : c < 0 ∨ p < 0 ∨ n < 0
    · exact absurd (if_pos q) h
    · omega
  · rintro ⟨h1, h2, h3⟩
    rw [hidT_at h1 h2 h3]; simp
theorem hidT_inj {c p n c' p' n' : Int} (h0 : hidT c p n ≠ []) (h : hidT c p n = hidT c' p' n') : c = c' ∧ p = p' ∧ n = n' := by
  obtain ⟨h1, h2, h3⟩ := hidT_ne.1 h0
  obtain ⟨g1, g2, g3⟩ := hidT_ne.1 (h ▸ h0)
  rw [hidT_at h1 h2 h3, hidT_at g1 g2 g3] at h
  have h := List.append_cancel_left h
  obtain ⟨e1, h⟩ := cut59 (dd_no59 _) (dd_no59 _) h
  obtain ⟨e2, h⟩ := cut59 (dd_no59 _) (dd_no59 _) h
  obtain ⟨e3, _⟩ := cut59 (dd_no59 _) (dd_no59 _) h
  have e1 := dd_inj e1
  have e2 := dd_inj e2
  have e3 := dd_inj e3
  omega

abbrev hB (c p n : Int) : ByteArray := ⟨(hidT c p n).toArray⟩
theorem hB_eq {c p n c' p' n' : Int} : hB c p n = hB c' p' n' ↔ hidT c p n = hidT c' p' n' := by
  constructor
  · intro h; have := congrArg (fun s : ByteArray => s.data.toList) h; simpa using this
  · intro h; unfold hB; rw [h]

/-- The entries, all signed one after the other. -/
def entL (c p : Int) (L : List Bd) : List S.E := L.foldl (fun X b => sigL X b.w (hB c p b.n)) []
theorem entL_succ (c p : Int) {L : List Bd} {k : Nat} (hk : k < L.length) : entL c p (L.take (k + 1)) = sigL (entL c p (L.take k)) L[k].w (hB c p L[k].n) := by
  unfold entL
  rw [List.take_succ_eq_append_getElem hk, List.foldl_append]; rfl
theorem sigL_pre (X : List S.E) (k : Int) (t : ByteArray) : ∃ R, sigL X k t = X ++ R := by
  unfold sigL
  split
  · exact ⟨_, rfl⟩
  · exact ⟨[], by simp⟩
theorem sigL_mem (X : List S.E) (k : Int) (t : ByteArray) (e : S.E) : e ∈ sigL X k t ↔ e ∈ X ∨ (isKey k = true ∧ e = ⟨k, t⟩) := by
  unfold sigL
  split
  · rename_i h
    simp only [Bool.and_eq_true] at h
    simp [h.1]
  · rename_i h
    simp only [Bool.and_eq_true, Bool.not_eq_true', decide_eq_false_iff_not, not_and, Classical.not_not] at h
    constructor
    · exact .inl
    · rintro (q | ⟨q1, rfl⟩)
      · exact q
      · exact h q1
theorem sigL_len (X : List S.E) (k : Int) (t : ByteArray) : (sigL X k t).length ≤ X.length + 1 := by
  unfold sigL; split <;> simp
theorem ent_mem (c p : Int) (L : List Bd) (e : S.E) : ∀ k, k ≤ L.length → (e ∈ entL c p (L.take k) ↔ ∃ j, ∃ hj : j < L.length, j < k ∧ isKey L[j].w = true ∧ e = ⟨L[j].w, hB c p L[j].n⟩)
  | 0, _ => by simp [entL]
  | k + 1, h => by
    have hk : k < L.length := by omega
    rw [entL_succ c p hk, sigL_mem, ent_mem c p L e k (by omega)]
    constructor
    · rintro (⟨j, hj, h1, h2⟩ | ⟨h1, h2⟩)
      · exact ⟨j, hj, by omega, h2⟩
      · exact ⟨k, hk, by omega, h1, h2⟩
    · rintro ⟨j, hj, h1, h2⟩
      by_cases e : j = k
      · subst e; exact .inr h2
      · exact .inl ⟨j, hj, by omega, h2⟩
theorem ent_pre (c p : Int) (L : List Bd) : ∀ d k, k + d ≤ L.length → ∃ R, entL c p (L.take (k + d)) = entL c p (L.take k) ++ R
  | 0, k, _ => ⟨[], by simp⟩
  | d + 1, k, h => by
    obtain ⟨R, hR⟩ := ent_pre c p L d k (by omega)
    rw [← Nat.add_assoc, entL_succ c p (show k + d < L.length by omega)]
    obtain ⟨R2, hR2⟩ := sigL_pre (entL c p (L.take (k + d))) L[k + d].w (hB c p L[k + d].n)
    rw [hR2, hR]
    exact ⟨R ++ R2, by rw [List.append_assoc]⟩
theorem ent_len (c p : Int) (L : List Bd) : ∀ k, k ≤ L.length → (entL c p (L.take k)).length ≤ k
  | 0, _ => by simp [entL]
  | k + 1, h => by
    rw [entL_succ c p (show k < L.length by omega)]
    have := sigL_len (entL c p (L.take k)) L[k].w (hB c p L[k].n)
    have := ent_len c p L k (by omega)
    omega

/-- Where an entry stands. -/
def place (X : List S.E) (e : S.E) : Nat := X.findIdx (· = e)
theorem place_lt {X : List S.E} {e : S.E} (h : e ∈ X) : ∃ hp : place X e < X.length, X[place X e] = e := by
  have h1 : place X e < X.length := List.findIdx_lt_length.2 ⟨e, h, by simp⟩
  refine ⟨h1, ?_⟩
  have := List.findIdx_getElem (p := fun x : S.E => decide (x = e)) (w := h1)
  exact of_decide_eq_true this
theorem place_inj {X : List S.E} {a b : S.E} (ha : a ∈ X) (hb : b ∈ X) (h : place X a = place X b) : a = b := by
  obtain ⟨h1, e1⟩ := place_lt ha
  obtain ⟨h2, e2⟩ := place_lt hb
  rw [← e1, ← e2]; simp only [h]
theorem place_app {X R : List S.E} {e : S.E} (h : e ∈ X) : place (X ++ R) e = place X e := by
  obtain ⟨h1, _⟩ := place_lt h
  unfold place at *
  rw [List.findIdx_append, if_pos h1]
theorem place_new {X R : List S.E} {e : S.E} (h : e ∉ X) : place (X ++ e :: R) e = X.length := by
  unfold place
  have h1 : ¬ X.findIdx (· = e) < X.length := fun q => by
    obtain ⟨x, hx, hxe⟩ := List.findIdx_lt_length.1 q
    exact h ((of_decide_eq_true hxe) ▸ hx)
  rw [List.findIdx_append, if_neg h1, List.findIdx_cons]
  simp

/-- The mark that signing gave. -/
def markAt (c p : Int) (L : List Bd) (i : Nat) : G := sigOf (entL c p (L.take i)) (L.getD i default).w (hB c p (L.getD i default).n)
theorem mark_key {c p : Int} {L : List Bd} {i : Nat} (hi : i < L.length) (hk : isKey L[i].w = true) : markAt c p L i = ⟨L[i].w, hB c p L[i].n, (place (entL c p L) ⟨L[i].w, hB c p L[i].n⟩ : Nat)⟩ ∧ (⟨L[i].w, hB c p L[i].n⟩ : S.E) ∈ entL c p L := by
  have hg : L.getD i default = L[i] := by rw [List.getD_eq_getElem?_getD, List.getElem?_eq_getElem hi]; rfl
  have hm : (⟨L[i].w, hB c p L[i].n⟩ : S.E) ∈ entL c p L := by
    have := (ent_mem c p L ⟨L[i].w, hB c p L[i].n⟩ L.length (Nat.le_refl _)).2 ⟨i, hi, hi, hk, rfl⟩
    rwa [List.take_length] at this
  obtain ⟨d, hd⟩ : ∃ d, L.length = (i + 1) + d := ⟨L.length - (i + 1), by omega⟩
  obtain ⟨R, hR⟩ := ent_pre c p L d (i + 1) (by omega)
  rw [← hd, List.take_length, entL_succ c p hi] at hR
  refine ⟨?_, hm⟩
  unfold markAt sigOf
  rw [hg, if_pos hk]
  congr 1
  by_cases hx : (⟨L[i].w, hB c p L[i].n⟩ : S.E) ∈ entL c p (L.take i)
  · rw [if_pos hx]
    have e : sigL (entL c p (L.take i)) L[i].w (hB c p L[i].n) = entL c p (L.take i) := by unfold sigL; rw [if_neg (by simp [hx])]
    rw [hR, e, place_app hx]; rfl
  · rw [if_neg hx]
    have e : sigL (entL c p (L.take i)) L[i].w (hB c p L[i].n) = entL c p (L.take i) ++ [⟨L[i].w, hB c p L[i].n⟩] := by unfold sigL; rw [if_pos (by simp [hx, hk])]
    rw [hR, e, List.append_assoc, List.singleton_append, place_new hx]
theorem mark_not {c p : Int} {L : List Bd} {i : Nat} (hi : i < L.length) (hk : isKey L[i].w = false) : markAt c p L i = ⟨0, ⟨#[]⟩, 0⟩ := by
  have hg : L.getD i default = L[i] := by rw [List.getD_eq_getElem?_getD, List.getElem?_eq_getElem hi]; rfl
  unfold markAt sigOf
  rw [hg, if_neg (by rw [hk]; simp)]

/-- Whether a signature opens a bid. -/
def opnB (X : List S.E) (k m c p n : Int) : Bool := decide (hidT c p n ≠ []) && holds X ⟨k, hB c p n, m⟩
theorem opnB_iff {X : List S.E} {k m c p n : Int} : opnB X k m c p n = true ↔ hidT c p n ≠ [] ∧ (⟨k, hB c p n⟩ : S.E) ∈ X ∧ (place X ⟨k, hB c p n⟩ : Int) = m := by
  simp only [opnB, holds, Bool.and_eq_true, decide_eq_true_eq]; rfl

section
variable {c p : Int} {L : List Bd} {i : Nat}
theorem opens_own (hc : 0 ≤ c) (hp : 0 ≤ p) (hi : i < L.length) : opnB (entL c p L) L[i].w (markAt c p L i).mark c p L[i].n = (isKey L[i].w && decide (0 ≤ L[i].n)) := by
  rw [Bool.eq_iff_iff, opnB_iff, Bool.and_eq_true, decide_eq_true_eq]
  constructor
  · rintro ⟨h1, h2, _⟩
    have := (ent_mem c p L _ L.length (Nat.le_refl _)).1 (by rw [List.take_length]; exact h2)
    obtain ⟨j, hj, _, h4, h5⟩ := this
    have : L[i].w = L[j].w := congrArg S.E.key h5
    rw [this]
    exact ⟨h4, (hidT_ne.1 h1).2.2⟩
  · rintro ⟨h1, h2⟩
    obtain ⟨h3, h4⟩ := mark_key (c := c) (p := p) hi h1
    exact ⟨hidT_ne.2 ⟨hc, hp, h2⟩, h4, by rw [h3]⟩
theorem opens_not {k c' p' n : Int} (hi : i < L.length) (hk : isKey L[i].w = true) (hne : hidT c p L[i].n ≠ []) (hd : ¬ (k = L[i].w ∧ c' = c ∧ p' = p ∧ n = L[i].n)) : opnB (entL c p L) k (markAt c p L i).mark c' p' n = false := by
  rw [← Bool.not_eq_true, opnB_iff]
  rintro ⟨h1, h2, h3⟩
  obtain ⟨h4, h5⟩ := mark_key (c := c) (p := p) hi hk
  rw [h4] at h3
  have e := place_inj h2 h5 (by have h3' : (place (entL c p L) ⟨k, hB c' p' n⟩ : Int) = (place (entL c p L) ⟨L[i].w, hB c p L[i].n⟩ : Nat) := h3
                                omega)
  have e1 : k = L[i].w := congrArg S.E.key e
  have e2 : hB c' p' n = hB c p L[i].n := congrArg S.E.text e
  have := hidT_inj h1 (hB_eq.1 e2)
  exact hd ⟨e1, this.1, this.2.1, this.2.2⟩
/-- Whether one of the first k is it. -/
def isOne (c p : Int) (L : List Bd) (key mark n : Int) (k : Nat) : Bool := (List.range k).any fun i => decide ((markAt c p L i).mark = mark) && decide ((L.getD i default).w = key) && decide ((L.getD i default).n = n) && decide (0 ≤ n) && isKey key
theorem isOne_succ (c p : Int) (L : List Bd) (key mark n : Int) {k : Nat} (hk : k < L.length) : isOne c p L key mark n (k + 1) = (isOne c p L key mark n k || (decide ((markAt c p L k).mark = mark) && decide (L[k].w = key) && decide (L[k].n = n) && decide (0 ≤ n) && isKey key)) := by
  have hg : L.getD k default = L[k] := by rw [List.getD_eq_getElem?_getD, List.getElem?_eq_getElem hk]; rfl
  unfold isOne
  rw [List.range_succ, List.any_append, List.any_cons, List.any_nil, Bool.or_false, hg]
theorem opens_all (hc : 0 ≤ c) (hp : 0 ≤ p) (key mark n : Int) : opnB (entL c p L) key mark c p n = isOne c p L key mark n L.length := by
  rw [Bool.eq_iff_iff, opnB_iff]
  unfold isOne
  simp only [List.any_eq_true, List.mem_range, Bool.and_eq_true, decide_eq_true_eq]
  constructor
  · rintro ⟨h1, h2, h3⟩
    obtain ⟨j, hj, _, h4, h5⟩ := (ent_mem c p L _ L.length (Nat.le_refl _)).1 (by rw [List.take_length]; exact h2)
    have hg : L.getD j default = L[j] := by rw [List.getD_eq_getElem?_getD, List.getElem?_eq_getElem hj]; rfl
    have e1 : key = L[j].w := congrArg S.E.key h5
    have e2 := hidT_inj h1 (hB_eq.1 (congrArg S.E.text h5))
    obtain ⟨h6, _⟩ := mark_key (c := c) (p := p) hj h4
    refine ⟨j, hj, ⟨⟨⟨⟨?_, ?_⟩, ?_⟩, ?_⟩, ?_⟩⟩
    · rw [h6, ← h3, e1, e2.2.2]
    · rw [hg]; exact e1.symm
    · rw [hg]; exact e2.2.2.symm
    · exact (hidT_ne.1 h1).2.2
    · rw [e1]; exact h4
  · rintro ⟨j, hj, ⟨⟨⟨h1, h2⟩, h3⟩, h4⟩, h5⟩
    have hg : L.getD j default = L[j] := by rw [List.getD_eq_getElem?_getD, List.getElem?_eq_getElem hj]; rfl
    rw [hg] at h2 h3
    subst h2 h3
    obtain ⟨h6, h7⟩ := mark_key (c := c) (p := p) hj h5
    rw [h6] at h1
    exact ⟨hidT_ne.2 ⟨hc, hp, h4⟩, h7, h1⟩
end

end Go.Proofs.YtjgkjenbgadacaaDoor
