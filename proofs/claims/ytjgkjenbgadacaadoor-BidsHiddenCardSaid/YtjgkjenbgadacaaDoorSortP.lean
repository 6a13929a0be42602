/-
  Sorting in plain words: places are sorted by what stands at them, the greater first, and of equals the earlier first.
-/
import Derived.Test.YtjgkjenbgadacaaDoorFw4
set_option linter.all false
namespace Go.Proofs.YtjgkjenbgadacaaDoor

/-- Whether x comes before y. -/
def bef (K : Int → Int) (x y : Int) : Prop := K y < K x ∨ (K x = K y ∧ x < y)
instance (K : Int → Int) (x y : Int) : Decidable (bef K x y) := by unfold bef; infer_instance
theorem bef_trans {K : Int → Int} {x y z : Int} (h1 : bef K x y) (h2 : bef K y z) : bef K x z := by unfold bef at *; omega
theorem bef_total {K : Int → Int} {x y : Int} (h : x ≠ y) : bef K x y ∨ bef K y x := by unfold bef; omega
theorem bef_asymm {K : Int → Int} {x y : Int} (h1 : bef K x y) : ¬ bef K y x := by unfold bef at *; omega

def insB (K : Int → Int) (x : Int) : List Int → List Int
  | [] => [x]
  | y :: l => if bef K x y then x :: y :: l else y :: insB K x l
def srt (K : Int → Int) (l : List Int) : List Int := l.foldl (fun s x => insB K x s) []
theorem srt_nil (K : Int → Int) : srt K [] = [] := rfl
theorem srt_snoc (K : Int → Int) (l : List Int) (x : Int) : srt K (l ++ [x]) = insB K x (srt K l) := by unfold srt; rw [List.foldl_append]; rfl
theorem insB_perm (K : Int → Int) (x : Int) : ∀ l, (insB K x l).Perm (x :: l)
  | [] => .refl _
  | y :: l => by
    unfold insB
    split
    · exact .refl _
    · exact ((insB_perm K x l).cons y).trans (.swap x y l)
theorem srt_perm (K : Int → Int) (l : List Int) : (srt K l).Perm l := by
  have : ∀ k, k ≤ l.length → (srt K (l.take k)).Perm (l.take k) := by
    intro k
    induction k with
    | zero => intro _; exact .refl _
    | succ k ih =>
      intro hk
      rw [List.take_succ_eq_append_getElem (by omega), srt_snoc]
      exact (insB_perm K _ _).trans (((ih (by omega)).cons _).trans (List.perm_append_singleton _ _).symm)
  have := this l.length (Nat.le_refl _)
  rwa [List.take_length] at this
theorem insB_sorted {K : Int → Int} {x : Int} : ∀ {l : List Int}, l.Pairwise (bef K) → x ∉ l → (insB K x l).Pairwise (bef K)
  | [], _, _ => by simp [insB]
  | y :: l, h, hx => by
    rw [List.pairwise_cons] at h
    simp only [List.mem_cons, not_or] at hx
    unfold insB
    split
    · rename_i hb
      refine List.pairwise_cons.2 ⟨fun z hz => ?_, List.pairwise_cons.2 h⟩
      rcases List.mem_cons.1 hz with rfl | hz
      · exact hb
      · exact bef_trans hb (h.1 z hz)
    · rename_i hb
      refine List.pairwise_cons.2 ⟨fun z hz => ?_, insB_sorted h.2 hx.2⟩
      rcases List.mem_cons.1 ((insB_perm K x l).mem_iff.1 hz) with rfl | hz
      · exact (bef_total hx.1).resolve_left hb
      · exact h.1 z hz
theorem srt_sorted {K : Int → Int} {l : List Int} (hn : l.Nodup) : (srt K l).Pairwise (bef K) := by
  have : ∀ k, k ≤ l.length → (srt K (l.take k)).Pairwise (bef K) := by
    intro k
    induction k with
    | zero => intro _; exact List.Pairwise.nil
    | succ k ih =>
      intro hk
      have hkl : k < l.length := by omega
      rw [List.take_succ_eq_append_getElem hkl, srt_snoc]
      refine insB_sorted (ih (by omega)) fun hm => ?_
      have hm := (srt_perm K _).mem_iff.1 hm
      obtain ⟨j, hj, e⟩ := List.mem_take_iff_getElem.1 hm
      have := (List.getElem_inj hn).1 e
      omega
  have := this l.length (Nat.le_refl _)
  rwa [List.take_length] at this
theorem srt_len (K : Int → Int) (l : List Int) : (srt K l).length = l.length := (srt_perm K l).length_eq
/-- Where an element is put into a sorted list. -/
theorem insB_at {K : Int → Int} {x : Int} : ∀ {s : List Int} (k : Nat), s.Pairwise (bef K) → k ≤ s.length → (∀ e ∈ s.take k, bef K e x) → (∀ e ∈ s.drop k, bef K x e) → insB K x s = s.take k ++ x :: s.drop k
  | [], k, _, _, _, _ => by simp [insB]
  | y :: s, 0, _, _, _, h2 => by
    have := h2 y (by simp)
    simp [insB, this]
  | y :: s, k + 1, h, hk, h1, h2 => by
    have hy : bef K y x := h1 y (by simp)
    rw [List.pairwise_cons] at h
    have ih := insB_at k h.2 (by simpa using hk) (fun e he => h1 e (by simp [he])) (fun e he => h2 e (by simpa using he))
    unfold insB
    rw [if_neg (bef_asymm hy), ih]
    rfl
/-- Three parts of a row. -/
def r3 (a b c : List Int) : List Int := a ++ b ++ c
@[simp] theorem r3_len (a b c : List Int) : (r3 a b c).length = a.length + b.length + c.length := by simp [r3]; omega
/-- A row while an element goes down: x stands at place k among s. -/
def rowX (pre s : List Int) (x : Int) (post : List Int) (k : Nat) : List Int := pre ++ (s.take k ++ x :: s.drop k) ++ post
theorem rowX_len {pre s : List Int} {x : Int} {post : List Int} {k : Nat} (h : k ≤ s.length) : (rowX pre s x post k).length = pre.length + s.length + 1 + post.length := by
  simp [rowX]; omega
theorem rowX_at {pre s : List Int} {x : Int} {post : List Int} {k : Nat} (h : k ≤ s.length) (hl : pre.length + k < (rowX pre s x post k).length) : (rowX pre s x post k)[pre.length + k] = x := by
  simp only [rowX, List.append_assoc]
  rw [List.getElem_append_right (by omega), List.getElem_append_right (by simp; omega)]
  simp [Nat.min_eq_left h]
theorem rowX_prev {pre s : List Int} {x : Int} {post : List Int} {k : Nat} (h : k < s.length) (hl : pre.length + k < (rowX pre s x post (k + 1)).length) : (rowX pre s x post (k + 1))[pre.length + k] = s[k] := by
  simp only [rowX, List.append_assoc]
  rw [List.getElem_append_right (by omega), List.getElem_append_left (by simp; omega)]
  simp
theorem rowX_swap {pre s : List Int} {x : Int} {post : List Int} {k : Nat} (h : k < s.length) : ((rowX pre s x post (k + 1)).set (pre.length + (k + 1)) s[k]).set (pre.length + k) x = rowX pre s x post k := by
  have e1 : s.take (k + 1) = s.take k ++ [s[k]] := List.take_succ_eq_append_getElem h
  have e2 : s.drop k = s[k] :: s.drop (k + 1) := List.drop_eq_getElem_cons h
  have hk : (s.take k).length = k := by simp; omega
  simp only [rowX, e1, e2, List.append_assoc]
  rw [List.set_append_right _ _ (by omega), List.set_append_right _ _ (by omega)]
  congr 1
  rw [show pre.length + (k + 1) - pre.length = k + 1 by omega, show pre.length + k - pre.length = k by omega]
  rw [List.set_append_right _ _ (by omega), List.set_append_right _ _ (by omega), hk]
  congr 1
  simp
  rw [e2]; rfl

end Go.Proofs.YtjgkjenbgadacaaDoor
