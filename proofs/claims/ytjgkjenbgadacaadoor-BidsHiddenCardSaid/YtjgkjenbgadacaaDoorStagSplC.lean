/-
  Sorting places: in general.
-/
import Derived.Test.YtjgkjenbgadacaaDoorSymgSplC
set_option linter.all false
namespace Go.Proofs.YtjgkjenbgadacaaDoor
open Go.RowKit Go.Ab
attribute [local irreducible] AWP Go.Ab.Sub Means MeansH CallK CallG CallT CallGT CallU

abbrev allLt (l : List Int) : Prop := l.Pairwise (· < ·)
theorem lt_nodup {l : List Int} (h : allLt l) : l.Nodup := h.imp fun h e => by omega
theorem lt_drop {l : List Int} (h : allLt l) (k : Nat) : allLt (l.drop k) := h.sublist (List.drop_sublist _ _)
theorem lt_take {l : List Int} (h : allLt l) (k : Nat) : allLt (l.take k) := h.sublist (List.take_sublist _ _)
theorem lt_split {l : List Int} (h : allLt l) (k : Nat) : ∀ x ∈ l.take k, ∀ y ∈ l.drop k, x < y := by
  have := h
  rw [← List.take_append_drop k l, allLt, List.pairwise_append] at this
  exact this.2.2

/-- What is sorted in places of s: the first a already in places of 2 s. -/
def half (K : Int → Int) (s : Nat) (l : List Int) (a : Nat) : List Int := bsort K (2 * s) (l.take a) ++ bsort K s (l.drop a)
theorem srt_two (K : Int → Int) {l : List Int} (h : l.Nodup) (s : Nat) : srt K (srt K (l.take s) ++ srt K (l.drop s)) = srt K l := by
  refine srt_uniq ?_ (srt_sorted ?_)
  · refine (srt_perm K _).trans (((srt_perm K _).append (srt_perm K _)).trans ?_)
    rw [List.take_append_drop]
  · refine (((srt_perm K _).append (srt_perm K _)).nodup_iff).2 ?_
    rw [List.take_append_drop]; exact h
/-- A step of the merging: both halves of a place. -/
theorem half_cut {K : Int → Int} {s : Nat} (hs : 0 < s) (l : List Int) (a : Nat) : half K s l a = r4 (bsort K (2 * s) (l.take a), srt K ((l.drop a).take s), srt K ((l.drop (a + s)).take s), bsort K s (l.drop (a + s + s))) := by
  unfold half
  rw [bsort_cut (l := l.drop a) hs, List.drop_drop, bsort_cut (l := l.drop (a + s)) hs, List.drop_drop]
  simp [r4]
theorem half_step {K : Int → Int} {s : Nat} (hs : 0 < s) {l : List Int} (hn : l.Nodup) (t : Nat) (h : t * (2 * s) + 2 * s ≤ l.length) :
    r3 (bsort K (2 * s) (l.take (t * (2 * s)))) (srt K (srt K ((l.drop (t * (2 * s))).take s) ++ srt K ((l.drop (t * (2 * s) + s)).take s))) (bsort K s (l.drop (t * (2 * s) + s + s))) = half K s l (t * (2 * s) + 2 * s) := by
  obtain ⟨a, ha⟩ : ∃ a, t * (2 * s) = a := ⟨_, rfl⟩
  have e1 : bsort K (2 * s) (l.take (a + 2 * s)) = bsort K (2 * s) (l.take a) ++ srt K ((l.drop a).take (2 * s)) := by
    rw [bsort_app (by omega) t (l.take (a + 2 * s)) (by rw [List.length_take]; omega), ha, List.take_take, Nat.min_eq_left (by omega), List.drop_take, Nat.add_sub_cancel_left, bsort_few (l := List.take (2 * s) _) (by rw [List.length_take]; omega)]
  have e2 : srt K (srt K ((l.drop a).take s) ++ srt K ((l.drop (a + s)).take s)) = srt K ((l.drop a).take (2 * s)) := by
    have := srt_two K (l := (l.drop a).take (2 * s)) ((hn.sublist (List.drop_sublist _ _)).sublist (List.take_sublist _ _)) s
    rw [List.take_take, Nat.min_eq_left (by omega), List.drop_take, List.drop_drop, show 2 * s - s = s by omega] at this
    exact this
  rw [ha, e2]
  unfold half
  rw [e1, show a + s + s = a + 2 * s by omega]
  simp [r3]
theorem half_zero (K : Int → Int) {s : Nat} (l : List Int) : half K s l 0 = bsort K s l := by
  unfold half; rw [List.take_zero, bsort_few (by simp)]; simp [srt_nil']
/-- What is left is one place. -/
theorem half_done {K : Int → Int} {s : Nat} (hs : 0 < s) {l : List Int} (t : Nat) (h1 : t * (2 * s) ≤ l.length) (h2 : l.length ≤ t * (2 * s) + s) : half K s l (t * (2 * s)) = bsort K (2 * s) l := by
  rw [bsort_app (show 0 < 2 * s by omega) t l h1]
  unfold half
  rw [bsort_few (s := s) (by simp; omega), bsort_few (s := 2 * s) (l := l.drop _) (by simp; omega)]
/-- What is left is merged. -/
theorem half_last {K : Int → Int} {s : Nat} (hs : 0 < s) {l : List Int} (hn : l.Nodup) (t : Nat) (h1 : t * (2 * s) + s ≤ l.length) (h2 : l.length ≤ t * (2 * s) + 2 * s) :
    r3 (bsort K (2 * s) (l.take (t * (2 * s)))) (srt K (srt K ((l.drop (t * (2 * s))).take s) ++ srt K ((l.drop (t * (2 * s) + s)).take s))) (bsort K s (l.drop (t * (2 * s) + s + s))) = bsort K (2 * s) l := by
  have e2 := srt_two K (l := l.drop (t * (2 * s))) (hn.sublist (List.drop_sublist _ _)) s
  rw [List.drop_drop] at e2
  rw [bsort_app (show 0 < 2 * s by omega) t l (by omega), List.take_of_length_le (l := l.drop (t * (2 * s) + s)) (by simp; omega), e2, List.drop_of_length_le (l := l) (i := t * (2 * s) + s + s) (by omega), bsort_few (s := s) (by simp), bsort_few (s := 2 * s) (l := l.drop _) (by simp; omega)]
  simp [r3, srt_nil']
/-- The first places, sorted by twenties. -/
def twen (K : Int → Int) (l : List Int) (a : Nat) : List Int := bsort K 20 (l.take a) ++ l.drop a
theorem twen_zero (K : Int → Int) (l : List Int) : twen K l 0 = l := by unfold twen; rw [List.take_zero, bsort_few (by simp)]; simp [srt_nil']
theorem twen_cut (K : Int → Int) (l : List Int) (a c : Nat) : twen K l a = r3 (bsort K 20 (l.take a)) ((l.drop a).take c) (l.drop (a + c)) := by
  unfold twen r3; rw [List.append_assoc, ← List.drop_drop, List.take_append_drop]
theorem twen_step (K : Int → Int) {l : List Int} (t c : Nat) (hc : c ≤ 20) (h : t * 20 + c ≤ l.length) : r3 (bsort K 20 (l.take (t * 20))) (srt K ((l.drop (t * 20)).take c)) (l.drop (t * 20 + c)) = twen K l (t * 20 + c) := by
  unfold twen r3
  rw [bsort_app (K := K) (s := 20) (by omega) t (l.take (t * 20 + c)) (by rw [List.length_take]; omega), List.take_take, Nat.min_eq_left (by omega), List.drop_take, Nat.add_sub_cancel_left, bsort_few (l := List.take c _) (by simp; omega)]
theorem twen_full (K : Int → Int) (l : List Int) {a : Nat} (h : l.length ≤ a) : twen K l a = bsort K 20 l := by unfold twen; rw [List.take_of_length_le h, List.drop_of_length_le h, List.append_nil]

end Go.Proofs.YtjgkjenbgadacaaDoor
