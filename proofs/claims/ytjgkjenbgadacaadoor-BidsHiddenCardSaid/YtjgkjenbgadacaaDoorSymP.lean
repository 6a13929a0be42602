/-
  Sorting in plain words: what merging gives.
-/
import Derived.Test.YtjgkjenbgadacaaDoorSortP
set_option linter.all false
namespace Go.Proofs.YtjgkjenbgadacaaDoor

theorem sorted_uniq {K : Int → Int} : ∀ {l m : List Int}, l.Perm m → l.Pairwise (bef K) → m.Pairwise (bef K) → l = m
  | [], m, hp, _, _ => by rw [List.nil_perm.1 hp]
  | x :: l, [], hp, _, _ => by have := List.perm_nil.1 hp; cases this
  | x :: l, y :: m, hp, h1, h2 => by
    rw [List.pairwise_cons] at h1 h2
    have e : x = y := by
      rcases List.mem_cons.1 (hp.mem_iff.1 (List.mem_cons_self (a := x) (l := l))) with h | hx
      · exact h
      · rcases List.mem_cons.1 (hp.mem_iff.2 (List.mem_cons_self (a := y) (l := m))) with h | hy
        · exact h.symm
        · exact absurd (h2.1 x hx) (bef_asymm (h1.1 y hy))
    subst e
    rw [sorted_uniq (hp.cons_inv) h1.2 h2.2]
theorem bef_irr {K : Int → Int} {x : Int} : ¬ bef K x x := by unfold bef; omega
theorem srt_uniq {K : Int → Int} {l s : List Int} (hp : s.Perm l) (hs : s.Pairwise (bef K)) : s = srt K l := by
  have hn : s.Nodup := hs.imp fun {a b} h e => by subst e; exact bef_irr h
  exact sorted_uniq (hp.trans (srt_perm K l).symm) hs (srt_sorted (hp.nodup_iff.1 hn))
theorem srt_of {K : Int → Int} {s : List Int} (hs : s.Pairwise (bef K)) : srt K s = s := (srt_uniq (.refl _) hs).symm
/-- Two parts, all of the first before all of the second. -/
theorem srt_parts {K : Int → Int} {l A1 A2 B1 B2 : List Int} (hp : (A1 ++ A2 ++ (B1 ++ B2)).Perm l) (hA : (A1 ++ A2).Pairwise (bef K)) (hB : (B1 ++ B2).Pairwise (bef K)) (hn : (A1 ++ A2 ++ (B1 ++ B2)).Nodup)
    (h1 : ∀ x ∈ A1, ∀ y ∈ B2, bef K x y) (h2 : ∀ x ∈ B1, ∀ y ∈ A2, bef K x y) : srt K (A1 ++ B1) ++ srt K (A2 ++ B2) = srt K l := by
  rw [List.pairwise_append] at hA hB
  have hp1 : (A1 ++ B1 ++ (A2 ++ B2)).Perm (A1 ++ A2 ++ (B1 ++ B2)) := by
    rw [List.append_assoc, List.append_assoc]
    refine .append_left _ ?_
    rw [← List.append_assoc, ← List.append_assoc]
    exact .append_right _ List.perm_append_comm
  have hn2 : (A1 ++ B1 ++ (A2 ++ B2)).Nodup := hp1.nodup_iff.2 hn
  rw [List.nodup_append] at hn2
  refine srt_uniq (((srt_perm K _).append (srt_perm K _)).trans (hp1.trans hp)) (List.pairwise_append.2 ⟨srt_sorted hn2.1, srt_sorted hn2.2.1, fun x hx y hy => ?_⟩)
  rcases List.mem_append.1 ((srt_perm K _).mem_iff.1 hx) with hx | hx <;> rcases List.mem_append.1 ((srt_perm K _).mem_iff.1 hy) with hy | hy
  · exact hA.2.2 x hx y hy
  · exact h1 x hx y hy
  · exact h2 x hx y hy
  · exact hB.2.2 x hx y hy

/-- Five parts of a row. -/
def r5 (Q X M Y T : List Int) : List Int := Q ++ X ++ M ++ Y ++ T
theorem r5_len (Q X M Y T : List Int) : (r5 Q X M Y T).length = Q.length + X.length + M.length + Y.length + T.length := by simp [r5]; omega
theorem r5_X {Q X M Y T : List Int} {i : Nat} (h : i < X.length) (h' : Q.length + i < (r5 Q X M Y T).length) : (r5 Q X M Y T)[Q.length + i] = X[i] := by
  simp only [r5, List.append_assoc]
  rw [List.getElem_append_right (by omega), List.getElem_append_left (by omega)]
  congr 1; omega
theorem r5_Y {Q X M Y T : List Int} {i : Nat} (h : i < Y.length) (h' : Q.length + X.length + M.length + i < (r5 Q X M Y T).length) : (r5 Q X M Y T)[Q.length + X.length + M.length + i] = Y[i] := by
  simp only [r5]
  rw [List.getElem_append_left (by simp; omega), List.getElem_append_right (by simp; omega)]
  congr 1; simp; omega
theorem r5_setX {Q X M Y T : List Int} {i : Nat} (v : Int) (h : i < X.length) : (r5 Q X M Y T).set (Q.length + i) v = r5 Q (X.set i v) M Y T := by
  simp only [r5, List.append_assoc]
  rw [List.set_append_right _ _ (by omega), show Q.length + i - Q.length = i by omega, List.set_append_left _ _ h]
theorem r5_setY {Q X M Y T : List Int} {i : Nat} (v : Int) (h : i < Y.length) : (r5 Q X M Y T).set (Q.length + X.length + M.length + i) v = r5 Q X M (Y.set i v) T := by
  have e : r5 Q X M Y T = (Q ++ X ++ M) ++ (Y ++ T) := by simp [r5]
  rw [e, List.set_append_right _ _ (by simp; omega), List.length_append, List.length_append, show Q.length + X.length + M.length + i - (Q.length + X.length + M.length) = i by omega, List.set_append_left _ _ h]
  simp [r5]
theorem rowX_next {pre s : List Int} {x : Int} {post : List Int} {k : Nat} (h : k < s.length) (hl : pre.length + (k + 1) < (rowX pre s x post k).length) : (rowX pre s x post k)[pre.length + (k + 1)] = s[k] := by
  have e : rowX pre s x post k = (pre ++ (s.take k ++ [x])) ++ (s.drop k ++ post) := by simp [rowX]
  simp only [e]
  rw [List.getElem_append_right (by simp; omega), List.getElem_append_left (by simp; omega)]
  rw [List.getElem_drop]; congr 1; simp; omega
theorem set_two {P L Z : List Int} {n : Nat} (i : Nat) (v : Int) (h : n = P.length + L.length + i) : (P ++ (L ++ Z)).set n v = P ++ (L ++ Z.set i v) := by
  subst h
  rw [List.set_append_right _ _ (by omega), List.set_append_right _ _ (by omega)]
  congr 3; omega
theorem rowX_swap' {pre s : List Int} {x : Int} {post : List Int} {k : Nat} (h : k < s.length) : ((rowX pre s x post k).set (pre.length + k) s[k]).set (pre.length + (k + 1)) x = rowX pre s x post (k + 1) := by
  have e : rowX pre s x post k = pre ++ (s.take k ++ (x :: s[k] :: (s.drop (k + 1) ++ post))) := by
    unfold rowX; rw [List.drop_eq_getElem_cons h, List.append_assoc, List.append_assoc]; rfl
  have e2 : rowX pre s x post (k + 1) = pre ++ (s.take k ++ (s[k] :: x :: (s.drop (k + 1) ++ post))) := by
    unfold rowX; rw [List.take_succ_eq_append_getElem h, List.append_assoc, List.append_assoc, List.append_assoc]; rfl
  have hk : (s.take k).length = k := by simp; omega
  rw [e, e2, set_two 0 _ (by omega), set_two 1 _ (by omega)]
  rfl
/-- While two parts are swapped. -/
def sw (X Y : List Int) (i : Nat) : List Int := Y.take i ++ X.drop i
theorem sw_len {X Y : List Int} (h : X.length = Y.length) (i : Nat) : (sw X Y i).length = X.length := by simp [sw]; omega
theorem sw_at {X Y : List Int} (h : X.length = Y.length) {i : Nat} (hi : i < X.length) (h' : i < (sw X Y i).length) : (sw X Y i)[i] = X[i] := by
  simp only [sw]
  rw [List.getElem_append_right (by simp; omega)]
  simp only [List.getElem_drop, List.length_take]
  congr 1; omega
theorem sw_set {X Y : List Int} (h : X.length = Y.length) {i : Nat} (hi : i < X.length) (hy : i < Y.length) : (sw X Y i).set i Y[i] = sw X Y (i + 1) := by
  simp only [sw]
  rw [List.set_append_right _ _ (by simp; omega), List.length_take, Nat.min_eq_left (by omega), Nat.sub_self, List.drop_eq_getElem_cons hi, List.set_cons_zero, List.take_succ_eq_append_getElem hy, List.append_assoc]
  rfl
theorem sw_zero (X Y : List Int) : sw X Y 0 = X := by simp [sw]
theorem sw_full {X Y : List Int} (h : X.length = Y.length) {i : Nat} (hi : i = X.length) : sw X Y i = Y := by
  simp only [sw]; rw [List.take_of_length_le (by omega), List.drop_of_length_le (by omega), List.append_nil]

/-- A row of four parts. -/
def r4 (x : List Int × List Int × List Int × List Int) : List Int := x.1 ++ x.2.1 ++ x.2.2.1 ++ x.2.2.2
theorem r4_len (Q A B T : List Int) : (r4 (Q, A, B, T)).length = Q.length + A.length + B.length + T.length := by simp [r4]; omega
theorem r4_A {Q A B T : List Int} {i : Nat} (h : i < A.length) (h' : Q.length + i < (r4 (Q, A, B, T)).length) : (r4 (Q, A, B, T))[Q.length + i] = A[i] := by
  simp only [r4, List.append_assoc]
  rw [List.getElem_append_right (by omega), List.getElem_append_left (by omega)]
  congr 1; omega
theorem r4_B {Q A B T : List Int} {i : Nat} (h : i < B.length) (h' : Q.length + A.length + i < (r4 (Q, A, B, T)).length) : (r4 (Q, A, B, T))[Q.length + A.length + i] = B[i] := by
  have e : r4 (Q, A, B, T) = (Q ++ A) ++ (B ++ T) := by simp [r4]
  simp only [e]
  rw [List.getElem_append_right (by simp), List.getElem_append_left (by simp; omega)]
  congr 1; simp
theorem r4_one (Q B T : List Int) (x : Int) : r4 (Q, [x], B, T) = rowX Q B x T 0 := by simp [r4, rowX]
theorem r4_last (Q A T : List Int) (x : Int) : r4 (Q, A, [x], T) = rowX Q A x T A.length := by simp [r4, rowX]
theorem rowX_srt' {K : Int → Int} {pre s : List Int} {x : Int} {post l : List Int} {k : Nat} (hp : (x :: s).Perm l) (hs : s.Pairwise (bef K)) (h1 : ∀ e ∈ s.take k, bef K e x) (h2 : ∀ e ∈ s.drop k, bef K x e) : rowX pre s x post k = r3 pre (srt K l) post := by
  have e : s.take k ++ x :: s.drop k = srt K l := by
    refine srt_uniq (List.Perm.trans ?_ hp) ?_
    · refine List.perm_middle.trans ?_
      rw [List.take_append_drop]
    · rw [List.pairwise_append, List.pairwise_cons]
      have hs' := hs
      rw [← List.take_append_drop k s, List.pairwise_append] at hs'
      refine ⟨hs'.1, ⟨h2, hs'.2.1⟩, fun a ha b hb => ?_⟩
      rcases List.mem_cons.1 hb with rfl | hb
      · exact h1 a ha
      · exact hs'.2.2 a ha b hb
  unfold rowX; rw [e]; rfl
theorem take_bef {K : Int → Int} {B : List Int} {x : Int} (hB : B.Pairwise (bef K)) {h : Nat} (hh : h < B.length) (hx : bef K B[h] x) : ∀ e ∈ B.take (h + 1), bef K e x := by
  intro e he
  rw [List.take_succ_eq_append_getElem hh] at he
  rcases List.mem_append.1 he with he | he
  · obtain ⟨j, hj, rfl⟩ := List.mem_take_iff_getElem.1 he
    exact bef_trans (List.pairwise_iff_getElem.1 hB j h (by omega) hh (by omega)) hx
  · simp at he; rw [he]; exact hx
theorem drop_bef {K : Int → Int} {B : List Int} {x : Int} (hB : B.Pairwise (bef K)) {h : Nat} (hh : h < B.length) (hx : bef K x B[h]) : ∀ e ∈ B.drop h, bef K x e := by
  intro e he
  have hB' := hB
  rw [← List.take_append_drop h B, List.pairwise_append] at hB'
  have h2 := hB'.2.1
  rw [List.drop_eq_getElem_cons hh] at he h2
  rcases List.mem_cons.1 he with rfl | he
  · exact hx
  · exact bef_trans hx ((List.pairwise_cons.1 h2).1 e he)
/-- Every s places sorted by themselves. -/
def bsort (K : Int → Int) (s : Nat) (l : List Int) : List Int :=
  if h : l.length ≤ s ∨ s = 0 then srt K l else srt K (l.take s) ++ bsort K s (l.drop s)
termination_by l.length
decreasing_by simp; omega
theorem bsort_few {K : Int → Int} {s : Nat} {l : List Int} (h : l.length ≤ s) : bsort K s l = srt K l := by rw [bsort, dif_pos (.inl h)]
theorem srt_nil' (K : Int → Int) : srt K [] = [] := rfl
theorem bsort_cut {K : Int → Int} {s : Nat} {l : List Int} (hs : 0 < s) : bsort K s l = srt K (l.take s) ++ bsort K s (l.drop s) := by
  by_cases h : l.length ≤ s
  · rw [bsort_few h, List.take_of_length_le h, List.drop_of_length_le h, bsort_few (by simp)]; simp [srt_nil']
  · rw [bsort, dif_neg (by omega)]
theorem bsort_len (K : Int → Int) {s : Nat} (hs : 0 < s) : ∀ (n : Nat) (l : List Int), l.length ≤ n → (bsort K s l).length = l.length
  | 0, l, h => by rw [bsort_few (by omega), srt_len]
  | n + 1, l, h => by
    by_cases h2 : l.length ≤ s
    · rw [bsort_few h2, srt_len]
    · rw [bsort_cut hs, List.length_append, srt_len, bsort_len K hs n _ (by simp; omega)]; simp; omega
/-- Cut at a multiple of s. -/
theorem bsort_app {K : Int → Int} {s : Nat} (hs : 0 < s) : ∀ (t : Nat) (l : List Int), t * s ≤ l.length → bsort K s l = bsort K s (l.take (t * s)) ++ bsort K s (l.drop (t * s))
  | 0, l, _ => by simp [bsort_few, srt_nil']
  | t + 1, l, h => by
    have h2 : s ≤ l.length := by rw [Nat.add_mul] at h; omega
    have e1 : (t + 1) * s = s + t * s := by rw [Nat.add_mul]; omega
    rw [bsort_cut hs, bsort_app hs t (l.drop s) (by simp; omega), bsort_cut (l := l.take _) hs, List.take_take, Nat.min_eq_left (by omega), List.drop_take, e1, Nat.add_sub_cancel_left, List.drop_drop, List.append_assoc]

end Go.Proofs.YtjgkjenbgadacaaDoor
