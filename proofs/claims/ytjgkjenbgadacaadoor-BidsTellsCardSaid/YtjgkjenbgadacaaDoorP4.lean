/-
  Lemmas for the statement at the top.
-/
import Derived.Test.YtjgkjenbgadacaaDoorFw4
import Derived.Test.YtjgkjenbgadacaaDoorProg
import Derived.KernelRfl
set_option linter.all false
namespace Go.Proofs.YtjgkjenbgadacaaDoor
def bef (K : Int → Int) (x y : Int) : Prop := K y < K x ∨ (K x = K y ∧ x < y)
instance (K : Int → Int) (x y : Int) : Decidable (bef K x y) := by unfold bef; infer_instance
theorem bef_trans {K : Int → Int} {x y z : Int} (h1 : bef K x y) (h2 : bef K y z) : bef K x z := by unfold bef at *; omega
theorem bef_total {K : Int → Int} {x y : Int} (h : x ≠ y) : bef K x y ∨ bef K y x := by unfold bef; omega
theorem bef_asymm {K : Int → Int} {x y : Int} (h1 : bef K x y) : ¬ bef K y x := by unfold bef at *; omega
def insB (K : Int → Int) (x : Int) : List Int → List Int
  | [] => [x]
  | y :: l => if bef K x y then x :: y :: l else y :: insB K x l
def srt (K : Int → Int) (l : List Int) : List Int := l.foldl (fun s x => insB K x s) []
theorem srt_snoc (K : Int → Int) (l : List Int) (x : Int) : srt K (l ++ [x]) = insB K x (srt K l) := by unfold srt; rw [List.foldl_append]; rfl
theorem insB_perm (K : Int → Int) (x : Int) : ∀ l, (insB K x l).Perm (x :: l)
  | [] => .refl _
  | y :: l => by
    unfold insB
    split
    · exact .refl _
    · exact ((insB_perm K x l).cons y).trans (.swap x y l)
theorem srt_perm (K : Int → Int) (l : List Int) : (srt K l).Perm l := by
  have : ∀ k, k ≤ l.length → (srt K (l.take k)).Perm (l.take k) := by
    intro k
    induction k with
    | zero => intro _; exact .refl _
    | succ k ih =>
      intro hk
      rw [List.take_succ_eq_append_getElem (by omega), srt_snoc]
      exact (insB_perm K _ _).trans (((ih (by omega)).cons _).trans (List.perm_append_singleton _ _).symm)
  have := this l.length (Nat.le_refl _)
  rwa [List.take_length] at this
theorem insB_sorted {K : Int → Int} {x : Int} : ∀ {l : List Int}, l.Pairwise (bef K) → x ∉ l → (insB K x l).Pairwise (bef K)
  | [], _, _ => by simp [insB]
  | y :: l, h, hx => by
    rw [List.pairwise_cons] at h
    simp only [List.mem_cons, not_or] at hx
    unfold insB
    split
    · rename_i hb
      refine List.pairwise_cons.2 ⟨fun z hz => ?_, List.pairwise_cons.2 h⟩
      rcases List.mem_cons.1 hz with rfl | hz
      · exact hb
      · exact bef_trans hb (h.1 z hz)
    · rename_i hb
      refine List.pairwise_cons.2 ⟨fun z hz => ?_, insB_sorted h.2 hx.2⟩
      rcases List.mem_cons.1 ((insB_perm K x l).mem_iff.1 hz) with rfl | hz
      · exact (bef_total hx.1).resolve_left hb
      · exact h.1 z hz
theorem srt_sorted {K : Int → Int} {l : List Int} (hn : l.Nodup) : (srt K l).Pairwise (bef K) := by
  have : ∀ k, k ≤ l.length → (srt K (l.take k)).Pairwise (bef K) := by
    intro k
    induction k with
    | zero => intro _; exact List.Pairwise.nil
    | succ k ih =>
      intro hk
      have hkl : k < l.length := by omega
      rw [List.take_succ_eq_append_getElem hkl, srt_snoc]
      refine insB_sorted (ih (by omega)) fun hm => ?_
      have hm := (srt_perm K _).mem_iff.1 hm
      obtain ⟨j, hj, e⟩ := List.mem_take_iff_getElem.1 hm
      have := (List.getElem_inj hn).1 e
      omega
  have := this l.length (Nat.le_refl _)
  rwa [List.take_length] at this
theorem srt_len (K : Int → Int) (l : List Int) : (srt K l).length = l.length := (srt_perm K l).length_eq
theorem insB_at {K : Int → Int} {x : Int} : ∀ {s : List Int} (k : Nat), s.Pairwise (bef K) → k ≤ s.length → (∀ e ∈ s.take k, bef K e x) → (∀ e ∈ s.drop k, bef K x e) → insB K x s = s.take k ++ x :: s.drop k
  | [], k, _, _, _, _ => by simp [insB]
  | y :: s, 0, _, _, _, h2 => by
    have := h2 y (by simp)
    simp [insB, this]
  | y :: s, k + 1, h, hk, h1, h2 => by
    have hy : bef K y x := h1 y (by simp)
    rw [List.pairwise_cons] at h
    have ih := insB_at k h.2 (by simpa using hk) (fun e he => h1 e (by simp [he])) (fun e he => h2 e (by simpa using he))
    unfold insB
    rw [if_neg (bef_asymm hy), ih]
    rfl
def r3 (a b c : List Int) : List Int := a ++ b ++ c
@[simp] theorem r3_len (a b c : List Int) : (r3 a b c).length = a.length + b.length + c.length := by simp [r3]; omega
def rowX (pre s : List Int) (x : Int) (post : List Int) (k : Nat) : List Int := pre ++ (s.take k ++ x :: s.drop k) ++ post
theorem rowX_len {pre s : List Int} {x : Int} {post : List Int} {k : Nat} (h : k ≤ s.length) : (rowX pre s x post k).length = pre.length + s.length + 1 + post.length := by
  simp [rowX]; omega
theorem rowX_at {pre s : List Int} {x : Int} {post : List Int} {k : Nat} (h : k ≤ s.length) (hl : pre.length + k < (rowX pre s x post k).length) : (rowX pre s x post k)[pre.length + k] = x := by
  simp only [rowX, List.append_assoc]
  rw [List.getElem_append_right (by omega), List.getElem_append_right (by simp; omega)]
  simp [Nat.min_eq_left h]
theorem rowX_prev {pre s : List Int} {x : Int} {post : List Int} {k : Nat} (h : k < s.length) (hl : pre.length + k < (rowX pre s x post (k + 1)).length) : (rowX pre s x post (k + 1))[pre.length + k] = s[k] := by
  simp only [rowX, List.append_assoc]
  rw [List.getElem_append_right (by omega), List.getElem_append_left (by simp; omega)]
  simp
theorem rowX_swap {pre s : List Int} {x : Int} {post : List Int} {k : Nat} (h : k < s.length) : ((rowX pre s x post (k + 1)).set (pre.length + (k + 1)) s[k]).set (pre.length + k) x = rowX pre s x post k := by
  have e1 : s.take (k + 1) = s.take k ++ [s[k]] := List.take_succ_eq_append_getElem h
  have e2 : s.drop k = s[k] :: s.drop (k + 1) := List.drop_eq_getElem_cons h
  have hk : (s.take k).length = k := by simp; omega
  simp only [rowX, e1, e2, List.append_assoc]
  rw [List.set_append_right _ _ (by omega), List.set_append_right _ _ (by omega)]
  congr 1
  rw [show pre.length + (k + 1) - pre.length = k + 1 by omega, show pre.length + k - pre.length = k by omega]
  rw [List.set_append_right _ _ (by omega), List.set_append_right _ _ (by omega), hk]
  congr 1
  simp
  rw [e2]; rfl
end Go.Proofs.YtjgkjenbgadacaaDoor

namespace Go.Proofs.YtjgkjenbgadacaaDoor
theorem sorted_uniq {K : Int → Int} : ∀ {l m : List Int}, l.Perm m → l.Pairwise (bef K) → m.Pairwise (bef K) → l = m
  | [], m, hp, _, _ => by rw [List.nil_perm.1 hp]
  | x :: l, [], hp, _, _ => by have := List.perm_nil.1 hp; cases this
  | x :: l, y :: m, hp, h1, h2 => by
    rw [List.pairwise_cons] at h1 h2
    have e : x = y := by
      rcases List.mem_cons.1 (hp.mem_iff.1 (List.mem_cons_self (a := x) (l := l))) with h | hx
      · exact h
      · rcases List.mem_cons.1 (hp.mem_iff.2 (List.mem_cons_self (a := y) (l := m))) with h | hy
        · exact h.symm
        · exact absurd (h2.1 x hx) (bef_asymm (h1.1 y hy))
    subst e
    rw [sorted_uniq (hp.cons_inv) h1.2 h2.2]
theorem bef_irr {K : Int → Int} {x : Int} : ¬ bef K x x := by unfold bef; omega
theorem srt_uniq {K : Int → Int} {l s : List Int} (hp : s.Perm l) (hs : s.Pairwise (bef K)) : s = srt K l := by
  have hn : s.Nodup := hs.imp fun {a b} h e => by subst e; exact bef_irr h
  exact sorted_uniq (hp.trans (srt_perm K l).symm) hs (srt_sorted (hp.nodup_iff.1 hn))
theorem srt_of {K : Int → Int} {s : List Int} (hs : s.Pairwise (bef K)) : srt K s = s := (srt_uniq (.refl _) hs).symm
theorem srt_parts {K : Int → Int} {l A1 A2 B1 B2 : List Int} (hp : (A1 ++ A2 ++ (B1 ++ B2)).Perm l) (hA : (A1 ++ A2).Pairwise (bef K)) (hB : (B1 ++ B2).Pairwise (bef K)) (hn : (A1 ++ A2 ++ (B1 ++ B2)).Nodup)
    (h1 : ∀ x ∈ A1, ∀ y ∈ B2, bef K x y) (h2 : ∀ x ∈ B1, ∀ y ∈ A2, bef K x y) : srt K (A1 ++ B1) ++ srt K (A2 ++ B2) = srt K l := by
  rw [List.pairwise_append] at hA hB
  have hp1 : (A1 ++ B1 ++ (A2 ++ B2)).Perm (A1 ++ A2 ++ (B1 ++ B2)) := by
    rw [List.append_assoc, List.append_assoc]
    refine .append_left _ ?_
    rw [← List.append_assoc, ← List.append_assoc]
    exact .append_right _ List.perm_append_comm
  have hn2 : (A1 ++ B1 ++ (A2 ++ B2)).Nodup := hp1.nodup_iff.2 hn
  rw [List.nodup_append] at hn2
  refine srt_uniq (((srt_perm K _).append (srt_perm K _)).trans (hp1.trans hp)) (List.pairwise_append.2 ⟨srt_sorted hn2.1, srt_sorted hn2.2.1, fun x hx y hy => ?_⟩)
  rcases List.mem_append.1 ((srt_perm K _).mem_iff.1 hx) with hx | hx <;> rcases List.mem_append.1 ((srt_perm K _).mem_iff.1 hy) with hy | hy
  · exact hA.2.2 x hx y hy
  · exact h1 x hx y hy
  · exact h2 x hx y hy
  · exact hB.2.2 x hx y hy
def r5 (Q X M Y T : List Int) : List Int := Q ++ X ++ M ++ Y ++ T
theorem r5_len (Q X M Y T : List Int) : (r5 Q X M Y T).length = Q.length + X.length + M.length + Y.length + T.length := by simp [r5]; omega
theorem r5_X {Q X M Y T : List Int} {i : Nat} (h : i < X.length) (h' : Q.length + i < (r5 Q X M Y T).length) : (r5 Q X M Y T)[Q.length + i] = X[i] := by
  simp only [r5, List.append_assoc]
  rw [List.getElem_append_right (by omega), List.getElem_append_left (by omega)]
  congr 1; omega
theorem r5_Y {Q X M Y T : List Int} {i : Nat} (h : i < Y.length) (h' : Q.length + X.length + M.length + i < (r5 Q X M Y T).length) : (r5 Q X M Y T)[Q.length + X.length + M.length + i] = Y[i] := by
  simp only [r5]
  rw [List.getElem_append_left (by simp; omega), List.getElem_append_right (by simp; omega)]
  congr 1; simp; omega
theorem r5_setX {Q X M Y T : List Int} {i : Nat} (v : Int) (h : i < X.length) : (r5 Q X M Y T).set (Q.length + i) v = r5 Q (X.set i v) M Y T := by
  simp only [r5, List.append_assoc]
  rw [List.set_append_right _ _ (by omega), show Q.length + i - Q.length = i by omega, List.set_append_left _ _ h]
theorem r5_setY {Q X M Y T : List Int} {i : Nat} (v : Int) (h : i < Y.length) : (r5 Q X M Y T).set (Q.length + X.length + M.length + i) v = r5 Q X M (Y.set i v) T := by
  have e : r5 Q X M Y T = (Q ++ X ++ M) ++ (Y ++ T) := by simp [r5]
  rw [e, List.set_append_right _ _ (by simp; omega), List.length_append, List.length_append, show Q.length + X.length + M.length + i - (Q.length + X.length + M.length) = i by omega, List.set_append_left _ _ h]
  simp [r5]
theorem rowX_next {pre s : List Int} {x : Int} {post : List Int} {k : Nat} (h : k < s.length) (hl : pre.length + (k + 1) < (rowX pre s x post k).length) : (rowX pre s x post k)[pre.length + (k + 1)] = s[k] := by
  have e : rowX pre s x post k = (pre ++ (s.take k ++ [x])) ++ (s.drop k ++ post) := by simp [rowX]
  simp only [e]
  rw [List.getElem_append_right (by simp; omega), List.getElem_append_left (by simp; omega)]
  rw [List.getElem_drop]; congr 1; simp; omega
theorem set_two {P L Z : List Int} {n : Nat} (i : Nat) (v : Int) (h : n = P.length + L.length + i) : (P ++ (L ++ Z)).set n v = P ++ (L ++ Z.set i v) := by
  subst h
  rw [List.set_append_right _ _ (by omega), List.set_append_right _ _ (by omega)]
  congr 3; omega
theorem rowX_swap' {pre s : List Int} {x : Int} {post : List Int} {k : Nat} (h : k < s.length) : ((rowX pre s x post k).set (pre.length + k) s[k]).set (pre.length + (k + 1)) x = rowX pre s x post (k + 1) := by
  have e : rowX pre s x post k = pre ++ (s.take k ++ (x :: s[k] :: (s.drop (k + 1) ++ post))) := by
    unfold rowX; rw [List.drop_eq_getElem_cons h, List.append_assoc, List.append_assoc]; rfl
  have e2 : rowX pre s x post (k + 1) = pre ++ (s.take k ++ (s[k] :: x :: (s.drop (k + 1) ++ post))) := by
    unfold rowX; rw [List.take_succ_eq_append_getElem h, List.append_assoc, List.append_assoc, List.append_assoc]; rfl
  have hk : (s.take k).length = k := by simp; omega
  rw [e, e2, set_two 0 _ (by omega), set_two 1 _ (by omega)]
  rfl
def sw (X Y : List Int) (i : Nat) : List Int := Y.take i ++ X.drop i
theorem sw_len {X Y : List Int} (h : X.length = Y.length) (i : Nat) : (sw X Y i).length = X.length := by simp [sw]; omega
theorem sw_at {X Y : List Int} (h : X.length = Y.length) {i : Nat} (hi : i < X.length) (h' : i < (sw X Y i).length) : (sw X Y i)[i] = X[i] := by
  simp only [sw]
  rw [List.getElem_append_right (by simp; omega)]
  simp only [List.getElem_drop, List.length_take]
  congr 1; omega
theorem sw_set {X Y : List Int} (h : X.length = Y.length) {i : Nat} (hi : i < X.length) (hy : i < Y.length) : (sw X Y i).set i Y[i] = sw X Y (i + 1) := by
  simp only [sw]
  rw [List.set_append_right _ _ (by simp; omega), List.length_take, Nat.min_eq_left (by omega), Nat.sub_self, List.drop_eq_getElem_cons hi, List.set_cons_zero, List.take_succ_eq_append_getElem hy, List.append_assoc]
  rfl
theorem sw_zero (X Y : List Int) : sw X Y 0 = X := by simp [sw]
theorem sw_full {X Y : List Int} (h : X.length = Y.length) {i : Nat} (hi : i = X.length) : sw X Y i = Y := by
  simp only [sw]; rw [List.take_of_length_le (by omega), List.drop_of_length_le (by omega), List.append_nil]
def r4 (x : List Int × List Int × List Int × List Int) : List Int := x.1 ++ x.2.1 ++ x.2.2.1 ++ x.2.2.2
theorem r4_len (Q A B T : List Int) : (r4 (Q, A, B, T)).length = Q.length + A.length + B.length + T.length := by simp [r4]; omega
theorem r4_A {Q A B T : List Int} {i : Nat} (h : i < A.length) (h' : Q.length + i < (r4 (Q, A, B, T)).length) : (r4 (Q, A, B, T))[Q.length + i] = A[i] := by
  simp only [r4, List.append_assoc]
  rw [List.getElem_append_right (by omega), List.getElem_append_left (by omega)]
  congr 1; omega
theorem r4_B {Q A B T : List Int} {i : Nat} (h : i < B.length) (h' : Q.length + A.length + i < (r4 (Q, A, B, T)).length) : (r4 (Q, A, B, T))[Q.length + A.length + i] = B[i] := by
  have e : r4 (Q, A, B, T) = (Q ++ A) ++ (B ++ T) := by simp [r4]
  simp only [e]
  rw [List.getElem_append_right (by simp), List.getElem_append_left (by simp; omega)]
  congr 1; simp
theorem r4_one (Q B T : List Int) (x : Int) : r4 (Q, [x], B, T) = rowX Q B x T 0 := by simp [r4, rowX]
theorem r4_last (Q A T : List Int) (x : Int) : r4 (Q, A, [x], T) = rowX Q A x T A.length := by simp [r4, rowX]
theorem rowX_srt' {K : Int → Int} {pre s : List Int} {x : Int} {post l : List Int} {k : Nat} (hp : (x :: s).Perm l) (hs : s.Pairwise (bef K)) (h1 : ∀ e ∈ s.take k, bef K e x) (h2 : ∀ e ∈ s.drop k, bef K x e) : rowX pre s x post k = r3 pre (srt K l) post := by
  have e : s.take k ++ x :: s.drop k = srt K l := by
    refine srt_uniq (List.Perm.trans ?_ hp) ?_
    · refine List.perm_middle.trans ?_
      rw [List.take_append_drop]
    · rw [List.pairwise_append, List.pairwise_cons]
      have hs' := hs
      rw [← List.take_append_drop k s, List.pairwise_append] at hs'
      refine ⟨hs'.1, ⟨h2, hs'.2.1⟩, fun a ha b hb => ?_⟩
      rcases List.mem_cons.1 hb with rfl | hb
      · exact h1 a ha
      · exact hs'.2.2 a ha b hb
  unfold rowX; rw [e]; rfl
theorem take_bef {K : Int → Int} {B : List Int} {x : Int} (hB : B.Pairwise (bef K)) {h : Nat} (hh : h < B.length) (hx : bef K B[h] x) : ∀ e ∈ B.take (h + 1), bef K e x := by
  intro e he
  rw [List.take_succ_eq_append_getElem hh] at he
  rcases List.mem_append.1 he with he | he
  · obtain ⟨j, hj, rfl⟩ := List.mem_take_iff_getElem.1 he
    exact bef_trans (List.pairwise_iff_getElem.1 hB j h (by omega) hh (by omega)) hx
  · simp at he; rw [he]; exact hx
theorem drop_bef {K : Int → Int} {B : List Int} {x : Int} (hB : B.Pairwise (bef K)) {h : Nat} (hh : h < B.length) (hx : bef K x B[h]) : ∀ e ∈ B.drop h, bef K x e := by
  intro e he
  have hB' := hB
  rw [← List.take_append_drop h B, List.pairwise_append] at hB'
  have h2 := hB'.2.1
  rw [List.drop_eq_getElem_cons hh] at he h2
  rcases List.mem_cons.1 he with rfl | he
  · exact hx
  · exact bef_trans hx ((List.pairwise_cons.1 h2).1 e he)
def bsort (K : Int → Int) (s : Nat) (l : List Int) : List Int :=
  if h : l.length ≤ s ∨ s = 0 then srt K l else srt K (l.take s) ++ bsort K s (l.drop s)
termination_by l.length
decreasing_by simp; omega
theorem bsort_few {K : Int → Int} {s : Nat} {l : List Int} (h : l.length ≤ s) : bsort K s l = srt K l := by rw [bsort, dif_pos (.inl h)]
theorem srt_nil' (K : Int → Int) : srt K [] = [] := rfl
theorem bsort_cut {K : Int → Int} {s : Nat} {l : List Int} (hs : 0 < s) : bsort K s l = srt K (l.take s) ++ bsort K s (l.drop s) := by
  by_cases h : l.length ≤ s
  · rw [bsort_few h, List.take_of_length_le h, List.drop_of_length_le h, bsort_few (by simp)]; simp [srt_nil']
  · rw [bsort, dif_neg (by omega)]
theorem bsort_len (K : Int → Int) {s : Nat} (hs : 0 < s) : ∀ (n : Nat) (l : List Int), l.length ≤ n → (bsort K s l).length = l.length
  | 0, l, h => by rw [bsort_few (by omega), srt_len]
  | n + 1, l, h => by
    by_cases h2 : l.length ≤ s
    · rw [bsort_few h2, srt_len]
    · rw [bsort_cut hs, List.length_append, srt_len, bsort_len K hs n _ (by simp; omega)]; simp; omega
theorem bsort_app {K : Int → Int} {s : Nat} (hs : 0 < s) : ∀ (t : Nat) (l : List Int), t * s ≤ l.length → bsort K s l = bsort K s (l.take (t * s)) ++ bsort K s (l.drop (t * s))
  | 0, l, _ => by simp [bsort_few, srt_nil']
  | t + 1, l, h => by
    have h2 : s ≤ l.length := by rw [Nat.add_mul] at h; omega
    have e1 : (t + 1) * s = s + t * s := by rw [Nat.add_mul]; omega
    rw [bsort_cut hs, bsort_app hs t (l.drop s) (by simp; omega), bsort_cut (l := l.take _) hs, List.take_take, Nat.min_eq_left (by omega), List.drop_take, e1, Nat.add_sub_cancel_left, List.drop_drop, List.append_assoc]
end Go.Proofs.YtjgkjenbgadacaaDoor

namespace Go.Proofs.YtjgkjenbgadacaaDoor
structure Bd where
  m : Int
  w : Int
  n : Int
  o : Bool
  deriving DecidableEq
instance : Inhabited Bd := ⟨⟨0, 0, 0, false⟩⟩
def keyB (k : Int) : Bool := decide (0 ≤ k) && decide (k < 200)
def coinB (n : Int) : Bool := decide (0 ≤ n) && decide (n ≤ 1099511627776)
def okB (b : Bd) : Bool := decide (0 ≤ b.m) && decide (b.m ≤ 1073741824) && keyB b.w && (if b.o then coinB b.n else decide (b.n = -1))
def okL (L : List Bd) : Bool := L.all okB && decide (L.map Bd.m).Nodup && decide (L.map Bd.w).Nodup
def clashB (L : List Bd) (b : Bd) : Bool := L.any fun x => decide (x.m = b.m) || decide (x.w = b.w)
theorem okL_iff (L : List Bd) : okL L = true ↔ (∀ x ∈ L, okB x = true) ∧ (L.map Bd.m).Nodup ∧ (L.map Bd.w).Nodup := by
  simp only [okL, Bool.and_eq_true, List.all_eq_true, decide_eq_true_eq, and_assoc]
theorem okL_nil : okL [] = true := rfl
theorem clash_iff (L : List Bd) (b : Bd) : clashB L b = true ↔ b.m ∈ L.map Bd.m ∨ b.w ∈ L.map Bd.w := by
  simp only [clashB, List.any_eq_true, Bool.or_eq_true, decide_eq_true_eq, List.mem_map]
  constructor
  · rintro ⟨x, hx, h | h⟩
    · exact .inl ⟨x, hx, h⟩
    · exact .inr ⟨x, hx, h⟩
  · rintro (⟨x, hx, h⟩ | ⟨x, hx, h⟩)
    · exact ⟨x, hx, .inl h⟩
    · exact ⟨x, hx, .inr h⟩
theorem okL_snoc (L : List Bd) (b : Bd) : okL (L ++ [b]) = true ↔ okL L = true ∧ okB b = true ∧ clashB L b = false := by
  rw [okL_iff, okL_iff, ← Bool.not_eq_true, clash_iff]
  simp only [List.map_append, List.map_cons, List.map_nil, List.nodup_append, List.mem_append, List.mem_singleton]
  constructor
  · rintro ⟨h1, ⟨h2, _, h3⟩, h4, _, h5⟩
    refine ⟨⟨fun x hx => h1 x (.inl hx), h2, h4⟩, h1 b (.inr rfl), ?_⟩
    rintro (h | h)
    · exact h3 _ h _ rfl rfl
    · exact h5 _ h _ rfl rfl
  · rintro ⟨⟨h1, h2, h3⟩, h4, h5⟩
    refine ⟨?_, ⟨h2, by simp, ?_⟩, h3, by simp, ?_⟩
    · rintro x (hx | rfl)
      · exact h1 x hx
      · exact h4
    · rintro x hx y rfl rfl; exact h5 (.inl hx)
    · rintro x hx y rfl rfl; exact h5 (.inr hx)
theorem okL_take {L : List Bd} {k : Nat} (hk : k < L.length) : okL (L.take (k + 1)) = true ↔ okL (L.take k) = true ∧ okB L[k] = true ∧ clashB (L.take k) L[k] = false := by
  rw [List.take_succ_eq_append_getElem hk, okL_snoc]
theorem okL_pre {L : List Bd} (h : okL L = true) (k : Nat) : okL (L.take k) = true := by
  rw [okL_iff] at h ⊢
  refine ⟨fun x hx => h.1 x (List.mem_of_mem_take hx), ?_, ?_⟩
  · rw [List.map_take]; exact h.2.1.sublist (List.take_sublist _ _)
  · rw [List.map_take]; exact h.2.2.sublist (List.take_sublist _ _)
theorem okL_not {L : List Bd} {k : Nat} (h : okL (L.take k) = false) : okL L = false := by
  rw [← Bool.not_eq_true] at h ⊢
  exact fun hl => h (okL_pre hl k)
def cntB (P : Int) (b : Bd) : Bool := b.o && decide (b.n ≤ P)
def cntAt (L : List Bd) (P : Int) (k : Nat) : Bool := match L[k]? with | some b => cntB P b | none => false
def plc (L : List Bd) (P : Int) : Nat → List Int
  | 0 => []
  | k + 1 => if cntAt L P k then plc L P k ++ [(k : Int)] else plc L P k
theorem plc_mem (L : List Bd) (P : Int) (x : Int) : ∀ k : Nat, x ∈ plc L P k ↔ ∃ j : Nat, j < k ∧ x = j ∧ cntAt L P j = true
  | 0 => by simp [plc]
  | k + 1 => by
    unfold plc
    split
    · rename_i h
      rw [List.mem_append, plc_mem L P x k, List.mem_singleton]
      constructor
      · rintro (⟨j, h1, h2, h3⟩ | rfl)
        · exact ⟨j, by omega, h2, h3⟩
        · exact ⟨k, by omega, rfl, h⟩
      · rintro ⟨j, h1, h2, h3⟩
        by_cases e : j = k
        · subst e; exact .inr h2
        · exact .inl ⟨j, by omega, h2, h3⟩
    · rename_i h
      rw [plc_mem L P x k]
      constructor
      · rintro ⟨j, h1, h2, h3⟩; exact ⟨j, by omega, h2, h3⟩
      · rintro ⟨j, h1, h2, h3⟩
        by_cases e : j = k
        · subst e; exact absurd h3 h
        · exact ⟨j, by omega, h2, h3⟩
theorem plc_lt (L : List Bd) (P : Int) : ∀ k : Nat, (plc L P k).Pairwise (· < ·)
  | 0 => .nil
  | k + 1 => by
    unfold plc
    split
    · rw [List.pairwise_append]
      refine ⟨plc_lt L P k, by simp, fun x hx y hy => ?_⟩
      obtain ⟨j, h1, h2, _⟩ := (plc_mem L P x k).1 hx
      simp at hy
      omega
    · exact plc_lt L P k
theorem plc_len (L : List Bd) (P : Int) : ∀ k : Nat, k ≤ L.length → (plc L P k).length = ((L.take k).filter (cntB P)).length
  | 0, _ => by simp [plc]
  | k + 1, h => by
    have ih := plc_len L P k (by omega)
    have hk : k < L.length := by omega
    have hca : cntAt L P k = cntB P L[k] := by simp [cntAt, List.getElem?_eq_getElem hk]
    rw [List.take_succ_eq_append_getElem hk, List.filter_append, List.length_append]
    unfold plc
    rw [hca]
    cases hc : cntB P L[k] with
    | true => simp [hc, ih]
    | false => simp [hc, ih]
theorem plc_le (L : List Bd) (P : Int) (k : Nat) : (plc L P k).length ≤ k := by
  induction k with
  | zero => simp [plc]
  | succ k ih =>
    unfold plc
    split
    · rw [List.length_append, List.length_singleton]; omega
    · omega
theorem cntAt_lt {L : List Bd} {P : Int} {k : Nat} (h : cntAt L P k = true) : ∃ hk : k < L.length, cntB P L[k] = true := by
  unfold cntAt at h
  split at h
  · rename_i b hb
    obtain ⟨h1, rfl⟩ := List.getElem?_eq_some_iff.1 hb
    exact ⟨h1, h⟩
  · cases h
namespace B
def kf (R : List Bd) (x : Int) : Int := (R.getD x.toNat default).n
theorem kf_at {R : List Bd} {x : Int} (h : 0 ≤ x ∧ x < R.length) : ∃ k, ∃ hk : k < R.length, x = (k : Int) ∧ kf R x = R[k].n :=
  ⟨x.toNat, by omega, by omega, by unfold kf; rw [List.getD_eq_getElem?_getD, List.getElem?_eq_getElem (by omega)]; rfl⟩
theorem kf_nat {R : List Bd} {k : Nat} (hk : k < R.length) : kf R k = R[k].n := by
  unfold kf; rw [Int.toNat_natCast, List.getD_eq_getElem?_getD, List.getElem?_eq_getElem hk]; rfl
end B
def ranked (L : List Bd) (P : Int) : List Int := srt (B.kf L) (plc L P L.length)
theorem plc_nodup (L : List Bd) (P : Int) (k : Nat) : (plc L P k).Nodup := (plc_lt L P k).imp fun h e => by omega
theorem ranked_perm (L : List Bd) (P : Int) : (ranked L P).Perm (plc L P L.length) := srt_perm _ _
theorem ranked_sorted (L : List Bd) (P : Int) : (ranked L P).Pairwise (bef (B.kf L)) := srt_sorted (plc_nodup _ _ _)
theorem ranked_len (L : List Bd) (P : Int) : (ranked L P).length = (L.filter (cntB P)).length := by
  rw [(ranked_perm L P).length_eq, plc_len L P _ (Nat.le_refl _), List.take_length]
theorem ranked_le (L : List Bd) (P : Int) : (ranked L P).length ≤ L.length := by rw [(ranked_perm L P).length_eq]; exact plc_le _ _ _
theorem ranked_mem (L : List Bd) (P x : Int) : x ∈ ranked L P ↔ ∃ j : Nat, x = j ∧ ∃ hj : j < L.length, cntB P L[j] = true := by
  rw [(ranked_perm L P).mem_iff, plc_mem]
  constructor
  · rintro ⟨j, h1, h2, h3⟩; exact ⟨j, h2, cntAt_lt h3⟩
  · rintro ⟨j, h2, h3, h4⟩; exact ⟨j, h3, h2, by simp [cntAt, List.getElem?_eq_getElem h3, h4]⟩
def wins (L : List Bd) (P : Int) : Option Nat := (ranked L P).head?.map Int.toNat
theorem wins_none {L : List Bd} {P : Int} : wins L P = none ↔ ∀ x ∈ L, cntB P x = false := by
  unfold wins
  rw [Option.map_eq_none_iff, List.head?_eq_none_iff, ← List.length_eq_zero_iff, ranked_len, List.length_eq_zero_iff, List.filter_eq_nil_iff]
  simp
theorem wins_some {L : List Bd} {P : Int} {k : Nat} : wins L P = some k ↔ ∃ hk : k < L.length, cntB P L[k] = true ∧ ∀ j (hj : j < L.length), cntB P L[j] = true → L[j].n < L[k].n ∨ L[j].n = L[k].n ∧ k ≤ j := by
  unfold wins
  have hs := ranked_sorted L P
  have hm := ranked_mem L P
  cases hr : ranked L P with
  | nil =>
    rw [hr] at hm
    simp only [List.head?_nil, Option.map_none, reduceCtorEq, false_iff]
    rintro ⟨hk, h1, _⟩
    have := (hm k).2 ⟨k, rfl, hk, h1⟩
    simp at this
  | cons x xs =>
    rw [hr] at hs hm
    rw [List.pairwise_cons] at hs
    obtain ⟨q, rfl, hq, hqc⟩ := (hm x).1 List.mem_cons_self
    have hbest : ∀ j (hj : j < L.length), cntB P L[j] = true → L[j].n < L[q].n ∨ L[j].n = L[q].n ∧ q ≤ j := fun j hj hc => by
      rcases List.mem_cons.1 ((hm j).2 ⟨j, rfl, hj, hc⟩) with h | h
      · have : j = q := by omega
        subst this; exact .inr ⟨rfl, Nat.le_refl _⟩
      · have := hs.1 _ h
        unfold bef at this
        rw [B.kf_nat hq, B.kf_nat hj] at this
        omega
    simp only [List.head?_cons, Option.map_some, Int.toNat_natCast, Option.some.injEq]
    constructor
    · rintro rfl; exact ⟨hq, hqc, hbest⟩
    · rintro ⟨hk, hkc, hkb⟩
      have h1 := hbest k hk hkc
      have h2 := hkb q hq hqc
      omega
end Go.Proofs.YtjgkjenbgadacaaDoor

namespace Go.Proofs.YtjgkjenbgadacaaDoor
open Go.Ab
@[go_sem] theorem tk2 : tyk Tryd.prog 2 = some ⟨.int .i64, 1, 8, .v (.int .i64 0)⟩ := by kernel_rfl
@[go_sem] theorem tk3 : tyk Tryd.prog 3 = some ⟨.int .i64, 1, 8, .v (.int .i64 0)⟩ := by kernel_rfl
@[go_sem] theorem tk4 : tyk Tryd.prog 4 = some ⟨.bool, 1, 1, .v (.bool false)⟩ := by kernel_rfl
@[go_sem] theorem tk5 : tyk Tryd.prog 5 = some ⟨.int .u8, 1, 1, .v (.int .u8 0)⟩ := by kernel_rfl
@[go_sem] theorem tk6 : tyk Tryd.prog 6 = some ⟨.int .u8, 1, 1, .v (.int .u8 0)⟩ := by kernel_rfl
@[go_sem] theorem tk7 : tyk Tryd.prog 7 = some ⟨.struct [(0, 2), (1, 3), (2, 4), (3, 6)], 4, 24, .agg [.v (.int .i64 0), .v (.int .i64 0), .v (.bool false), .v (.int .u8 0)]⟩ := by kernel_rfl
@[go_sem] theorem tk8 : tyk Tryd.prog 8 = some ⟨.struct [(0, 2), (1, 3), (2, 4), (3, 6)], 4, 24, .agg [.v (.int .i64 0), .v (.int .i64 0), .v (.bool false), .v (.int .u8 0)]⟩ := by kernel_rfl
@[go_sem] theorem tk9 : tyk Tryd.prog 9 = some ⟨.str, 1, 16, .v (.string ⟨#[]⟩)⟩ := by kernel_rfl
@[go_sem] theorem tk10 : tyk Tryd.prog 10 = some ⟨.str, 1, 16, .v (.string ⟨#[]⟩)⟩ := by kernel_rfl
@[go_sem] theorem tk11 : tyk Tryd.prog 11 = some ⟨.str, 1, 16, .v (.string ⟨#[]⟩)⟩ := by kernel_rfl
@[go_sem] theorem tk12 : tyk Tryd.prog 12 = some ⟨.int .u64, 1, 8, .v (.int .u64 0)⟩ := by kernel_rfl
@[go_sem] theorem tk13 : tyk Tryd.prog 13 = some ⟨.struct [(0, 9), (1, 12)], 2, 24, .agg [.v (.string ⟨#[]⟩), .v (.int .u64 0)]⟩ := by kernel_rfl
@[go_sem] theorem tk14 : tyk Tryd.prog 14 = some ⟨.struct [(0, 9), (1, 12)], 2, 24, .agg [.v (.string ⟨#[]⟩), .v (.int .u64 0)]⟩ := by kernel_rfl
@[go_sem] theorem tk15 : tyk Tryd.prog 15 = some ⟨.ptr, 1, 8, .v (.pointer none)⟩ := by kernel_rfl
@[go_sem] theorem tk16 : tyk Tryd.prog 16 = some ⟨.ptr, 1, 8, .v (.pointer none)⟩ := by kernel_rfl
@[go_sem] theorem tk17 : tyk Tryd.prog 17 = some ⟨.ptr, 1, 8, .v (.pointer none)⟩ := by kernel_rfl
@[go_sem] theorem tk18 : tyk Tryd.prog 18 = some ⟨.struct [(0, 17)], 1, 8, .agg [.v (.pointer none)]⟩ := by kernel_rfl
@[go_sem] theorem tk19 : tyk Tryd.prog 19 = some ⟨.struct [(0, 17)], 1, 8, .agg [.v (.pointer none)]⟩ := by kernel_rfl
@[go_sem] theorem tk21 : tyk Tryd.prog 21 = some ⟨.int .i32, 1, 4, .v (.int .i32 0)⟩ := by kernel_rfl
@[go_sem] theorem tk22 : tyk Tryd.prog 22 = some ⟨.slice 24, 1, 24, .nil⟩ := by kernel_rfl
@[go_sem] theorem tk23 : tyk Tryd.prog 23 = some ⟨.struct [(0, 3), (1, 3), (2, 3), (3, 4)], 4, 32, .agg [.v (.int .i64 0), .v (.int .i64 0), .v (.int .i64 0), .v (.bool false)]⟩ := by kernel_rfl
@[go_sem] theorem tk24 : tyk Tryd.prog 24 = some ⟨.struct [(0, 3), (1, 3), (2, 3), (3, 4)], 4, 32, .agg [.v (.int .i64 0), .v (.int .i64 0), .v (.int .i64 0), .v (.bool false)]⟩ := by kernel_rfl
@[go_sem] theorem bk24 : bldOK Tryd.prog 24 = true := by kernel_rfl
@[go_sem] theorem ek24 : eqOK Tryd.prog 24 = true := by kernel_rfl
@[go_sem] theorem tk25 : tyk Tryd.prog 25 = some ⟨.slice 3, 1, 24, .nil⟩ := by kernel_rfl
@[go_sem] theorem tk27 : tyk Tryd.prog 27 = some ⟨.int .i64, 1, 8, .v (.int .i64 0)⟩ := by kernel_rfl
@[go_sem] theorem tk44 : tyk Tryd.prog 44 = some ⟨.slice 4, 1, 24, .nil⟩ := by kernel_rfl
@[go_sem] theorem tk47 : tyk Tryd.prog 47 = some ⟨.ptr, 1, 8, .v (.pointer none)⟩ := by kernel_rfl
@[go_sem] theorem tk49 : tyk Tryd.prog 49 = some ⟨.slice 51, 1, 24, .nil⟩ := by kernel_rfl
@[go_sem] theorem tk50 : tyk Tryd.prog 50 = some ⟨.struct [(0, 3), (1, 9), (2, 3)], 3, 32, .agg [.v (.int .i64 0), .v (.string ⟨#[]⟩), .v (.int .i64 0)]⟩ := by kernel_rfl
@[go_sem] theorem tk51 : tyk Tryd.prog 51 = some ⟨.struct [(0, 3), (1, 9), (2, 3)], 3, 32, .agg [.v (.int .i64 0), .v (.string ⟨#[]⟩), .v (.int .i64 0)]⟩ := by kernel_rfl
@[go_sem] theorem bk51 : bldOK Tryd.prog 51 = true := by kernel_rfl
@[go_sem] theorem ek51 : eqOK Tryd.prog 51 = true := by kernel_rfl
@[go_sem] theorem tk65 : tyk Tryd.prog 65 = some ⟨.map 3 4, 1, 8, .v (.map none)⟩ := by kernel_rfl
@[go_sem] theorem tk69 : tyk Tryd.prog 69 = some ⟨.map 74 3, 1, 8, .v (.map none)⟩ := by kernel_rfl
@[go_sem] theorem tk70 : tyk Tryd.prog 70 = some ⟨.slice 74, 1, 24, .nil⟩ := by kernel_rfl
@[go_sem] theorem tk71 : tyk Tryd.prog 71 = some ⟨.struct [(0, 70), (1, 69)], 2, 32, .agg [.nil, .v (.map none)]⟩ := by kernel_rfl
@[go_sem] theorem tk72 : tyk Tryd.prog 72 = some ⟨.struct [(0, 70), (1, 69)], 2, 32, .agg [.nil, .v (.map none)]⟩ := by kernel_rfl
@[go_sem] theorem bk72 : bldOK Tryd.prog 72 = true := by kernel_rfl
@[go_sem] theorem ek72 : eqOK Tryd.prog 72 = true := by kernel_rfl
@[go_sem] theorem tk73 : tyk Tryd.prog 73 = some ⟨.struct [(0, 3), (1, 9)], 2, 24, .agg [.v (.int .i64 0), .v (.string ⟨#[]⟩)]⟩ := by kernel_rfl
@[go_sem] theorem tk74 : tyk Tryd.prog 74 = some ⟨.struct [(0, 3), (1, 9)], 2, 24, .agg [.v (.int .i64 0), .v (.string ⟨#[]⟩)]⟩ := by kernel_rfl
@[go_sem] theorem bk74 : bldOK Tryd.prog 74 = true := by kernel_rfl
@[go_sem] theorem ek74 : eqOK Tryd.prog 74 = true := by kernel_rfl
@[go_sem] theorem tk84 : tyk Tryd.prog 84 = some ⟨.int .u64, 1, 8, .v (.int .u64 0)⟩ := by kernel_rfl
@[go_sem] theorem tk90 : tyk Tryd.prog 90 = some ⟨.int .u32, 1, 4, .v (.int .u32 0)⟩ := by kernel_rfl
@[go_sem] theorem tk93 : tyk Tryd.prog 93 = some ⟨.int .u64, 1, 8, .v (.int .u64 0)⟩ := by kernel_rfl
@[go_sem] theorem tk97 : tyk Tryd.prog 97 = some ⟨.slice 5, 1, 24, .nil⟩ := by kernel_rfl
@[go_sem] theorem tk99 : tyk Tryd.prog 99 = some ⟨.arr 24 5, 24, 24, .agg [.v (.int .u8 0), .v (.int .u8 0), .v (.int .u8 0), .v (.int .u8 0), .v (.int .u8 0), .v (.int .u8 0), .v (.int .u8 0), .v (.int .u8 0), .v (.int .u8 0), .v (.int .u8 0), .v (.int .u8 0), .v (.int .u8 0), .v (.int .u8 0), .v (.int .u8 0), .v (.int .u8 0), .v (.int .u8 0), .v (.int .u8 0), .v (.int .u8 0), .v (.int .u8 0), .v (.int .u8 0), .v (.int .u8 0), .v (.int .u8 0), .v (.int .u8 0), .v (.int .u8 0)]⟩ := by kernel_rfl
@[go_sem] theorem tk106 : tyk Tryd.prog 106 = some ⟨.arr 20 93, 20, 160, .agg [.v (.int .u64 0), .v (.int .u64 0), .v (.int .u64 0), .v (.int .u64 0), .v (.int .u64 0), .v (.int .u64 0), .v (.int .u64 0), .v (.int .u64 0), .v (.int .u64 0), .v (.int .u64 0), .v (.int .u64 0), .v (.int .u64 0), .v (.int .u64 0), .v (.int .u64 0), .v (.int .u64 0), .v (.int .u64 0), .v (.int .u64 0), .v (.int .u64 0), .v (.int .u64 0), .v (.int .u64 0)]⟩ := by kernel_rfl
@[go_sem] theorem tk107 : tyk Tryd.prog 107 = some ⟨.arr 65 5, 65, 65, .agg [.v (.int .u8 0), .v (.int .u8 0), .v (.int .u8 0), .v (.int .u8 0), .v (.int .u8 0), .v (.int .u8 0), .v (.int .u8 0), .v (.int .u8 0), .v (.int .u8 0), .v (.int .u8 0), .v (.int .u8 0), .v (.int .u8 0), .v (.int .u8 0), .v (.int .u8 0), .v (.int .u8 0), .v (.int .u8 0), .v (.int .u8 0), .v (.int .u8 0), .v (.int .u8 0), .v (.int .u8 0), .v (.int .u8 0), .v (.int .u8 0), .v (.int .u8 0), .v (.int .u8 0), .v (.int .u8 0), .v (.int .u8 0), .v (.int .u8 0), .v (.int .u8 0), .v (.int .u8 0), .v (.int .u8 0), .v (.int .u8 0), .v (.int .u8 0), .v (.int .u8 0), .v (.int .u8 0), .v (.int .u8 0), .v (.int .u8 0), .v (.int .u8 0), .v (.int .u8 0), .v (.int .u8 0), .v (.int .u8 0), .v (.int .u8 0), .v (.int .u8 0), .v (.int .u8 0), .v (.int .u8 0), .v (.int .u8 0), .v (.int .u8 0), .v (.int .u8 0), .v (.int .u8 0), .v (.int .u8 0), .v (.int .u8 0), .v (.int .u8 0), .v (.int .u8 0), .v (.int .u8 0), .v (.int .u8 0), .v (.int .u8 0), .v (.int .u8 0), .v (.int .u8 0), .v (.int .u8 0), .v (.int .u8 0), .v (.int .u8 0), .v (.int .u8 0), .v (.int .u8 0), .v (.int .u8 0), .v (.int .u8 0), .v (.int .u8 0)]⟩ := by kernel_rfl
@[go_sem] theorem tk110 : tyk Tryd.prog 110 = some ⟨.arr 32 5, 32, 32, .agg [.v (.int .u8 0), .v (.int .u8 0), .v (.int .u8 0), .v (.int .u8 0), .v (.int .u8 0), .v (.int .u8 0), .v (.int .u8 0), .v (.int .u8 0), .v (.int .u8 0), .v (.int .u8 0), .v (.int .u8 0), .v (.int .u8 0), .v (.int .u8 0), .v (.int .u8 0), .v (.int .u8 0), .v (.int .u8 0), .v (.int .u8 0), .v (.int .u8 0), .v (.int .u8 0), .v (.int .u8 0), .v (.int .u8 0), .v (.int .u8 0), .v (.int .u8 0), .v (.int .u8 0), .v (.int .u8 0), .v (.int .u8 0), .v (.int .u8 0), .v (.int .u8 0), .v (.int .u8 0), .v (.int .u8 0), .v (.int .u8 0), .v (.int .u8 0)]⟩ := by kernel_rfl
@[go_sem] theorem tk111 : tyk Tryd.prog 111 = some ⟨.arr 64 5, 64, 64, .agg [.v (.int .u8 0), .v (.int .u8 0), .v (.int .u8 0), .v (.int .u8 0), .v (.int .u8 0), .v (.int .u8 0), .v (.int .u8 0), .v (.int .u8 0), .v (.int .u8 0), .v (.int .u8 0), .v (.int .u8 0), .v (.int .u8 0), .v (.int .u8 0), .v (.int .u8 0), .v (.int .u8 0), .v (.int .u8 0), .v (.int .u8 0), .v (.int .u8 0), .v (.int .u8 0), .v (.int .u8 0), .v (.int .u8 0), .v (.int .u8 0), .v (.int .u8 0), .v (.int .u8 0), .v (.int .u8 0), .v (.int .u8 0), .v (.int .u8 0), .v (.int .u8 0), .v (.int .u8 0), .v (.int .u8 0), .v (.int .u8 0), .v (.int .u8 0), .v (.int .u8 0), .v (.int .u8 0), .v (.int .u8 0), .v (.int .u8 0), .v (.int .u8 0), .v (.int .u8 0), .v (.int .u8 0), .v (.int .u8 0), .v (.int .u8 0), .v (.int .u8 0), .v (.int .u8 0), .v (.int .u8 0), .v (.int .u8 0), .v (.int .u8 0), .v (.int .u8 0), .v (.int .u8 0), .v (.int .u8 0), .v (.int .u8 0), .v (.int .u8 0), .v (.int .u8 0), .v (.int .u8 0), .v (.int .u8 0), .v (.int .u8 0), .v (.int .u8 0), .v (.int .u8 0), .v (.int .u8 0), .v (.int .u8 0), .v (.int .u8 0), .v (.int .u8 0), .v (.int .u8 0), .v (.int .u8 0), .v (.int .u8 0)]⟩ := by kernel_rfl
@[go_sem] theorem tk113 : tyk Tryd.prog 113 = some ⟨.struct [(0, 17), (1, 17), (2, 17), (3, 9)], 4, 40, .agg [.v (.pointer none), .v (.pointer none), .v (.pointer none), .v (.string ⟨#[]⟩)]⟩ := by kernel_rfl
@[go_sem] theorem tk114 : tyk Tryd.prog 114 = some ⟨.struct [(0, 17), (1, 17), (2, 17), (3, 9)], 4, 40, .agg [.v (.pointer none), .v (.pointer none), .v (.pointer none), .v (.string ⟨#[]⟩)]⟩ := by kernel_rfl
@[go_sem] theorem tk115 : tyk Tryd.prog 115 = some ⟨.arr 0 16, 0, 0, .agg []⟩ := by kernel_rfl
@[go_sem] theorem tk116 : tyk Tryd.prog 116 = some ⟨.struct [(0, 115)], 0, 0, .agg []⟩ := by kernel_rfl
@[go_sem] theorem tk117 : tyk Tryd.prog 117 = some ⟨.struct [(0, 115)], 0, 0, .agg []⟩ := by kernel_rfl
@[go_sem] theorem tk119 : tyk Tryd.prog 119 = some ⟨.int .u8, 1, 1, .v (.int .u8 0)⟩ := by kernel_rfl
@[go_sem] theorem tk120 : tyk Tryd.prog 120 = some ⟨.int .u8, 1, 1, .v (.int .u8 0)⟩ := by kernel_rfl
@[go_sem] theorem tk122 : tyk Tryd.prog 122 = some ⟨.ptr, 1, 8, .v (.pointer none)⟩ := by kernel_rfl
@[go_sem] theorem tk123 : tyk Tryd.prog 123 = some ⟨.int .i32, 1, 4, .v (.int .i32 0)⟩ := by kernel_rfl
@[go_sem] theorem tk124 : tyk Tryd.prog 124 = some ⟨.int .i32, 1, 4, .v (.int .i32 0)⟩ := by kernel_rfl
@[go_sem] theorem tk125 : tyk Tryd.prog 125 = some ⟨.struct [(0, 12), (1, 12), (2, 90), (3, 119), (4, 5), (5, 5), (6, 120), (7, 121), (8, 122), (9, 123), (10, 124)], 11, 48, .agg [.v (.int .u64 0), .v (.int .u64 0), .v (.int .u32 0), .v (.int .u8 0), .v (.int .u8 0), .v (.int .u8 0), .v (.int .u8 0), .v .nilFunc, .v (.pointer none), .v (.int .i32 0), .v (.int .i32 0)]⟩ := by kernel_rfl
@[go_sem] theorem tk126 : tyk Tryd.prog 126 = some ⟨.struct [(0, 12), (1, 12), (2, 90), (3, 119), (4, 5), (5, 5), (6, 120), (7, 121), (8, 122), (9, 123), (10, 124)], 11, 48, .agg [.v (.int .u64 0), .v (.int .u64 0), .v (.int .u32 0), .v (.int .u8 0), .v (.int .u8 0), .v (.int .u8 0), .v (.int .u8 0), .v .nilFunc, .v (.pointer none), .v (.int .i32 0), .v (.int .i32 0)]⟩ := by kernel_rfl
@[go_sem] theorem cl3 : callable Tryd.prog 3 = true := by kernel_rfl
@[go_sem] theorem cl4 : callable Tryd.prog 4 = true := by kernel_rfl
@[go_sem] theorem cl5 : callable Tryd.prog 5 = true := by kernel_rfl
@[go_sem] theorem cl6 : callable Tryd.prog 6 = true := by kernel_rfl
@[go_sem] theorem cl7 : callable Tryd.prog 7 = true := by kernel_rfl
@[go_sem] theorem cl8 : callable Tryd.prog 8 = true := by kernel_rfl
@[go_sem] theorem cl9 : callable Tryd.prog 9 = true := by kernel_rfl
@[go_sem] theorem cl10 : callable Tryd.prog 10 = true := by kernel_rfl
@[go_sem] theorem cl11 : callable Tryd.prog 11 = true := by kernel_rfl
@[go_sem] theorem cl12 : callable Tryd.prog 12 = true := by kernel_rfl
@[go_sem] theorem cl13 : callable Tryd.prog 13 = true := by kernel_rfl
@[go_sem] theorem cl14 : callable Tryd.prog 14 = true := by kernel_rfl
@[go_sem] theorem cl15 : callable Tryd.prog 15 = true := by kernel_rfl
@[go_sem] theorem cl16 : callable Tryd.prog 16 = true := by kernel_rfl
@[go_sem] theorem cl17 : callable Tryd.prog 17 = true := by kernel_rfl
@[go_sem] theorem cl18 : callable Tryd.prog 18 = true := by kernel_rfl
@[go_sem] theorem cl19 : callable Tryd.prog 19 = true := by kernel_rfl
@[go_sem] theorem cl20 : callable Tryd.prog 20 = true := by kernel_rfl
@[go_sem] theorem cl21 : callable Tryd.prog 21 = true := by kernel_rfl
@[go_sem] theorem cl22 : callable Tryd.prog 22 = true := by kernel_rfl
@[go_sem] theorem cl23 : callable Tryd.prog 23 = true := by kernel_rfl
@[go_sem] theorem cl24 : callable Tryd.prog 24 = true := by kernel_rfl
@[go_sem] theorem cl25 : callable Tryd.prog 25 = true := by kernel_rfl
@[go_sem] theorem cl26 : callable Tryd.prog 26 = true := by kernel_rfl
@[go_sem] theorem cl27 : callable Tryd.prog 27 = true := by kernel_rfl
@[go_sem] theorem cl28 : callable Tryd.prog 28 = true := by kernel_rfl
@[go_sem] theorem cl29 : callable Tryd.prog 29 = true := by kernel_rfl
@[go_sem] theorem cl30 : callable Tryd.prog 30 = true := by kernel_rfl
@[go_sem] theorem cl31 : callable Tryd.prog 31 = true := by kernel_rfl
@[go_sem] theorem cl32 : callable Tryd.prog 32 = true := by kernel_rfl
@[go_sem] theorem cl33 : callable Tryd.prog 33 = true := by kernel_rfl
@[go_sem] theorem cl34 : callable Tryd.prog 34 = true := by kernel_rfl
@[go_sem] theorem cl35 : callable Tryd.prog 35 = true := by kernel_rfl
@[go_sem] theorem cl36 : callable Tryd.prog 36 = true := by kernel_rfl
@[go_sem] theorem cl37 : callable Tryd.prog 37 = true := by kernel_rfl
@[go_sem] theorem cl38 : callable Tryd.prog 38 = true := by kernel_rfl
@[go_sem] theorem cl39 : callable Tryd.prog 39 = true := by kernel_rfl
@[go_sem] theorem cl40 : callable Tryd.prog 40 = true := by kernel_rfl
@[go_sem] theorem cl41 : callable Tryd.prog 41 = true := by kernel_rfl
@[go_sem] theorem cl42 : callable Tryd.prog 42 = true := by kernel_rfl
@[go_sem] theorem cl43 : callable Tryd.prog 43 = true := by kernel_rfl
@[go_sem] theorem cl44 : callable Tryd.prog 44 = true := by kernel_rfl
@[go_sem] theorem cl45 : callable Tryd.prog 45 = true := by kernel_rfl
@[go_sem] theorem cl46 : callable Tryd.prog 46 = true := by kernel_rfl
@[go_sem] theorem cl47 : callable Tryd.prog 47 = true := by kernel_rfl
@[go_sem] theorem cl48 : callable Tryd.prog 48 = true := by kernel_rfl
@[go_sem] theorem cl49 : callable Tryd.prog 49 = true := by kernel_rfl
@[go_sem] theorem cl50 : callable Tryd.prog 50 = true := by kernel_rfl
@[go_sem] theorem cl51 : callable Tryd.prog 51 = true := by kernel_rfl
@[go_sem] theorem cl52 : callable Tryd.prog 52 = true := by kernel_rfl
@[go_sem] theorem cl53 : callable Tryd.prog 53 = true := by kernel_rfl
@[go_sem] theorem cl54 : callable Tryd.prog 54 = true := by kernel_rfl
@[go_sem] theorem cl55 : callable Tryd.prog 55 = true := by kernel_rfl
@[go_sem] theorem cl56 : callable Tryd.prog 56 = true := by kernel_rfl
@[go_sem] theorem cl58 : callable Tryd.prog 58 = true := by kernel_rfl
@[go_sem] theorem cl59 : callable Tryd.prog 59 = true := by kernel_rfl
@[go_sem] theorem cl60 : callable Tryd.prog 60 = true := by kernel_rfl
@[go_sem] theorem cl61 : callable Tryd.prog 61 = true := by kernel_rfl
@[go_sem] theorem cl62 : callable Tryd.prog 62 = true := by kernel_rfl
@[go_sem] theorem cl63 : callable Tryd.prog 63 = true := by kernel_rfl
@[go_sem] theorem cl64 : callable Tryd.prog 64 = true := by kernel_rfl
@[go_sem] theorem cl65 : callable Tryd.prog 65 = true := by kernel_rfl
@[go_sem] theorem cl66 : callable Tryd.prog 66 = true := by kernel_rfl
@[go_sem] theorem cl67 : callable Tryd.prog 67 = true := by kernel_rfl
@[go_sem] theorem cl68 : callable Tryd.prog 68 = true := by kernel_rfl
@[go_sem] theorem cl69 : callable Tryd.prog 69 = true := by kernel_rfl
@[go_sem] theorem cl70 : callable Tryd.prog 70 = true := by kernel_rfl
@[go_sem] theorem cl71 : callable Tryd.prog 71 = true := by kernel_rfl
@[go_sem] theorem cl72 : callable Tryd.prog 72 = true := by kernel_rfl
@[go_sem] theorem cl73 : callable Tryd.prog 73 = true := by kernel_rfl
@[go_sem] theorem cl74 : callable Tryd.prog 74 = true := by kernel_rfl
@[go_sem] theorem cl75 : callable Tryd.prog 75 = true := by kernel_rfl
@[go_sem] theorem cl76 : callable Tryd.prog 76 = true := by kernel_rfl
@[go_sem] theorem cl77 : callable Tryd.prog 77 = true := by kernel_rfl
@[go_sem] theorem cl78 : callable Tryd.prog 78 = true := by kernel_rfl
@[go_sem] theorem cl79 : callable Tryd.prog 79 = true := by kernel_rfl
@[go_sem] theorem cl80 : callable Tryd.prog 80 = true := by kernel_rfl
@[go_sem] theorem cl81 : callable Tryd.prog 81 = true := by kernel_rfl
@[go_sem] theorem cl82 : callable Tryd.prog 82 = true := by kernel_rfl
@[go_sem] theorem cl84 : callable Tryd.prog 84 = true := by kernel_rfl
@[go_sem] theorem cl91 : callable Tryd.prog 91 = true := by kernel_rfl
@[go_sem] theorem cl94 : callable Tryd.prog 94 = true := by kernel_rfl
@[go_sem] theorem cl95 : callable Tryd.prog 95 = true := by kernel_rfl
@[go_sem] theorem cl96 : callable Tryd.prog 96 = true := by kernel_rfl
end Go.Proofs.YtjgkjenbgadacaaDoor

