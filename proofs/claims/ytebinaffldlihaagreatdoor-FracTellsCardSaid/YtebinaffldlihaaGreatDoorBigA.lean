import Derived.Test.YtebinaffldlihaaGreatDoorBigS
set_option linter.all false
namespace Go.Proofs.YtebinaffldlihaaGreatDoor
open Go.RowKit Go.Ab
attribute [local irreducible] AWP Go.Ab.Sub Means MeansH CallK CallG CallT CallGT
def zeroFrom (L : List Int) (n : Nat) : Prop := ∀ j (h : j < L.length), n ≤ j → L[j] = 0
theorem j7 {L : List Int} {n : Nat} (h : zeroFrom L n) (hn : n - 1 < L.length) (h0 : L[n - 1] = 0) : zeroFrom L (n - 1) := fun j hj hk => by
  by_cases e : j = n - 1
  · subst e; exact h0
  · exact h j hj (by omega)
theorem dW {L : List Int} (ho : okD L) {n : Nat} (hn : n ≤ L.length) (h : zeroFrom L n) (h2 : n = 0 ∨ ∃ hp : n - 1 < L.length, L[n - 1] ≠ 0) : dg (val L) = L.take n :=
  mF ho hn h fun hp => by
    rcases h2 with h2 | ⟨_, h2⟩
    · omega
    · exact h2
theorem u3 (L : List Int) (hl : L.length ≤ 100000) (ho : okD L) : Means false Tryz.prog 72 [il L] (il (dg (val L))) := by
  refine aK false 21 [.tmp 2] Tryz.func72 rfl rfl rfl (by simp) (by decide) rfl fun X hX => ?_
  (repeat (first | refine aC ?_ | refine a7 ?_ | ((first | refine a8 [0, 2, 3, 15] hX ?_ | refine a6 [0, 2, 3, 15] hX mixed ?_ | refine aD ?_ | refine aA ?_ | refine aB ?_); (simp [go_sem]; try (refine ⟨by kernel_rfl, ?_⟩)))))
  refine aQ (fun n : Nat => ⟨mkE [(0, il L), (3, ii n)], []⟩) (fun n => n ≤ L.length ∧ zeroFrom L n) (fun n => n) L.length ?_ ?_ ?_
  · refine aL _ [] (by simp [go_sem]) ?_
    simp [go_sem]
  · exact ⟨Nat.le_refl _, fun j h h2 => by omega⟩
  · rintro n ⟨hn, hz⟩
    cases n with
    | zero =>
      have hz0 : il (dg (val L)) = il [] := by rw [dW ho hn hz (.inl rfl)]; rfl
      rw [hz0]
      clear ho hz hz0
      cases L with
      | nil =>
        (repeat (first | refine aC ?_ | refine a7 ?_ | ((first | refine a8 [0, 2, 3, 15] hX ?_ | refine a6 [0, 2, 3, 15] hX mixed ?_ | refine aD ?_ | refine aA ?_ | refine aB ?_); (simp [go_sem]; try (refine ⟨by kernel_rfl, ?_⟩)))))
        refine aG (b := false) (by simp [go_sem]) (fun hb => by cases hb) (fun _ => ?_)
        (repeat (first | refine aC ?_ | refine a7 ?_ | ((first | refine a8 [0, 2, 3, 15] hX ?_ | refine a6 [0, 2, 3, 15] hX mixed ?_ | refine aD ?_ | refine aA ?_ | refine aB ?_); (simp [go_sem]; try (refine ⟨by kernel_rfl, ?_⟩)))))
      | cons x xs =>
        (repeat (first | refine aC ?_ | refine a7 ?_ | ((first | refine a8 [0, 2, 3, 15] hX ?_ | refine a6 [0, 2, 3, 15] hX mixed ?_ | refine aD ?_ | refine aA ?_ | refine aB ?_); (simp [go_sem, eC]; try (refine ⟨by kernel_rfl, ?_⟩)))))
        refine aG (b := false) (by simp [go_sem]) (fun hb => by cases hb) (fun _ => ?_)
        (repeat (first | refine aC ?_ | refine a7 ?_ | ((first | refine a8 [0, 2, 3, 15] hX ?_ | refine a6 [0, 2, 3, 15] hX mixed ?_ | refine aD ?_ | refine aA ?_ | refine aB ?_); (simp [go_sem]; try (refine ⟨by kernel_rfl, ?_⟩)))))
        (repeat refine And.intro (by first | omega | (unfold maxLen; omega) | kernel_rfl | (refine ⟨by first | omega | (unfold maxLen; omega), by first | omega | (unfold maxLen; omega)⟩) | grind) ?_)
        (repeat (first | refine aC ?_ | refine a7 ?_ | ((first | refine a8 [0, 2, 3, 15] hX ?_ | refine a6 [0, 2, 3, 15] hX mixed ?_ | refine aD ?_ | refine aA ?_ | refine aB ?_); (simp [go_sem]; try (refine ⟨by kernel_rfl, ?_⟩)))))
    | succ n =>
      have h1 : n < L.length := by omega
      (repeat (first | refine aC ?_ | refine a7 ?_ | ((first | refine a8 [0, 2, 3, 15] hX ?_ | refine a6 [0, 2, 3, 15] hX mixed ?_ | refine aD ?_ | refine aA ?_ | refine aB ?_); (simp [go_sem]; (try simp (disch := omega) only [w64, td, tm]); try (refine ⟨by kernel_rfl, ?_⟩)))))
      (repeat refine And.intro (by first | omega | (unfold maxLen; omega) | kernel_rfl | (refine ⟨by first | omega | (unfold maxLen; omega), by first | omega | (unfold maxLen; omega)⟩) | grind) ?_)
      try (simp [go_sem, h1]; try (refine ⟨by kernel_rfl, ?_⟩))
      refine aG (b := decide (L[n] = 0)) (by simp [go_sem, h1]; try omega) (fun hb => ?_) (fun hb => ?_)
      · simp at hb
        (repeat (first | refine aC ?_ | refine a7 ?_ | ((first | refine a8 [0, 2, 3, 15] hX ?_ | refine a6 [0, 2, 3, 15] hX mixed ?_ | refine aD ?_ | refine aA ?_ | refine aB ?_); (simp [go_sem]; (try simp (disch := omega) only [w64, td, tm]); try (refine ⟨by kernel_rfl, ?_⟩)))))
        refine ⟨n, ⟨by omega, j7 hz h1 hb⟩, by omega, ?_⟩
        refine aL _ [] (by simp [go_sem]) ?_
        simp [go_sem]
      · simp at hb
        (repeat (first | refine aC ?_ | refine a7 ?_ | ((first | refine a8 [0, 2, 3, 15] hX ?_ | refine a6 [0, 2, 3, 15] hX mixed ?_ | refine aD ?_ | refine aA ?_ | refine aB ?_); (simp [go_sem]; try (refine ⟨by kernel_rfl, ?_⟩)))))
        (repeat refine And.intro (by first | omega | (unfold maxLen; omega) | kernel_rfl | (refine ⟨by first | omega | (unfold maxLen; omega), by first | omega | (unfold maxLen; omega)⟩) | grind) ?_)
        (repeat (first | refine aC ?_ | refine a7 ?_ | ((first | refine a8 [0, 2, 3, 15] hX ?_ | refine a6 [0, 2, 3, 15] hX mixed ?_ | refine aD ?_ | refine aA ?_ | refine aB ?_); (simp [go_sem]; try (refine ⟨by kernel_rfl, ?_⟩)))))
        rw [dW ho hn hz (.inr ⟨h1, hb⟩)]
        simp
theorem bG (L : List Int) (hl : L.length ≤ 100000) (ho : okD L) : MeansH Tryz.prog 72 [.row ⟨3, 1, L.map ii⟩] [.ow 0] (.wn 0 1 0 (dg (val L)).length) [.row ⟨3, 1, L.map ii⟩] := by
  refine dI 1 21 [.tmp 2] Tryz.func72 rfl rfl rfl (by simp) (by decide) rfl fun X hX => ?_
  (repeat (first | refine aC ?_ | refine a7 ?_ | ((first | refine a8 [0, 2, 3, 15, 1000000] hX ?_ | refine a6 [0, 2, 3, 15, 1000000] hX mixed ?_ | refine aA ?_ | refine aB ?_); (simp [go_sem]; try (refine ⟨by kernel_rfl, ?_⟩)))))
  refine aQ (fun n : Nat => ⟨mkE [(0, .ow 0), (3, ii n), (1000000, .ow 0)], [.row ⟨3, 1, L.map ii⟩]⟩) (fun n => n ≤ L.length ∧ zeroFrom L n) (fun n => n) L.length ?_ ?_ ?_
  · refine aL _ [.old 0 ⟨3, 1, L.map ii⟩] (by simp [go_sem]) ?_
    simp [go_sem]
  · exact ⟨Nat.le_refl _, fun j h h2 => by omega⟩
  · rintro n ⟨hn, hz⟩
    cases n with
    | zero =>
      have hz0 : (dg (val L)).length = 0 := by rw [dW ho hn hz (.inl rfl)]; rfl
      rw [hz0]
      clear ho hz hz0
      cases L with
      | nil =>
        (repeat (first | refine aC ?_ | refine a7 ?_ | ((first | refine a8 [0, 2, 3, 15, 1000000] hX ?_ | refine a6 [0, 2, 3, 15, 1000000] hX mixed ?_ | refine aA ?_ | refine aB ?_); (simp [go_sem]; try (refine ⟨by kernel_rfl, ?_⟩)))))
        refine aG (b := false) (by simp [go_sem]) (fun hb => by cases hb) (fun _ => ?_)
        (repeat (first | refine aC ?_ | refine a7 ?_ | ((first | refine a8 [0, 2, 3, 15, 1000000] hX ?_ | refine a6 [0, 2, 3, 15, 1000000] hX mixed ?_ | refine aA ?_ | refine aB ?_); (simp [go_sem]; try (refine ⟨by kernel_rfl, ?_⟩)))))
        refine aD ?_; (try simp only [thenQ, blkQ, loopQ]); refine bY [(2, .wn 0 1 0 0), (1000000, .ow 0)] [.old 0 ⟨3, 1, ([] : List Int).map ii⟩] ?_
        simp [go_sem]
      | cons x xs =>
        (repeat (first | refine aC ?_ | refine a7 ?_ | ((first | refine a8 [0, 2, 3, 15, 1000000] hX ?_ | refine a6 [0, 2, 3, 15, 1000000] hX mixed ?_ | refine aA ?_ | refine aB ?_); (simp [go_sem, eC]; try (refine ⟨by kernel_rfl, ?_⟩)))))
        refine aG (b := false) (by simp [go_sem]) (fun hb => by cases hb) (fun _ => ?_)
        (repeat (first | refine aC ?_ | refine a7 ?_ | ((first | refine a8 [0, 2, 3, 15, 1000000] hX ?_ | refine a6 [0, 2, 3, 15, 1000000] hX mixed ?_ | refine aA ?_ | refine aB ?_); (simp [go_sem]; try (refine ⟨by kernel_rfl, ?_⟩)))))
        (repeat refine And.intro (by first | omega | (unfold maxLen; omega) | kernel_rfl | (refine ⟨by first | omega | (unfold maxLen; omega), by first | omega | (unfold maxLen; omega)⟩) | grind) ?_)
        (repeat (first | refine aC ?_ | refine a7 ?_ | ((first | refine a8 [0, 2, 3, 15, 1000000] hX ?_ | refine a6 [0, 2, 3, 15, 1000000] hX mixed ?_ | refine aA ?_ | refine aB ?_); (simp [go_sem]; try (refine ⟨by kernel_rfl, ?_⟩)))))
        refine aD ?_; (try simp only [thenQ, blkQ, loopQ]); refine bY [(2, .wn 0 1 0 0), (1000000, .ow 0)] [.old 0 ⟨3, 1, (x :: xs).map ii⟩] ?_
        simp [go_sem]
    | succ n =>
      have h1 : n < L.length := by omega
      (repeat (first | refine aC ?_ | refine a7 ?_ | ((first | refine a8 [0, 2, 3, 15, 1000000] hX ?_ | refine a6 [0, 2, 3, 15, 1000000] hX mixed ?_ | refine aA ?_ | refine aB ?_); (simp [go_sem]; (try simp (disch := omega) only [w64, td, tm]); try (refine ⟨by kernel_rfl, ?_⟩)))))
      (repeat refine And.intro (by first | omega | (unfold maxLen; omega) | kernel_rfl | (refine ⟨by first | omega | (unfold maxLen; omega), by first | omega | (unfold maxLen; omega)⟩) | grind) ?_)
      try (simp [go_sem, h1]; try (refine ⟨by kernel_rfl, ?_⟩))
      refine aG (b := decide (L[n] = 0)) (by simp [go_sem, h1]; try omega) (fun hb => ?_) (fun hb => ?_)
      · simp at hb
        (repeat (first | refine aC ?_ | refine a7 ?_ | ((first | refine a8 [0, 2, 3, 15, 1000000] hX ?_ | refine a6 [0, 2, 3, 15, 1000000] hX mixed ?_ | refine aA ?_ | refine aB ?_); (simp [go_sem]; (try simp (disch := omega) only [w64, td, tm]); try (refine ⟨by kernel_rfl, ?_⟩)))))
        refine ⟨n, ⟨by omega, j7 hz h1 hb⟩, by omega, ?_⟩
        refine aL _ [.old 0 ⟨3, 1, L.map ii⟩] (by simp [go_sem]) ?_
        simp [go_sem]
      · simp at hb
        have hd : (dg (val L)).length = n + 1 := by rw [dW ho hn hz (.inr ⟨h1, hb⟩), List.length_take]; omega
        rw [hd]
        (repeat (first | refine aC ?_ | refine a7 ?_ | ((first | refine a8 [0, 2, 3, 15, 1000000] hX ?_ | refine a6 [0, 2, 3, 15, 1000000] hX mixed ?_ | refine aA ?_ | refine aB ?_); (simp [go_sem]; try (refine ⟨by kernel_rfl, ?_⟩)))))
        (repeat refine And.intro (by first | omega | (unfold maxLen; omega) | kernel_rfl | (refine ⟨by first | omega | (unfold maxLen; omega), by first | omega | (unfold maxLen; omega)⟩) | grind) ?_)
        (repeat (first | refine aC ?_ | refine a7 ?_ | ((first | refine a8 [0, 2, 3, 15, 1000000] hX ?_ | refine a6 [0, 2, 3, 15, 1000000] hX mixed ?_ | refine aA ?_ | refine aB ?_); (simp [go_sem]; try (refine ⟨by kernel_rfl, ?_⟩)))))
        refine aD ?_; (try simp only [thenQ, blkQ, loopQ]); refine bY [(2, .wn 0 1 0 (n + 1)), (1000000, .ow 0)] [.old 0 ⟨3, 1, L.map ii⟩] ?_
        simp [go_sem]
theorem iR {L : List Int} (ho : okD L) : (L.map ii).take (dg (val L)).length = (dg (val L)).map ii := by
  rw [← List.map_take, ← (c9 ho).1]
theorem mG (L : List Int) (hl : L.length ≤ 100000) : MeansH Tryz.prog 67 [] [il L] (.ow 0) [.row ⟨3, 1, L.map ii⟩] := by
  refine dI 0 8 [.tmp 2] Tryz.func67 rfl rfl rfl (by simp) (by decide) rfl fun X hX => ?_
  (repeat (first | refine aC ?_ | refine a7 ?_ | ((first | refine a8 [0, 2, 4] hX ?_ | refine a6 [0, 2, 4] hX mixed ?_ | refine aA ?_ | refine aB ?_); (simp [go_sem]; try (refine ⟨by kernel_rfl, ?_⟩)))))
  refine ⟨?_, fun hL => ?_⟩
  · refine aG (b := false) (by simp [go_sem]) (fun hb => by cases hb) (fun _ => ?_)
    (repeat (first | refine aC ?_ | refine a7 ?_ | ((first | refine a8 [0, 2, 4] hX ?_ | refine a6 [0, 2, 4] hX mixed ?_ | refine aA ?_ | refine aB ?_); (simp [go_sem]; try (refine ⟨by kernel_rfl, ?_⟩)))))
    (repeat refine And.intro (by first | omega | (unfold maxLen; omega) | kernel_rfl | (refine ⟨by first | omega | (unfold maxLen; omega), by first | omega | (unfold maxLen; omega)⟩) | grind) ?_)
    (repeat (first | refine aC ?_ | refine a7 ?_ | ((first | refine a8 [0, 2, 4] hX ?_ | refine a6 [0, 2, 4] hX mixed ?_ | refine aA ?_ | refine aB ?_); (simp [go_sem]; try (refine ⟨by kernel_rfl, ?_⟩)))))
    refine aD ?_; (try simp only [thenQ, blkQ, loopQ]); refine bY [(2, .ow 0)] [.old 1 ⟨3, 1, L.map ii⟩] ?_
    simp [go_sem]
  · subst hL
    refine aG (b := true) (by simp [go_sem]) (fun _ => ?_) (fun hb => by cases hb)
    (repeat (first | refine aC ?_ | refine a7 ?_ | ((first | refine a8 [0, 2, 4] hX ?_ | refine a6 [0, 2, 4] hX mixed ?_ | refine aA ?_ | refine aB ?_); (simp [go_sem]; try (refine ⟨by kernel_rfl, ?_⟩)))))
    refine aD ?_; (try simp only [thenQ, blkQ, loopQ]); refine bY [(2, .ow 0)] [.birth 3 1] ?_
    simp [go_sem]
theorem gK (L : List Int) (hl : L.length ≤ 100000) : Means true Tryz.prog 67 [il L] (il L) := by
  refine aK true 8 [.tmp 2] Tryz.func67 rfl rfl rfl (by simp) (by decide) rfl fun X hX => ?_
  (repeat (first | refine aC ?_ | refine a7 ?_ | ((first | refine a8 [0, 2, 4] hX ?_ | refine a6 [0, 2, 4] hX mixed ?_ | refine aD ?_ | refine aA ?_ | refine aB ?_); (simp [go_sem]; try (refine ⟨by kernel_rfl, ?_⟩)))))
  refine ⟨?_, fun hL => ?_⟩
  · refine aG (b := false) (by simp [go_sem]) (fun hb => by cases hb) (fun _ => ?_)
    (repeat (first | refine aC ?_ | refine a7 ?_ | ((first | refine a8 [0, 2, 4] hX ?_ | refine a6 [0, 2, 4] hX mixed ?_ | refine aD ?_ | refine aA ?_ | refine aB ?_); (simp [go_sem]; try (refine ⟨by kernel_rfl, ?_⟩)))))
    (repeat refine And.intro (by first | omega | (unfold maxLen; omega) | kernel_rfl | (refine ⟨by first | omega | (unfold maxLen; omega), by first | omega | (unfold maxLen; omega)⟩) | grind) ?_)
    (repeat (first | refine aC ?_ | refine a7 ?_ | ((first | refine a8 [0, 2, 4] hX ?_ | refine a6 [0, 2, 4] hX mixed ?_ | refine aD ?_ | refine aA ?_ | refine aB ?_); (simp [go_sem]; try (refine ⟨by kernel_rfl, ?_⟩)))))
  · subst hL
    refine aG (b := true) (by simp [go_sem]) (fun _ => ?_) (fun hb => by cases hb)
    (repeat (first | refine aC ?_ | refine a7 ?_ | ((first | refine a8 [0, 2, 4] hX ?_ | refine a6 [0, 2, 4] hX mixed ?_ | refine aD ?_ | refine aA ?_ | refine aB ?_); (simp [go_sem]; try (refine ⟨by kernel_rfl, ?_⟩)))))
set_option maxHeartbeats 1000000 in
set_option maxRecDepth 20000 in
theorem tO (a b : List Int) (ha : okD a) (hb : okD b) (hla : a.length ≤ 10000) (hlb : b.length ≤ 10000) : Means true Tryz.prog 71 [il a, il b] (il (dg (val a + val b))) := by
  obtain ⟨A, C, hA, hC, hlA, hlC, hcase⟩ : ∃ A C : List Int, okD A ∧ okD C ∧ A.length ≤ 10000 ∧ C.length ≤ A.length ∧ ((a.length < b.length ∧ A = b ∧ C = a) ∨ (¬ a.length < b.length ∧ A = a ∧ C = b)) := by
    by_cases h : a.length < b.length
    · exact ⟨b, a, hb, ha, hlb, by omega, .inl ⟨h, rfl, rfl⟩⟩
    · exact ⟨a, b, ha, hb, hla, by omega, .inr ⟨h, rfl, rfl⟩⟩
  have hv : val a + val b = val A + val C := by rcases hcase with ⟨_, rfl, rfl⟩ | ⟨_, rfl, rfl⟩ <;> omega
  rw [hv]
  refine aK true 55 [.tmp 4] Tryz.func71 rfl rfl rfl (by simp) (by decide) rfl fun X hX => ?_
  (repeat (first | refine aC ?_ | refine a7 ?_ | ((first | refine a8 [0, 1, 4, 5, 6, 7, 8, 13, 20, 21, 22, 23, 33] hX ?_ | refine a6 [0, 1, 4, 5, 6, 7, 8, 13, 20, 21, 22, 23, 33] hX mixed ?_ | refine aD ?_ | refine aA ?_ | refine aB ?_); (simp [go_sem]; try (refine ⟨by kernel_rfl, ?_⟩)))))
  refine eL ⟨mkE [(0, il A), (1, il C)], []⟩ ?_ ?_
  · refine aG (b := decide (a.length < b.length)) (by simp [go_sem]) (fun hd => ?_) (fun hd => ?_)
    · simp only [decide_eq_true_eq] at hd
      rcases hcase with ⟨_, rfl, rfl⟩ | ⟨h, _⟩
      · (repeat (first | refine aC ?_ | refine a7 ?_ | ((first | refine a8 [0, 1, 4, 5, 6, 7, 8, 13, 20, 21, 22, 23, 33] hX ?_ | refine a6 [0, 1, 4, 5, 6, 7, 8, 13, 20, 21, 22, 23, 33] hX mixed ?_ | refine aD ?_ | refine aA ?_ | refine aB ?_); (simp [go_sem]; try (refine ⟨by kernel_rfl, ?_⟩)))))
        refine aL _ [] (by simp [go_sem]) ?_
        simp [go_sem]
      · exact (h hd).elim
    · simp only [decide_eq_false_iff_not] at hd
      rcases hcase with ⟨h, _⟩ | ⟨_, rfl, rfl⟩
      · exact (hd h).elim
      · (repeat (first | refine aC ?_ | refine a7 ?_ | ((first | refine a8 [0, 1, 4, 5, 6, 7, 8, 13, 20, 21, 22, 23, 33] hX ?_ | refine a6 [0, 1, 4, 5, 6, 7, 8, 13, 20, 21, 22, 23, 33] hX mixed ?_ | refine aD ?_ | refine aA ?_ | refine aB ?_); (simp [go_sem]; try (refine ⟨by kernel_rfl, ?_⟩)))))
        refine aL _ [] (by simp [go_sem]) ?_
        simp [go_sem]
  · clear hcase ha hb hla hlb hv
    try (simp [go_sem]; try (refine ⟨by kernel_rfl, ?_⟩))
    (repeat (first | refine aC ?_ | refine a7 ?_ | ((first | refine a8 [0, 1, 4, 5, 6, 7, 8, 13, 20, 21, 22, 23, 33] hX ?_ | refine a6 [0, 1, 4, 5, 6, 7, 8, 13, 20, 21, 22, 23, 33] hX mixed ?_ | refine aD ?_ | refine aA ?_ | refine aB ?_); (simp [go_sem]; (try simp (disch := omega) only [w64, td, tm]); try (refine ⟨by kernel_rfl, ?_⟩)))))
    (repeat refine And.intro (by first | omega | (unfold maxLen; omega) | kernel_rfl | (refine ⟨by first | omega | (unfold maxLen; omega), by first | omega | (unfold maxLen; omega)⟩) | grind) ?_)
    (repeat (first | refine aC ?_ | refine a7 ?_ | ((first | refine a8 [0, 1, 4, 5, 6, 7, 8, 13, 20, 21, 22, 23, 33] hX ?_ | refine a6 [0, 1, 4, 5, 6, 7, 8, 13, 20, 21, 22, 23, 33] hX mixed ?_ | refine aD ?_ | refine aA ?_ | refine aB ?_); (simp [go_sem]; (try simp (disch := omega) only [w64, td, tm]); try (refine ⟨by kernel_rfl, ?_⟩)))))
    have hrl : ((A.length : Int) + 1).toNat = A.length + 1 := by omega
    refine aQ (fun x : Nat × List Int × Int => ⟨mkE [(0, il A), (1, il C), (5, .ow 0), (6, ii x.2.2), (20, il A), (21, ii A.length), (22, ii x.1)], [.row ⟨3, 1, x.2.1.map ii⟩]⟩)
      (fun x => x.1 ≤ A.length ∧ x.2.1.length = A.length + 1 ∧ (0 ≤ x.2.2 ∧ x.2.2 ≤ 1) ∧ addC 0 A C = x.2.1.take x.1 ++ addC x.2.2 (A.drop x.1) (C.drop x.1)) (fun x => A.length - x.1) (0, List.replicate (A.length + 1) 0, 0) ?_ ?_ ?_
    · refine aL _ [.old 0 ⟨3, 1, (List.replicate (A.length + 1) (0 : Int)).map ii⟩] (by simp [go_sem, hrl]) ?_
      simp [go_sem]
    · simp
    · rintro ⟨i, T, c⟩ ⟨hi, hT, hc, hE⟩
      simp only [] at hi hT hc hE
      (repeat (first | refine aC ?_ | refine a7 ?_ | ((first | refine a8 [0, 1, 4, 5, 6, 7, 8, 13, 20, 21, 22, 23, 33] hX ?_ | refine a6 [0, 1, 4, 5, 6, 7, 8, 13, 20, 21, 22, 23, 33] hX mixed ?_ | refine aD ?_ | refine aA ?_ | refine aB ?_); (simp [go_sem]; try (refine ⟨by kernel_rfl, ?_⟩)))))
      refine aG (b := decide (i < A.length)) (by simp [go_sem]) (fun hd => ?_) (fun hd => ?_)
      · simp at hd
        have hx := b7 hA hd
        have hiT : i < T.length := by omega
        rw [List.drop_eq_getElem_cons hd, addC] at hE
        (repeat (first | refine aC ?_ | refine a7 ?_ | ((first | refine a8 [0, 1, 4, 5, 6, 7, 8, 13, 20, 21, 22, 23, 33] hX ?_ | refine a6 [0, 1, 4, 5, 6, 7, 8, 13, 20, 21, 22, 23, 33] hX mixed ?_ | refine aD ?_ | refine aA ?_ | refine aB ?_); (simp [go_sem, hd]; (try simp (disch := omega) only [w64, td, tm]); try (refine ⟨by kernel_rfl, ?_⟩)))))
        by_cases hiC : i < C.length
        · have hy := b7 hC hiC
          rw [List.drop_eq_getElem_cons hiC] at hE
          simp only [List.headD_cons, List.tail_cons] at hE
          refine aG (b := true) (by simp [go_sem, hiC]) (fun _ => ?_) (fun h => by cases h)
          (repeat (first | refine aC ?_ | refine a7 ?_ | ((first | refine a8 [0, 1, 4, 5, 6, 7, 8, 13, 20, 21, 22, 23, 33] hX ?_ | refine a6 [0, 1, 4, 5, 6, 7, 8, 13, 20, 21, 22, 23, 33] hX mixed ?_ | refine aD ?_ | refine aA ?_ | refine aB ?_); (simp [go_sem, hiC, hiT]; (try simp (disch := omega) only [w64, td, tm]); try (refine ⟨by kernel_rfl, ?_⟩)))))
          (repeat refine And.intro (by first | omega | (unfold maxLen; omega) | kernel_rfl | (refine ⟨by first | omega | (unfold maxLen; omega), by first | omega | (unfold maxLen; omega)⟩) | grind) ?_)
          (repeat (first | refine aC ?_ | refine a7 ?_ | ((first | refine a8 [0, 1, 4, 5, 6, 7, 8, 13, 20, 21, 22, 23, 33] hX ?_ | refine a6 [0, 1, 4, 5, 6, 7, 8, 13, 20, 21, 22, 23, 33] hX mixed ?_ | refine aD ?_ | refine aA ?_ | refine aB ?_); (simp [go_sem]; (try simp (disch := omega) only [w64, td, tm]); try (refine ⟨by kernel_rfl, ?_⟩)))))
          refine ⟨i + 1, T.set i ((c + A[i] + C[i]) % 1048576), (c + A[i] + C[i]) / 1048576, ⟨by omega, by simpa using hT, by omega, ?_⟩, by omega, ?_⟩
          · rw [cW hiT, hE]; simp
          · refine aL _ [.old 0 ⟨3, 1, (T.set i ((c + A[i] + C[i]) % 1048576)).map ii⟩] (by simp [go_sem]) ?_
            simp [go_sem]
        · have e : C.drop i = [] := List.drop_of_length_le (by omega)
          have e2 : C.drop (i + 1) = [] := List.drop_of_length_le (by omega)
          rw [e] at hE
          simp only [List.headD_nil, List.tail_nil, Int.add_zero] at hE
          refine aG (b := false) (by simp [go_sem]; omega) (fun h => by cases h) (fun _ => ?_)
          (repeat (first | refine aC ?_ | refine a7 ?_ | ((first | refine a8 [0, 1, 4, 5, 6, 7, 8, 13, 20, 21, 22, 23, 33] hX ?_ | refine a6 [0, 1, 4, 5, 6, 7, 8, 13, 20, 21, 22, 23, 33] hX mixed ?_ | refine aD ?_ | refine aA ?_ | refine aB ?_); (simp [go_sem, hiT]; (try simp (disch := omega) only [w64, td, tm]); try (refine ⟨by kernel_rfl, ?_⟩)))))
          (repeat refine And.intro (by first | omega | (unfold maxLen; omega) | kernel_rfl | (refine ⟨by first | omega | (unfold maxLen; omega), by first | omega | (unfold maxLen; omega)⟩) | grind) ?_)
          (repeat (first | refine aC ?_ | refine a7 ?_ | ((first | refine a8 [0, 1, 4, 5, 6, 7, 8, 13, 20, 21, 22, 23, 33] hX ?_ | refine a6 [0, 1, 4, 5, 6, 7, 8, 13, 20, 21, 22, 23, 33] hX mixed ?_ | refine aD ?_ | refine aA ?_ | refine aB ?_); (simp [go_sem]; (try simp (disch := omega) only [w64, td, tm]); try (refine ⟨by kernel_rfl, ?_⟩)))))
          refine ⟨i + 1, T.set i ((c + A[i]) % 1048576), (c + A[i]) / 1048576, ⟨by omega, by simpa using hT, by omega, ?_⟩, by omega, ?_⟩
          · rw [cW hiT, hE, e2]; simp
          · refine aL _ [.old 0 ⟨3, 1, (T.set i ((c + A[i]) % 1048576)).map ii⟩] (by simp [go_sem]) ?_
            simp [go_sem]
      · have hil : i = A.length := by simp at hd; omega
        subst hil
        rw [List.drop_length, addC] at hE
        have hTs : T.set A.length c = addC 0 A C := by
          rw [hE]
          have h1 := cW (l := T) (i := A.length) (by omega) c
          rwa [List.take_of_length_le (by simp; omega)] at h1
        have hok := qX 0 A C (by decide) hA hC
        have hlen := nS 0 A C
        have hval := k6 0 A C hlC
        rw [Int.zero_add] at hval
        have hTm : (T.map ii).set A.length (ii c) = (addC 0 A C).map ii := by rw [← hTs, List.map_set]
        have hiT : A.length < T.length := by omega
        have hdt : (dg (val (addC 0 A C))).length ≤ A.length + 1 := by have := (c9 hok).2; omega
        (repeat (first | refine aC ?_ | refine a7 ?_ | ((first | refine a8 [0, 1, 4, 5, 6, 7, 8, 13, 20, 21, 22, 23, 33] hX ?_ | refine a6 [0, 1, 4, 5, 6, 7, 8, 13, 20, 21, 22, 23, 33] hX mixed ?_ | refine aD ?_ | refine aA ?_ | refine aB ?_); (simp [go_sem, hiT]; (try simp (disch := omega) only [w64, td, tm]); try (refine ⟨by kernel_rfl, ?_⟩)))))
        try (simp [go_sem, hTm]; try (refine ⟨by kernel_rfl, ?_⟩))
        first | refine b9 [0] (bG (addC 0 A C) (by omega) hok) (by simp [go_sem]) ?_ | refine b6 [0] (bG (addC 0 A C) (by omega) hok) (by simp [go_sem]) ?_ | refine b4 [0] (bG (addC 0 A C) (by omega) hok) (by simp [go_sem]) ?_
        try (simp [go_sem, hlen, hdt]; try (refine ⟨by kernel_rfl, ?_⟩))
        (repeat (first | refine aC ?_ | refine a7 ?_ | ((first | refine a8 [0, 1, 4, 5, 6, 7, 8, 13, 20, 21, 22, 23, 33] hX ?_ | refine a6 [0, 1, 4, 5, 6, 7, 8, 13, 20, 21, 22, 23, 33] hX mixed ?_ | refine aD ?_ | refine aA ?_ | refine aB ?_); (simp [go_sem, hlen, hdt]; try (refine ⟨by kernel_rfl, ?_⟩)))))
        rw [iR hok, hval]
end Go.Proofs.YtebinaffldlihaaGreatDoor
