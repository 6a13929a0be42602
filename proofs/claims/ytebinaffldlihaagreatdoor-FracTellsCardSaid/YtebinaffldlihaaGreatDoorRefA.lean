import Derived.Test.YtebinaffldlihaaGreatDoorBigK
set_option linter.all false
namespace Go.Proofs.YtebinaffldlihaaGreatDoor
open Go.RowKit Go.Ab
attribute [local irreducible] AWP Go.Ab.Sub Means MeansH CallK CallG CallT CallGT CallU
abbrev rowI (L : List Int) : Cell := .row ⟨3, 1, L.map ii⟩
theorem bX (L : List Int) (hl : L.length ≤ 100000) (ho : okD L) : Means true Tryz.prog 73 [il L] (il (dg (val L))) := by
  refine aK true 23 [.tmp 2] Tryz.func73 rfl rfl rfl (by simp) (by decide) rfl fun X hX => ?_
  (repeat (first | refine aC ?_ | refine a7 ?_ | ((first | refine a8 [0, 2, 3, 15] hX ?_ | refine a6 [0, 2, 3, 15] hX mixed ?_ | refine aD ?_ | refine aA ?_ | refine aB ?_); (simp [go_sem]; try (refine ⟨by kernel_rfl, ?_⟩)))))
  refine aQ (fun n : Nat => ⟨mkE [(0, il L), (3, ii n)], []⟩) (fun n => n ≤ L.length ∧ zeroFrom L n) (fun n => n) L.length ?_ ?_ ?_
  · refine aL _ [] (by simp [go_sem]) ?_
    simp [go_sem]
  · exact ⟨Nat.le_refl _, fun j h h2 => by omega⟩
  · rintro n ⟨hn, hz⟩
    cases n with
    | zero =>
      have hz0 : il (dg (val L)) = il [] := by rw [dW ho hn hz (.inl rfl)]; rfl
      rw [hz0]
      clear ho hz hz0
      cases L with
      | nil =>
        (repeat (first | refine aC ?_ | refine a7 ?_ | ((first | refine a8 [0, 2, 3, 15] hX ?_ | refine a6 [0, 2, 3, 15] hX mixed ?_ | refine aD ?_ | refine aA ?_ | refine aB ?_); (simp [go_sem]; try (refine ⟨by kernel_rfl, ?_⟩)))))
        refine aG (b := false) (by simp [go_sem]) (fun hb => by cases hb) (fun _ => ?_)
        (repeat (first | refine aC ?_ | refine a7 ?_ | ((first | refine a8 [0, 2, 3, 15] hX ?_ | refine a6 [0, 2, 3, 15] hX mixed ?_ | refine aD ?_ | refine aA ?_ | refine aB ?_); (simp [go_sem]; try (refine ⟨by kernel_rfl, ?_⟩)))))
      | cons x xs =>
        (repeat (first | refine aC ?_ | refine a7 ?_ | ((first | refine a8 [0, 2, 3, 15] hX ?_ | refine a6 [0, 2, 3, 15] hX mixed ?_ | refine aD ?_ | refine aA ?_ | refine aB ?_); (simp [go_sem, eC]; try (refine ⟨by kernel_rfl, ?_⟩)))))
        refine aG (b := false) (by simp [go_sem]) (fun hb => by cases hb) (fun _ => ?_)
        (repeat (first | refine aC ?_ | refine a7 ?_ | ((first | refine a8 [0, 2, 3, 15] hX ?_ | refine a6 [0, 2, 3, 15] hX mixed ?_ | refine aD ?_ | refine aA ?_ | refine aB ?_); (simp [go_sem]; try (refine ⟨by kernel_rfl, ?_⟩)))))
        (repeat refine And.intro (by first | omega | (unfold maxLen; omega) | kernel_rfl | (refine ⟨by first | omega | (unfold maxLen; omega), by first | omega | (unfold maxLen; omega)⟩) | grind) ?_)
        (repeat (first | refine aC ?_ | refine a7 ?_ | ((first | refine a8 [0, 2, 3, 15] hX ?_ | refine a6 [0, 2, 3, 15] hX mixed ?_ | refine aD ?_ | refine aA ?_ | refine aB ?_); (simp [go_sem]; try (refine ⟨by kernel_rfl, ?_⟩)))))
    | succ n =>
      have h1 : n < L.length := by omega
      (repeat (first | refine aC ?_ | refine a7 ?_ | ((first | refine a8 [0, 2, 3, 15] hX ?_ | refine a6 [0, 2, 3, 15] hX mixed ?_ | refine aD ?_ | refine aA ?_ | refine aB ?_); (simp [go_sem]; (try simp (disch := omega) only [w64, td, tm]); try (refine ⟨by kernel_rfl, ?_⟩)))))
      (repeat refine And.intro (by first | omega | (unfold maxLen; omega) | kernel_rfl | (refine ⟨by first | omega | (unfold maxLen; omega), by first | omega | (unfold maxLen; omega)⟩) | grind) ?_)
      try (simp [go_sem, h1]; try (refine ⟨by kernel_rfl, ?_⟩))
      refine aG (b := decide (L[n] = 0)) (by simp [go_sem, h1]; try omega) (fun hb => ?_) (fun hb => ?_)
      · simp at hb
        (repeat (first | refine aC ?_ | refine a7 ?_ | ((first | refine a8 [0, 2, 3, 15] hX ?_ | refine a6 [0, 2, 3, 15] hX mixed ?_ | refine aD ?_ | refine aA ?_ | refine aB ?_); (simp [go_sem]; (try simp (disch := omega) only [w64, td, tm]); try (refine ⟨by kernel_rfl, ?_⟩)))))
        refine ⟨n, ⟨by omega, j7 hz h1 hb⟩, by omega, ?_⟩
        refine aL _ [] (by simp [go_sem]) ?_
        simp [go_sem]
      · simp at hb
        (repeat (first | refine aC ?_ | refine a7 ?_ | ((first | refine a8 [0, 2, 3, 15] hX ?_ | refine a6 [0, 2, 3, 15] hX mixed ?_ | refine aD ?_ | refine aA ?_ | refine aB ?_); (simp [go_sem]; try (refine ⟨by kernel_rfl, ?_⟩)))))
        (repeat refine And.intro (by first | omega | (unfold maxLen; omega) | kernel_rfl | (refine ⟨by first | omega | (unfold maxLen; omega), by first | omega | (unfold maxLen; omega)⟩) | grind) ?_)
        try (simp [go_sem]; try (refine ⟨by kernel_rfl, ?_⟩))
        rw [dW ho hn hz (.inr ⟨h1, hb⟩)]
        refine ⟨⟨⟨by omega, by unfold maxLen; omega⟩, fun a ha => ?_⟩, ?_⟩
        · obtain ⟨x, _, rfl⟩ := List.mem_map.1 (List.mem_of_mem_take ha)
          exact ⟨rfl, rfl⟩
        rw [← List.map_take]
        generalize L.take (n + 1) = D
        (repeat (first | refine aC ?_ | refine a7 ?_ | ((first | refine a8 [0, 2, 3, 15] hX ?_ | refine a6 [0, 2, 3, 15] hX mixed ?_ | refine aD ?_ | refine aA ?_ | refine aB ?_); (simp [go_sem]; try (refine ⟨by kernel_rfl, ?_⟩)))))
def dgt (l : List Int) (i : Nat) : Int := l.getD i 0
theorem eA {l : List Int} {i : Nat} (h : i < l.length) : dgt l i = l[i] := by unfold dgt; rw [List.getD_eq_getElem?_getD, List.getElem?_eq_getElem h]; rfl
theorem fA {l : List Int} {i : Nat} (h : l.length ≤ i) : dgt l i = 0 := by unfold dgt; rw [List.getD_eq_getElem?_getD, List.getElem?_eq_none h]; rfl
theorem bD (l : List Int) (hl : l.length ≤ 100000) (i : Nat) (hi : i ≤ 1000000) : Means true Tryz.prog 88 [il l, ii i] (ii (dgt l i)) := by
  refine aK true 13 [.tmp 4] Tryz.func88 rfl rfl rfl (by simp) (by decide) rfl fun X hX => ?_
  (repeat (first | refine aC ?_ | refine a7 ?_ | ((first | refine a8 [0, 1, 4, 8] hX ?_ | refine a6 [0, 1, 4, 8] hX mixed ?_ | refine aD ?_ | refine aA ?_ | refine aB ?_); (simp [go_sem]; try (refine ⟨by kernel_rfl, ?_⟩)))))
  refine aG (b := decide (i < l.length)) (by simp [go_sem]) (fun hc => ?_) (fun hc => ?_)
  · simp at hc
    rw [eA hc]
    (repeat (first | refine aC ?_ | refine a7 ?_ | ((first | refine a8 [0, 1, 4, 8] hX ?_ | refine a6 [0, 1, 4, 8] hX mixed ?_ | refine aD ?_ | refine aA ?_ | refine aB ?_); (simp [go_sem, hc]; try (refine ⟨by kernel_rfl, ?_⟩)))))
  · simp at hc
    rw [fA hc]
    (repeat (first | refine aC ?_ | refine a7 ?_ | ((first | refine a8 [0, 1, 4, 8] hX ?_ | refine a6 [0, 1, 4, 8] hX mixed ?_ | refine aD ?_ | refine aA ?_ | refine aB ?_); (simp [go_sem]; try (refine ⟨by kernel_rfl, ?_⟩)))))
theorem jA (s : Int) (L : List Int) (hl : L.length ≤ 100000) (ho : okD L) : Means false Tryz.prog 62 [ii s, il L] (big2 (if val L = 0 then 0 else s) (dg (val L))) := by
  have hv := aT ho
  refine aK false 15 [.cell 4 24] Tryz.func62 rfl rfl rfl (by simp) (by decide) rfl fun X hX => ?_
  (repeat (first | refine aC ?_ | refine a7 ?_ | ((first | refine a8 [0, 1, 4, 5, 10] hX ?_ | refine a6 [0, 1, 4, 5, 10] hX mixed ?_ | refine aD ?_ | refine aA ?_ | refine aB ?_); (simp [go_sem]; try (refine ⟨by kernel_rfl, ?_⟩)))))
  first | refine aE (bX L hl ho) rfl (by simp [go_sem]) rfl ?_ | refine aF (bX L hl ho) rfl (by simp [go_sem]) rfl ?_
  try (simp [go_sem]; try (refine ⟨by kernel_rfl, ?_⟩))
  by_cases h0 : val L = 0
  · have e : dg (val L) = [] := bF.2 (by omega)
    rw [e, if_pos h0]
    (repeat (first | refine aC ?_ | refine a7 ?_ | ((first | refine a8 [0, 1, 4, 5, 10] hX ?_ | refine a6 [0, 1, 4, 5, 10] hX mixed ?_ | refine aD ?_ | refine aA ?_ | refine aB ?_); (simp [go_sem]; try (refine ⟨by kernel_rfl, ?_⟩)))))
    refine aG (b := true) (by simp [go_sem]) (fun _ => ?_) (fun h => by cases h)
    (repeat (first | refine aC ?_ | refine a7 ?_ | ((first | refine a8 [0, 1, 4, 5, 10] hX ?_ | refine a6 [0, 1, 4, 5, 10] hX mixed ?_ | refine aD ?_ | refine aA ?_ | refine aB ?_); (simp [go_sem]; try (refine ⟨by kernel_rfl, ?_⟩)))))
  · have e : dg (val L) ≠ [] := fun h => by have := bF.1 h; omega
    have e2 : 0 < (dg (val L)).length := List.length_pos_iff.2 e
    rw [if_neg h0]
    generalize dg (val L) = D at *
    (repeat (first | refine aC ?_ | refine a7 ?_ | ((first | refine a8 [0, 1, 4, 5, 10] hX ?_ | refine a6 [0, 1, 4, 5, 10] hX mixed ?_ | refine aD ?_ | refine aA ?_ | refine aB ?_); (simp [go_sem]; try (refine ⟨by kernel_rfl, ?_⟩)))))
    refine aG (b := false) (by simp [go_sem, e]) (fun h => by cases h) (fun _ => ?_)
    (repeat (first | refine aC ?_ | refine a7 ?_ | ((first | refine a8 [0, 1, 4, 5, 10] hX ?_ | refine a6 [0, 1, 4, 5, 10] hX mixed ?_ | refine aD ?_ | refine aA ?_ | refine aB ?_); (simp [go_sem]; try (refine ⟨by kernel_rfl, ?_⟩)))))
theorem fS : ∀ (n : Nat) (l : List Int), val l = val (l.take n) + 1048576 ^ n * val (l.drop n)
  | 0, l => by simp [val]
  | n + 1, [] => by simp [val]
  | n + 1, x :: l => by
    have ih := fS n l
    simp only [List.take_succ_cons, List.drop_succ_cons, val]
    rw [ih, Int.pow_succ, Int.mul_add, ← Int.mul_assoc, Int.mul_comm 1048576 (1048576 ^ n)]; omega
theorem cX (l : List Int) (n : Nat) : val (l.drop n) = dgt l n + 1048576 * val (l.drop (n + 1)) := by
  by_cases h : n < l.length
  · rw [List.drop_eq_getElem_cons h, eA h]; rfl
  · rw [List.drop_of_length_le (by omega), List.drop_of_length_le (by omega), fA (by omega)]; simp [val]
theorem d7 {l : List Int} (h : okD l) (n : Nat) : 0 ≤ val (l.take n) ∧ val (l.take n) < 1048576 ^ n := by
  refine ⟨aT (bC h n), Int.lt_of_lt_of_le (c7 (bC h n)) ?_⟩
  have : ((1048576 ^ (l.take n).length : Nat) : Int) ≤ (1048576 ^ n : Nat) := by
    have := Nat.pow_le_pow_right (n := 1048576) (by omega) (show (l.take n).length ≤ n by simp; omega)
    omega
  simpa using this
theorem iW {a b : List Int} (ha : okD a) (hb : okD b) {n : Nat} (h : val (a.drop n) < val (b.drop n)) : val a < val b := by
  have h1 := d7 ha n
  have h2 := d7 hb n
  have e1 := fS n a
  have e2 := fS n b
  have h3 : (1048576 : Int) ^ n * (val (a.drop n) + 1) ≤ 1048576 ^ n * val (b.drop n) := Int.mul_le_mul_of_nonneg_left (by omega) (by omega)
  rw [Int.mul_add] at h3
  omega
theorem fB {l : List Int} (h : okD l) (i : Nat) : 0 ≤ dgt l i ∧ dgt l i < 1048576 := by
  by_cases hi : i < l.length
  · rw [eA hi]; exact b7 h hi
  · rw [fA (by omega)]; decide
set_option maxHeartbeats 4000000 in
theorem mP (a b : List Int) (hla : a.length ≤ 100000) (hlb : b.length ≤ 100000) (ha : okD a) (hb : okD b) : Means true Tryz.prog 65 [il a, il b] (bb (decide (val a < val b))) := by
  have m1 : max (a.length : Int) b.length = ((max a.length b.length : Nat) : Int) := by omega
  obtain ⟨N, hN⟩ : ∃ N, max a.length b.length = N := ⟨_, rfl⟩
  rw [hN] at m1
  have hw0 := w64 (x := (N : Int) - 1) (by omega) (by omega)
  refine aK true 30 [.tmp 4] Tryz.func65 rfl rfl rfl (by simp) (by decide) rfl fun X hX => ?_
  (repeat (first | refine aC ?_ | refine a7 ?_ | ((first | refine a8 [0, 1, 4, 5, 13, 22] hX ?_ | refine a6 [0, 1, 4, 5, 13, 22] hX mixed ?_ | refine aD ?_ | refine aA ?_ | refine aB ?_); (simp [go_sem, m1, hw0]; try (refine ⟨by kernel_rfl, ?_⟩)))))
  refine aQ (fun n : Nat => ⟨mkE [(0, il a), (1, il b), (5, ii ((n : Int) - 1))], []⟩) (fun n => n ≤ N ∧ val (a.drop n) = val (b.drop n)) (fun n => n) N ?_ ?_ ?_
  · refine aL _ [] (by simp [go_sem]) ?_
    simp [go_sem]
  · refine ⟨Nat.le_refl _, ?_⟩
    rw [List.drop_of_length_le (by omega), List.drop_of_length_le (by omega)]
  · rintro n ⟨hn, he⟩
    cases n with
    | zero =>
      have e : decide (val a < val b) = false := by
        simp only [List.drop_zero] at he
        rw [he]; simp
      rw [e]
      (repeat (first | refine aC ?_ | refine a7 ?_ | ((first | refine a8 [0, 1, 4, 5, 13, 22] hX ?_ | refine a6 [0, 1, 4, 5, 13, 22] hX mixed ?_ | refine aD ?_ | refine aA ?_ | refine aB ?_); (simp [go_sem]; try (refine ⟨by kernel_rfl, ?_⟩)))))
      refine aG (b := false) (by simp [go_sem]) (fun h => by cases h) (fun _ => ?_)
      (repeat (first | refine aC ?_ | refine a7 ?_ | ((first | refine a8 [0, 1, 4, 5, 13, 22] hX ?_ | refine a6 [0, 1, 4, 5, 13, 22] hX mixed ?_ | refine aD ?_ | refine aA ?_ | refine aB ?_); (simp [go_sem]; try (refine ⟨by kernel_rfl, ?_⟩)))))
    | succ n =>
      have hn1 : ((n + 1 : Nat) : Int) - 1 = n := by omega
      have hnn : ¬ (n : Int) < 0 := by omega
      have d1 := cX a n
      have d2 := cX b n
      rw [hn1]
      have hw := w64 (x := (n : Int) - 1) (by omega) (by omega)
      (repeat (first | refine aC ?_ | refine a7 ?_ | ((first | refine a8 [0, 1, 4, 5, 13, 22] hX ?_ | refine a6 [0, 1, 4, 5, 13, 22] hX mixed ?_ | refine aD ?_ | refine aA ?_ | refine aB ?_); (simp [go_sem]; try (refine ⟨by kernel_rfl, ?_⟩)))))
      refine aG (b := true) (by simp [go_sem]; try omega) (fun _ => ?_) (fun h => by cases h)
      (repeat (first | refine aC ?_ | refine a7 ?_ | ((first | refine a8 [0, 1, 4, 5, 13, 22] hX ?_ | refine a6 [0, 1, 4, 5, 13, 22] hX mixed ?_ | refine aD ?_ | refine aA ?_ | refine aB ?_); (simp [go_sem]; try (refine ⟨by kernel_rfl, ?_⟩)))))
      first | refine aE (bD a hla n (by omega)) rfl (by simp [go_sem]) rfl ?_ | refine aF (bD a hla n (by omega)) rfl (by simp [go_sem]) rfl ?_
      try (simp [go_sem]; try (refine ⟨by kernel_rfl, ?_⟩))
      first | refine aE (bD b hlb n (by omega)) rfl (by simp [go_sem]) rfl ?_ | refine aF (bD b hlb n (by omega)) rfl (by simp [go_sem]) rfl ?_
      try (simp [go_sem]; try (refine ⟨by kernel_rfl, ?_⟩))
      by_cases hd : dgt a n = dgt b n
      · refine aG (b := false) (by simp [go_sem, hd]) (fun h => by cases h) (fun _ => ?_)
        (repeat (first | refine aC ?_ | refine a7 ?_ | ((first | refine a8 [0, 1, 4, 5, 13, 22] hX ?_ | refine a6 [0, 1, 4, 5, 13, 22] hX mixed ?_ | refine aD ?_ | refine aA ?_ | refine aB ?_); (simp [go_sem, hw]; try (refine ⟨by kernel_rfl, ?_⟩)))))
        refine ⟨n, ⟨by omega, by omega⟩, by omega, ?_⟩
        refine aL _ [] (by simp [go_sem]) ?_
        simp [go_sem]
      · have e : decide (val a < val b) = decide (dgt a n < dgt b n) := by
          rw [decide_eq_decide]
          have b1 := fB ha n
          have b2 := fB hb n
          constructor
          · intro h
            rcases Int.lt_trichotomy (dgt a n) (dgt b n) with q | q | q
            · exact q
            · exact absurd q hd
            · have := iW hb ha (n := n) (by omega); omega
          · intro h; exact iW ha hb (n := n) (by omega)
        rw [e]
        refine aG (b := true) (by simp [go_sem, hd]) (fun _ => ?_) (fun h => by cases h)
        (repeat (first | refine aC ?_ | refine a7 ?_ | ((first | refine a8 [0, 1, 4, 5, 13, 22] hX ?_ | refine a6 [0, 1, 4, 5, 13, 22] hX mixed ?_ | refine aD ?_ | refine aA ?_ | refine aB ?_); (simp [go_sem]; try (refine ⟨by kernel_rfl, ?_⟩)))))
        first | refine aE (bD a hla n (by omega)) rfl (by simp [go_sem]) rfl ?_ | refine aF (bD a hla n (by omega)) rfl (by simp [go_sem]) rfl ?_
        try (simp [go_sem]; try (refine ⟨by kernel_rfl, ?_⟩))
        first | refine aE (bD b hlb n (by omega)) rfl (by simp [go_sem]) rfl ?_ | refine aF (bD b hlb n (by omega)) rfl (by simp [go_sem]) rfl ?_
        try (simp [go_sem]; try (refine ⟨by kernel_rfl, ?_⟩))
        (repeat (first | refine aC ?_ | refine a7 ?_ | ((first | refine a8 [0, 1, 4, 5, 13, 22] hX ?_ | refine a6 [0, 1, 4, 5, 13, 22] hX mixed ?_ | refine aD ?_ | refine aA ?_ | refine aB ?_); (simp [go_sem]; try (refine ⟨by kernel_rfl, ?_⟩)))))
set_option maxHeartbeats 4000000 in
set_option maxRecDepth 20000 in
theorem mO (a b : List Int) (hla : a.length ≤ 10000) (hlb : b.length ≤ 10000) (ha : okD a) (hb : okD b) : Means false Tryz.prog 64 [il a, il b] (il (dg (val a + val b))) := by
  obtain ⟨N, hN⟩ : ∃ N, max a.length b.length = N := ⟨_, rfl⟩
  refine aK false 43 [.tmp 4] Tryz.func64 rfl rfl rfl (by simp) (by decide) rfl fun X hX => ?_
  (repeat (first | refine aC ?_ | refine a7 ?_ | ((first | refine a8 [0, 1, 4, 5, 6, 7, 8, 22] hX ?_ | refine a6 [0, 1, 4, 5, 6, 7, 8, 22] hX mixed ?_ | refine aD ?_ | refine aA ?_ | refine aB ?_); (simp [go_sem]; try (refine ⟨by kernel_rfl, ?_⟩)))))
  refine aQ (fun x : List Int × Int => ⟨mkE [(0, il a), (1, il b), (5, .ow 0), (6, ii x.2), (7, ii x.1.length)], [rowI x.1]⟩)
    (fun x => okD x.1 ∧ x.1.length ≤ N + 1 ∧ 0 ≤ x.2 ∧ x.2 ≤ 1 ∧ (x.1.length = N + 1 → x.2 = 0) ∧ val x.1 + 1048576 ^ x.1.length * (x.2 + (val (a.drop x.1.length) + val (b.drop x.1.length))) = val a + val b) (fun x => N + 1 - x.1.length) ([], 0) ?_ ?_ ?_
  · refine aL _ [.birth 3 1] (by simp [go_sem]) ?_
    simp [go_sem]
  · exact ⟨c6, by simp, by simp, by simp, by simp, by simp [val]⟩
  · rintro ⟨o, c⟩ ⟨h1, h2, h3, h4, h5, h6⟩
    simp only [] at h1 h2 h3 h4 h5 h6
    (repeat (first | refine aC ?_ | refine a7 ?_ | ((first | refine a8 [0, 1, 4, 5, 6, 7, 8, 22] hX ?_ | refine a6 [0, 1, 4, 5, 6, 7, 8, 22] hX mixed ?_ | refine aD ?_ | refine aA ?_ | refine aB ?_); (simp [go_sem]; try (refine ⟨by kernel_rfl, ?_⟩)))))
    refine aG (b := decide (o.length < a.length) || decide (o.length < b.length) || decide (0 < c)) (by simp [go_sem]) (fun hc => ?_) (fun hc => ?_)
    · have hc' : o.length < a.length ∨ o.length < b.length ∨ 0 < c := by simpa [or_assoc] using hc
      have hlt : o.length < N + 1 := by
        rcases hc' with h | h | h
        · omega
        · omega
        · rcases Nat.lt_or_ge o.length (N + 1) with q | q
          · exact q
          · have := h5 (by omega); omega
      obtain ⟨n, hn⟩ : ∃ n, o.length = n := ⟨_, rfl⟩
      rw [hn] at h2 h5 h6 hlt ⊢
      have d1 := fB ha n
      have d2 := fB hb n
      have v1 := cX a n
      have v2 := cX b n
      have z1 : n = N → dgt a n = 0 ∧ dgt b n = 0 := fun h => ⟨fA (by omega), fA (by omega)⟩
      (repeat (first | refine aC ?_ | refine a7 ?_ | ((first | refine a8 [0, 1, 4, 5, 6, 7, 8, 22] hX ?_ | refine a6 [0, 1, 4, 5, 6, 7, 8, 22] hX mixed ?_ | refine aD ?_ | refine aA ?_ | refine aB ?_); (simp [go_sem]; try (refine ⟨by kernel_rfl, ?_⟩)))))
      first | refine aE (bD a (by omega) n (by omega)) rfl (by simp [go_sem]) rfl ?_ | refine aF (bD a (by omega) n (by omega)) rfl (by simp [go_sem]) rfl ?_
      try (simp [go_sem]; try (refine ⟨by kernel_rfl, ?_⟩))
      first | refine aE (bD b (by omega) n (by omega)) rfl (by simp [go_sem]) rfl ?_ | refine aF (bD b (by omega) n (by omega)) rfl (by simp [go_sem]) rfl ?_
      try (simp [go_sem]; try (refine ⟨by kernel_rfl, ?_⟩))
      obtain ⟨x, hx⟩ : ∃ x, dgt a n + dgt b n + c = x := ⟨_, rfl⟩
      have hwx := w64 (x := x) (by omega) (by omega)
      have hwx2 := w64 (x := dgt a n + dgt b n) (by omega) (by omega)
      have hm : x.tmod 1048576 = x % 1048576 := Int.tmod_eq_emod_of_nonneg (by omega)
      have hd : x.tdiv 1048576 = x / 1048576 := Int.tdiv_eq_ediv_of_nonneg (by omega)
      obtain ⟨r, hr⟩ : ∃ r, x % 1048576 = r := ⟨_, rfl⟩
      obtain ⟨q, hq⟩ : ∃ q, x / 1048576 = q := ⟨_, rfl⟩
      have hrq : x = r + 1048576 * q := by omega
      have hwr := w64 (x := r) (by omega) (by omega)
      have hwq := w64 (x := q) (by omega) (by omega)
      have hwn := w64 (x := (n : Int) + 1) (by omega) (by omega)
      rw [hr] at hm
      rw [hq] at hd
      (repeat (first | refine aC ?_ | refine a7 ?_ | ((first | refine a8 [0, 1, 4, 5, 6, 7, 8, 22] hX ?_ | refine a6 [0, 1, 4, 5, 6, 7, 8, 22] hX mixed ?_ | refine aD ?_ | refine aA ?_ | refine aB ?_); (simp [go_sem, hwx2, hx, hwx, hm, hd, hn, hwr, hwq, hwn]; try (refine ⟨by kernel_rfl, ?_⟩)))))
      try (repeat refine And.intro (by first | omega | (unfold maxLen; omega) | kernel_rfl | (refine ⟨by first | omega | (unfold maxLen; omega), by first | omega | (unfold maxLen; omega)⟩) | grind) ?_)
      try (repeat (first | refine aC ?_ | refine a7 ?_ | ((first | refine a8 [0, 1, 4, 5, 6, 7, 8, 22] hX ?_ | refine a6 [0, 1, 4, 5, 6, 7, 8, 22] hX mixed ?_ | refine aD ?_ | refine aA ?_ | refine aB ?_); (simp [go_sem, hwx2, hx, hwx, hm, hd, hn, hwr, hwq, hwn]; try (refine ⟨by kernel_rfl, ?_⟩)))))
      have hlen : (o ++ [r]).length = n + 1 := by simp [hn]
      refine ⟨o ++ [r], q, ⟨cT.2 ⟨h1, aS.2 ⟨by omega, c6⟩⟩, by omega, by omega, by omega, fun h => ?_, ?_⟩, by omega, ?_⟩
      · have := z1 (by omega)
        omega
      · rw [hlen, cS, hn, Int.pow_succ, ← h6, v1, v2]
        simp only [val]
        have e : (1048576 : Int) ^ n * 1048576 * (q + (val (a.drop (n + 1)) + val (b.drop (n + 1)))) = 1048576 ^ n * (1048576 * q + (1048576 * val (a.drop (n + 1)) + 1048576 * val (b.drop (n + 1)))) := by
          rw [Int.mul_assoc]; congr 1; omega
        rw [e, Int.mul_zero, Int.add_zero, Int.add_assoc, ← Int.mul_add]
        congr 2; omega
      · rw [hlen]
        refine aL _ [.old 2 ⟨3, 1, (o ++ [r]).map ii⟩] (by simp [go_sem]) ?_
        simp [go_sem]
        try omega
    · have hc' : ¬ o.length < a.length ∧ ¬ o.length < b.length ∧ ¬ 0 < c := by
        simp at hc; omega
      have e : val o = val a + val b := by
        rw [List.drop_of_length_le (l := a) (by omega), List.drop_of_length_le (l := b) (by omega), show c = 0 by omega] at h6
        simpa [val] using h6
      rw [← e]
      (repeat (first | refine aC ?_ | refine a7 ?_ | ((first | refine a8 [0, 1, 4, 5, 6, 7, 8, 22] hX ?_ | refine a6 [0, 1, 4, 5, 6, 7, 8, 22] hX mixed ?_ | refine aD ?_ | refine aA ?_ | refine aB ?_); (simp [go_sem]; try (refine ⟨by kernel_rfl, ?_⟩)))))
      first | refine aE (bX o (by omega) h1) rfl (by simp [go_sem]) rfl ?_ | refine aF (bX o (by omega) h1) rfl (by simp [go_sem]) rfl ?_
      try (simp [go_sem]; try (refine ⟨by kernel_rfl, ?_⟩))
      (repeat (first | refine aC ?_ | refine a7 ?_ | ((first | refine a8 [0, 1, 4, 5, 6, 7, 8, 22] hX ?_ | refine a6 [0, 1, 4, 5, 6, 7, 8, 22] hX mixed ?_ | refine aD ?_ | refine aA ?_ | refine aB ?_); (simp [go_sem]; try (refine ⟨by kernel_rfl, ?_⟩)))))
set_option maxHeartbeats 4000000 in
set_option maxRecDepth 20000 in
theorem gT (a b : List Int) (hla : a.length ≤ 10000) (hlb : b.length ≤ 10000) (ha : okD a) (hb : okD b) (hle : val b ≤ val a) : Means false Tryz.prog 66 [il a, il b] (il (dg (val a - val b))) := by
  refine aK false 35 [.tmp 4] Tryz.func66 rfl rfl rfl (by simp) (by decide) rfl fun X hX => ?_
  (repeat (first | refine aC ?_ | refine a7 ?_ | ((first | refine a8 [0, 1, 4, 5, 6, 7, 8, 12, 26] hX ?_ | refine a6 [0, 1, 4, 5, 6, 7, 8, 12, 26] hX mixed ?_ | refine aD ?_ | refine aA ?_ | refine aB ?_); (simp [go_sem]; try (refine ⟨by kernel_rfl, ?_⟩)))))
  refine aQ (fun x : List Int × Int => ⟨mkE [(0, il a), (1, il b), (5, .ow 0), (6, ii x.2), (7, ii x.1.length)], [rowI x.1]⟩)
    (fun x => okD x.1 ∧ x.1.length ≤ a.length ∧ 0 ≤ x.2 ∧ x.2 ≤ 1 ∧ val x.1 + 1048576 ^ x.1.length * (val (a.drop x.1.length) - val (b.drop x.1.length) - x.2) = val a - val b) (fun x => a.length - x.1.length) ([], 0) ?_ ?_ ?_
  · refine aL _ [.birth 3 1] (by simp [go_sem]) ?_
    simp [go_sem]
  · exact ⟨c6, by simp, by simp, by simp, by simp [val]⟩
  · rintro ⟨o, c⟩ ⟨h1, h2, h3, h4, h6⟩
    simp only [] at h1 h2 h3 h4 h6
    (repeat (first | refine aC ?_ | refine a7 ?_ | ((first | refine a8 [0, 1, 4, 5, 6, 7, 8, 12, 26] hX ?_ | refine a6 [0, 1, 4, 5, 6, 7, 8, 12, 26] hX mixed ?_ | refine aD ?_ | refine aA ?_ | refine aB ?_); (simp [go_sem]; try (refine ⟨by kernel_rfl, ?_⟩)))))
    refine aG (b := decide (o.length < a.length)) (by simp [go_sem]) (fun hc => ?_) (fun hc => ?_)
    · simp at hc
      obtain ⟨n, hn⟩ : ∃ n, o.length = n := ⟨_, rfl⟩
      rw [hn] at h2 h6 hc ⊢
      have d1 := b7 ha hc
      have d2 := fB hb n
      have v1 := cX a n
      have v2 := cX b n
      rw [eA hc] at v1
      have hlen : ∀ r, (o ++ [r]).length = n + 1 := fun r => by simp [hn]
      have hwn := w64 (x := (n : Int) + 1) (by omega) (by omega)
      (repeat (first | refine aC ?_ | refine a7 ?_ | ((first | refine a8 [0, 1, 4, 5, 6, 7, 8, 12, 26] hX ?_ | refine a6 [0, 1, 4, 5, 6, 7, 8, 12, 26] hX mixed ?_ | refine aD ?_ | refine aA ?_ | refine aB ?_); (simp [go_sem, hc]; try (refine ⟨by kernel_rfl, ?_⟩)))))
      first | refine aE (bD b (by omega) n (by omega)) rfl (by simp [go_sem]) rfl ?_ | refine aF (bD b (by omega) n (by omega)) rfl (by simp [go_sem]) rfl ?_
      try (simp [go_sem]; try (refine ⟨by kernel_rfl, ?_⟩))
      obtain ⟨x, hx⟩ : ∃ x, a[n] - dgt b n - c = x := ⟨_, rfl⟩
      have hwx := w64 (x := x) (by omega) (by omega)
      have hwx2 := w64 (x := a[n] - dgt b n) (by omega) (by omega)
      have step : ∀ r q : Int, x = r - 1048576 * q → val (o ++ [r]) + 1048576 ^ (n + 1) * (val (a.drop (n + 1)) - val (b.drop (n + 1)) - q) = val a - val b := fun r q e => by
        rw [cS, hn, Int.pow_succ, ← h6, v1, v2]
        simp only [val]
        have e2 : (1048576 : Int) ^ n * 1048576 * (val (a.drop (n + 1)) - val (b.drop (n + 1)) - q) = 1048576 ^ n * (1048576 * val (a.drop (n + 1)) - 1048576 * val (b.drop (n + 1)) - 1048576 * q) := by
          rw [Int.mul_assoc]; congr 1; omega
        rw [e2, Int.mul_zero, Int.add_zero, Int.add_assoc, ← Int.mul_add]
        congr 2; omega
      (repeat (first | refine aC ?_ | refine a7 ?_ | ((first | refine a8 [0, 1, 4, 5, 6, 7, 8, 12, 26] hX ?_ | refine a6 [0, 1, 4, 5, 6, 7, 8, 12, 26] hX mixed ?_ | refine aD ?_ | refine aA ?_ | refine aB ?_); (simp [go_sem, hwx2, hx, hwx]; try (refine ⟨by kernel_rfl, ?_⟩)))))
      refine aG (b := decide (x < 0)) (by simp [go_sem]) (fun hd => ?_) (fun hd => ?_)
      · simp at hd
        have hwr := w64 (x := x + 1048576) (by omega) (by omega)
        (repeat (first | refine aC ?_ | refine a7 ?_ | ((first | refine a8 [0, 1, 4, 5, 6, 7, 8, 12, 26] hX ?_ | refine a6 [0, 1, 4, 5, 6, 7, 8, 12, 26] hX mixed ?_ | refine aD ?_ | refine aA ?_ | refine aB ?_); (simp [go_sem, hwr, hn, hwn]; try (refine ⟨by kernel_rfl, ?_⟩)))))
        try (repeat refine And.intro (by first | omega | (unfold maxLen; omega) | kernel_rfl | (refine ⟨by first | omega | (unfold maxLen; omega), by first | omega | (unfold maxLen; omega)⟩) | grind) ?_)
        try (repeat (first | refine aC ?_ | refine a7 ?_ | ((first | refine a8 [0, 1, 4, 5, 6, 7, 8, 12, 26] hX ?_ | refine a6 [0, 1, 4, 5, 6, 7, 8, 12, 26] hX mixed ?_ | refine aD ?_ | refine aA ?_ | refine aB ?_); (simp [go_sem, hwr, hn, hwn]; try (refine ⟨by kernel_rfl, ?_⟩)))))
        refine ⟨o ++ [x + 1048576], 1, ⟨cT.2 ⟨h1, aS.2 ⟨by omega, c6⟩⟩, by rw [hlen]; omega, by omega, by omega, by rw [hlen]; exact step _ _ (by omega)⟩, by rw [hlen]; omega, ?_⟩
        rw [hlen]
        refine aL _ [.old 2 ⟨3, 1, (o ++ [x + 1048576]).map ii⟩] (by simp [go_sem]) ?_
        simp [go_sem]
        try omega
      · simp at hd
        (repeat (first | refine aC ?_ | refine a7 ?_ | ((first | refine a8 [0, 1, 4, 5, 6, 7, 8, 12, 26] hX ?_ | refine a6 [0, 1, 4, 5, 6, 7, 8, 12, 26] hX mixed ?_ | refine aD ?_ | refine aA ?_ | refine aB ?_); (simp [go_sem, hn, hwn]; try (refine ⟨by kernel_rfl, ?_⟩)))))
        try (repeat refine And.intro (by first | omega | (unfold maxLen; omega) | kernel_rfl | (refine ⟨by first | omega | (unfold maxLen; omega), by first | omega | (unfold maxLen; omega)⟩) | grind) ?_)
        try (repeat (first | refine aC ?_ | refine a7 ?_ | ((first | refine a8 [0, 1, 4, 5, 6, 7, 8, 12, 26] hX ?_ | refine a6 [0, 1, 4, 5, 6, 7, 8, 12, 26] hX mixed ?_ | refine aD ?_ | refine aA ?_ | refine aB ?_); (simp [go_sem, hn, hwn]; try (refine ⟨by kernel_rfl, ?_⟩)))))
        refine ⟨o ++ [x], 0, ⟨cT.2 ⟨h1, aS.2 ⟨by omega, c6⟩⟩, by rw [hlen]; omega, by omega, by omega, by rw [hlen]; exact step _ _ (by omega)⟩, by rw [hlen]; omega, ?_⟩
        rw [hlen]
        refine aL _ [.old 2 ⟨3, 1, (o ++ [x]).map ii⟩] (by simp [go_sem]) ?_
        simp [go_sem]
        try omega
    · have hl : o.length = a.length := by simp at hc; omega
      have e : val o = val a - val b := by
        rw [List.drop_of_length_le (l := a) (by omega)] at h6
        have hlt := c7 h1
        have h0 := aT h1
        have hb0 := aT (bH hb o.length)
        have hp := bE o.length
        simp only [val] at h6
        obtain ⟨t, ht⟩ : ∃ t, val (b.drop o.length) + c = t := ⟨_, rfl⟩
        have e2 : (0 : Int) - val (b.drop o.length) - c = -t := by omega
        rw [e2, Int.mul_neg] at h6
        rcases Int.lt_or_le 0 t with q | q
        · have := Int.mul_le_mul_of_nonneg_left (show 1 ≤ t by omega) (show 0 ≤ (1048576 : Int) ^ o.length by omega)
          rw [Int.mul_one] at this; omega
        · have : t = 0 := by omega
          subst this; simpa using h6
      rw [← e]
      (repeat (first | refine aC ?_ | refine a7 ?_ | ((first | refine a8 [0, 1, 4, 5, 6, 7, 8, 12, 26] hX ?_ | refine a6 [0, 1, 4, 5, 6, 7, 8, 12, 26] hX mixed ?_ | refine aD ?_ | refine aA ?_ | refine aB ?_); (simp [go_sem]; try (refine ⟨by kernel_rfl, ?_⟩)))))
      first | refine aE (bX o (by omega) h1) rfl (by simp [go_sem]) rfl ?_ | refine aF (bX o (by omega) h1) rfl (by simp [go_sem]) rfl ?_
      try (simp [go_sem]; try (refine ⟨by kernel_rfl, ?_⟩))
      (repeat (first | refine aC ?_ | refine a7 ?_ | ((first | refine a8 [0, 1, 4, 5, 6, 7, 8, 12, 26] hX ?_ | refine a6 [0, 1, 4, 5, 6, 7, 8, 12, 26] hX mixed ?_ | refine aD ?_ | refine aA ?_ | refine aB ?_); (simp [go_sem]; try (refine ⟨by kernel_rfl, ?_⟩)))))
theorem n5 : ∀ (l : List Int) (j : Nat) (v : Int) (h : j < l.length), val (l.set j v) = val l + 1048576 ^ j * (v - l[j])
  | x :: l, 0, v, _ => by simp [val]; omega
  | x :: l, j + 1, v, h => by
    have ih := n5 l j v (by simpa using h)
    simp only [List.set_cons_succ, val, List.getElem_cons_succ]
    rw [ih, Int.pow_succ, Int.mul_comm (1048576 ^ j) 1048576, Int.mul_assoc, Int.mul_add]; omega
theorem hO (b : List Int) (k : Nat) : val (b.take (k + 1)) = val (b.take k) + 1048576 ^ k * dgt b k := by
  by_cases h : k < b.length
  · rw [List.take_succ_eq_append_getElem h, cS, eA h, List.length_take, Nat.min_eq_left (by omega)]; simp [val]
  · rw [List.take_of_length_le (by omega), List.take_of_length_le (by omega), fA (by omega)]; simp
theorem oK {l : List Int} (ho : okD l) {n : Nat} (h : val l < 1048576 ^ n) : dgt l n = 0 := by
  have e := fS n l
  have h1 := d7 ho n
  have h2 := aT (bH ho n)
  have hp := bE n
  have h3 : val (l.drop n) = 0 := by
    rcases Int.lt_or_le 0 (val (l.drop n)) with q | q
    · have := Int.mul_le_mul_of_nonneg_left (show 1 ≤ val (l.drop n) by omega) (show 0 ≤ (1048576 : Int) ^ n by omega)
      rw [Int.mul_one] at this; omega
    · omega
  have h4 := cX l n
  have h5 := aT (bH ho (n + 1))
  have h6 := fB ho n
  omega
set_option maxHeartbeats 8000000 in
set_option maxRecDepth 20000 in
theorem kD (a b : List Int) (hla : a.length ≤ 1000) (hlb : b.length ≤ 1000) (ha : okD a) (hb : okD b) : Means false Tryz.prog 63 [il a, il b] (il (dg (val a * val b))) := by
  obtain ⟨N, hN⟩ : ∃ N, a.length + b.length = N := ⟨_, rfl⟩
  have hNi : (a.length : Int) + b.length = N := by omega
  have hwN := w64 (x := (N : Int)) (by omega) (by omega)
  refine aK false 60 [.tmp 4] Tryz.func63 rfl rfl rfl (by simp) (by decide) rfl fun X hX => ?_
  (repeat (first | refine aC ?_ | refine a7 ?_ | ((first | refine a8 [0, 1, 4, 5, 6, 7, 8, 9, 19, 29] hX ?_ | refine a6 [0, 1, 4, 5, 6, 7, 8, 9, 19, 29] hX mixed ?_ | refine aD ?_ | refine aA ?_ | refine aB ?_); (simp [go_sem, hNi, hwN]; try (refine ⟨by kernel_rfl, ?_⟩)))))
  (repeat refine And.intro (by first | omega | (unfold maxLen; omega) | kernel_rfl | (refine ⟨by first | omega | (unfold maxLen; omega), by first | omega | (unfold maxLen; omega)⟩) | grind) ?_)
  (repeat (first | refine aC ?_ | refine a7 ?_ | ((first | refine a8 [0, 1, 4, 5, 6, 7, 8, 9, 19, 29] hX ?_ | refine a6 [0, 1, 4, 5, 6, 7, 8, 9, 19, 29] hX mixed ?_ | refine aD ?_ | refine aA ?_ | refine aB ?_); (simp [go_sem]; try (refine ⟨by kernel_rfl, ?_⟩)))))
  refine aQ (fun x : Nat × List Int => ⟨mkE [(0, il a), (1, il b), (5, .ow 0), (6, ii x.1)], [rowI x.2]⟩) (fun x => x.1 ≤ a.length ∧ okD x.2 ∧ x.2.length = N ∧ val x.2 = val (a.take x.1) * val b) (fun x => a.length - x.1) (0, List.replicate N 0) ?_ ?_ ?_
  · refine aL _ [.old 0 ⟨3, 1, (List.replicate N (0 : Int)).map ii⟩] (by simp [go_sem, List.map_replicate]) ?_
    simp [go_sem, List.map_replicate]
  · exact ⟨by simp, cB N, by simp, by rw [dH]; simp [val]⟩
  · rintro ⟨i, o⟩ ⟨h1, h2, h3, h4⟩
    simp only [] at h1 h2 h3 h4
    (repeat (first | refine aC ?_ | refine a7 ?_ | ((first | refine a8 [0, 1, 4, 5, 6, 7, 8, 9, 19, 29] hX ?_ | refine a6 [0, 1, 4, 5, 6, 7, 8, 9, 19, 29] hX mixed ?_ | refine aD ?_ | refine aA ?_ | refine aB ?_); (simp [go_sem]; try (refine ⟨by kernel_rfl, ?_⟩)))))
    refine aG (b := decide (i < a.length)) (by simp [go_sem]) (fun hc => ?_) (fun hc => ?_)
    · simp at hc
      have hx := b7 ha hc
      have hai := hO a i
      rw [eA hc] at hai
      have hob : val o < 1048576 ^ (i + b.length) := by
        have a1 := d7 ha i
        have b1 := c7 hb
        have b0 := aT hb
        rw [h4, Int.pow_add]
        have e1 : val (a.take i) * val b ≤ val (a.take i) * 1048576 ^ b.length := Int.mul_le_mul_of_nonneg_left (by omega) a1.1
        have e2 : val (a.take i) * 1048576 ^ b.length < 1048576 ^ i * 1048576 ^ b.length := Int.mul_lt_mul_of_pos_right a1.2 (bE _)
        omega
      have hz := oK h2 hob
      obtain ⟨x, hxe⟩ : ∃ x, a[i] = x := ⟨_, rfl⟩
      rw [hxe] at hx hai
      (repeat (first | refine aC ?_ | refine a7 ?_ | ((first | refine a8 [0, 1, 4, 5, 6, 7, 8, 9, 19, 29] hX ?_ | refine a6 [0, 1, 4, 5, 6, 7, 8, 9, 19, 29] hX mixed ?_ | refine aD ?_ | refine aA ?_ | refine aB ?_); (simp [go_sem]; try (refine ⟨by kernel_rfl, ?_⟩)))))
      refine aQ (fun z : Nat × List Int × Int => ⟨mkE [(0, il a), (1, il b), (5, .ow 0), (6, ii i), (7, ii z.2.2), (8, ii z.1)], [rowI z.2.1]⟩)
        (fun z => z.1 ≤ b.length + 1 ∧ okD z.2.1 ∧ z.2.1.length = N ∧ 0 ≤ z.2.2 ∧ z.2.2 < 1048576 ∧ (z.1 = b.length + 1 → z.2.2 = 0) ∧ (z.1 ≤ b.length → dgt z.2.1 (i + b.length) = 0) ∧ val z.2.1 + 1048576 ^ (i + z.1) * z.2.2 = val o + 1048576 ^ i * (x * val (b.take z.1))) (fun z => b.length + 1 - z.1) (0, o, 0) ?_ ?_ ?_
      · refine aL _ [.old 0 ⟨3, 1, o.map ii⟩] (by simp [go_sem]) ?_
        simp [go_sem]
      · exact ⟨by simp, h2, h3, by simp, by simp, by simp, fun _ => hz, by simp [val]⟩
      · rintro ⟨k, p, c⟩ ⟨g1, g2, g3, g4, g5, g6, g7, g8⟩
        simp only [] at g1 g2 g3 g4 g5 g6 g7 g8
        (repeat (first | refine aC ?_ | refine a7 ?_ | ((first | refine a8 [0, 1, 4, 5, 6, 7, 8, 9, 19, 29] hX ?_ | refine a6 [0, 1, 4, 5, 6, 7, 8, 9, 19, 29] hX mixed ?_ | refine aD ?_ | refine aA ?_ | refine aB ?_); (simp [go_sem]; try (refine ⟨by kernel_rfl, ?_⟩)))))
        refine aG (b := decide (k < b.length) || decide (0 < c)) (by simp [go_sem]) (fun hd => ?_) (fun hd => ?_)
        · have hd' : k < b.length ∨ 0 < c := by simpa using hd
          have hk : k ≤ b.length := by
            rcases hd' with h | h
            · omega
            · rcases Nat.lt_or_ge b.length k with q | q
              · have := g6 (by omega); omega
              · exact q
          obtain ⟨j, hj⟩ : ∃ j, i + k = j := ⟨_, rfl⟩
          have hj' : (i : Int) + k = j := by omega
          have hjl : j < p.length := by omega
          have hpj := b7 g2 hjl
          have hb1 := fB hb k
          have hbk := hO b k
          have hpu := fun v => n5 p j v hjl
          have hmb := eY hx hb1
          have hb0 : k = b.length → dgt b k = 0 ∧ p[j] = 0 := fun h => ⟨fA (by omega), by have := g7 hk; rw [show i + b.length = j by omega, eA hjl] at this; exact this⟩
          obtain ⟨y, hy⟩ : ∃ y, dgt b k = y := ⟨_, rfl⟩
          obtain ⟨w, hw⟩ : ∃ w, p[j] = w := ⟨_, rfl⟩
          obtain ⟨xy, hxy⟩ : ∃ xy, x * y = xy := ⟨_, rfl⟩
          rw [hy] at hb1 hbk hmb hb0
          rw [hw] at hpj hb0
          rw [hxy] at hmb
          simp only [hw] at hpu
          obtain ⟨n, hn⟩ : ∃ n, w + xy + c = n := ⟨_, rfl⟩
          obtain ⟨r, hr⟩ : ∃ r, n % 1048576 = r := ⟨_, rfl⟩
          obtain ⟨q, hq⟩ : ∃ q, n / 1048576 = q := ⟨_, rfl⟩
          have hm : n.tmod 1048576 = r := by rw [← hr]; exact Int.tmod_eq_emod_of_nonneg (by omega)
          have hdv : n.tdiv 1048576 = q := by rw [← hq]; exact Int.tdiv_eq_ediv_of_nonneg (by omega)
          have w1 := w64 (x := xy) (by omega) (by omega)
          have w2 := w64 (x := w + xy) (by omega) (by omega)
          have w3 := w64 (x := n) (by omega) (by omega)
          have w4 := w64 (x := (j : Int)) (by omega) (by omega)
          have w5 := w64 (x := r) (by omega) (by omega)
          have w6 := w64 (x := q) (by omega) (by omega)
          have w7 := w64 (x := (k : Int) + 1) (by omega) (by omega)
          (repeat (first | refine aC ?_ | refine a7 ?_ | ((first | refine a8 [0, 1, 4, 5, 6, 7, 8, 9, 19, 29] hX ?_ | refine a6 [0, 1, 4, 5, 6, 7, 8, 9, 19, 29] hX mixed ?_ | refine aD ?_ | refine aA ?_ | refine aB ?_); (simp [go_sem, hj', w4, hjl, hw, hc, hxe]; try (refine ⟨by kernel_rfl, ?_⟩)))))
          first | refine aE (bD b (by omega) k (by omega)) rfl (by simp [go_sem]) rfl ?_ | refine aF (bD b (by omega) k (by omega)) rfl (by simp [go_sem]) rfl ?_
          try (simp [go_sem, hy, hxy, w1, w2, hn, w3]; try (refine ⟨by kernel_rfl, ?_⟩))
          (repeat (first | refine aC ?_ | refine a7 ?_ | ((first | refine a8 [0, 1, 4, 5, 6, 7, 8, 9, 19, 29] hX ?_ | refine a6 [0, 1, 4, 5, 6, 7, 8, 9, 19, 29] hX mixed ?_ | refine aD ?_ | refine aA ?_ | refine aB ?_); (simp [go_sem, hj', w4, hjl, hw, hc, hxe, hy, hxy, w1, w2, hn, w3, hm, hdv, w5, w6, w7]; try (refine ⟨by kernel_rfl, ?_⟩)))))
          have hxy0 : y = 0 → xy = 0 := fun h => by rw [← hxy, h, Int.mul_zero]
          refine ⟨k + 1, p.set j r, q, ⟨by omega, dY g2 j ⟨by omega, by omega⟩, by simpa using g3, by omega, by omega, fun h => ?_, fun h => ?_, ?_⟩, by omega, ?_⟩
          · have := hb0 (by omega)
            have := hxy0 this.1
            omega
          · have := g7 hk
            unfold dgt at this ⊢
            rw [List.getD_eq_getElem?_getD, List.getElem?_set_ne (by omega), ← List.getD_eq_getElem?_getD]
            exact this
          · rw [hpu r, hbk, show i + (k + 1) = j + 1 by omega, Int.pow_succ]
            have e1 : (1048576 : Int) ^ j * 1048576 * q = 1048576 ^ j * (1048576 * q) := by rw [Int.mul_assoc]
            have e2 : (1048576 : Int) ^ i * (x * (val (b.take k) + 1048576 ^ k * y)) = 1048576 ^ i * (x * val (b.take k)) + 1048576 ^ j * xy := by
              rw [Int.mul_add x, Int.mul_add, ← hj, Int.pow_add, ← hxy, Int.mul_assoc (1048576 ^ i), Int.mul_left_comm x]
            rw [hj] at g8
            rw [e1, e2, ← Int.add_assoc, ← g8, Int.add_assoc, ← Int.mul_add, Int.add_assoc, ← Int.mul_add]
            congr 2; omega
          · refine aL _ [.old 0 ⟨3, 1, (p.set j r).map ii⟩] (by simp [go_sem]) ?_
            simp [go_sem]
            try omega
        · have hd' : ¬ k < b.length ∧ ¬ 0 < c := by simp at hd; omega
          have e0 : b.take k = b := List.take_of_length_le (by omega)
          have ec : c = 0 := by omega
          rw [e0, ec, Int.mul_zero, Int.add_zero] at g8
          have hwi := w64 (x := (i : Int) + 1) (by omega) (by omega)
          (repeat (first | refine aC ?_ | refine a7 ?_ | ((first | refine a8 [0, 1, 4, 5, 6, 7, 8, 9, 19, 29] hX ?_ | refine a6 [0, 1, 4, 5, 6, 7, 8, 9, 19, 29] hX mixed ?_ | refine aD ?_ | refine aA ?_ | refine aB ?_); (simp [go_sem, hwi]; try (refine ⟨by kernel_rfl, ?_⟩)))))
          refine ⟨i + 1, p, ⟨by omega, g2, g3, ?_⟩, by omega, ?_⟩
          · rw [g8, hai, h4, Int.add_mul, Int.mul_assoc]
          · refine aL _ [.old 0 ⟨3, 1, p.map ii⟩] (by simp [go_sem]) ?_
            simp [go_sem]
    · have e : a.take i = a := List.take_of_length_le (by simp at hc; omega)
      rw [e] at h4
      rw [← h4]
      (repeat (first | refine aC ?_ | refine a7 ?_ | ((first | refine a8 [0, 1, 4, 5, 6, 7, 8, 9, 19, 29] hX ?_ | refine a6 [0, 1, 4, 5, 6, 7, 8, 9, 19, 29] hX mixed ?_ | refine aD ?_ | refine aA ?_ | refine aB ?_); (simp [go_sem]; try (refine ⟨by kernel_rfl, ?_⟩)))))
      first | refine aE (bX o (by omega) h2) rfl (by simp [go_sem]) rfl ?_ | refine aF (bX o (by omega) h2) rfl (by simp [go_sem]) rfl ?_
      try (simp [go_sem]; try (refine ⟨by kernel_rfl, ?_⟩))
      (repeat (first | refine aC ?_ | refine a7 ?_ | ((first | refine a8 [0, 1, 4, 5, 6, 7, 8, 9, 19, 29] hX ?_ | refine a6 [0, 1, 4, 5, 6, 7, 8, 9, 19, 29] hX mixed ?_ | refine aD ?_ | refine aA ?_ | refine aB ?_); (simp [go_sem]; try (refine ⟨by kernel_rfl, ?_⟩)))))
end Go.Proofs.YtebinaffldlihaaGreatDoor
