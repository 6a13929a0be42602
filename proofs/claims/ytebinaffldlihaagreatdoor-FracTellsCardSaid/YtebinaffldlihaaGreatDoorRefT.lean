import Derived.Test.YtebinaffldlihaaGreatDoorRefF
set_option linter.all false
namespace Go.Proofs.YtebinaffldlihaaGreatDoor
open Go.RowKit Go.Ab
attribute [local irreducible] AWP Go.Ab.Sub Means MeansH CallK CallG CallT CallGT CallU
theorem nJ (L : List Int) (hl : L.length ≤ 100000) (ho : okD L) : MeansH Tryz.prog 73 [rowI L] [.ow 0] (.ow 1) [rowI L, rowI (dg (val L))] := by
  refine dI 1 23 [.tmp 2] Tryz.func73 rfl rfl rfl (by simp) (by decide) rfl fun X hX => ?_
  (repeat (first | refine aC ?_ | refine a7 ?_ | ((first | refine a8 [0, 2, 3, 15, 1000000] hX ?_ | refine a6 [0, 2, 3, 15, 1000000] hX mixed ?_ | refine aA ?_ | refine aB ?_); (simp [go_sem]; try (refine ⟨by kernel_rfl, ?_⟩)))))
  refine aQ (fun n : Nat => ⟨mkE [(0, .ow 0), (3, ii n), (1000000, .ow 0)], [rowI L]⟩) (fun n => n ≤ L.length ∧ zeroFrom L n) (fun n => n) L.length ?_ ?_ ?_
  · refine aL _ [.old 0 ⟨3, 1, L.map ii⟩] (by simp [go_sem]) ?_
    simp [go_sem]
  · exact ⟨Nat.le_refl _, fun j h h2 => by omega⟩
  · rintro n ⟨hn, hz⟩
    cases n with
    | zero =>
      have hz0 : dg (val L) = [] := by rw [dW ho hn hz (.inl rfl)]; rfl
      rw [hz0]
      clear ho hz hz0
      cases L with
      | nil =>
        (repeat (first | refine aC ?_ | refine a7 ?_ | ((first | refine a8 [0, 2, 3, 15, 1000000] hX ?_ | refine a6 [0, 2, 3, 15, 1000000] hX mixed ?_ | refine aA ?_ | refine aB ?_); (simp [go_sem]; try (refine ⟨by kernel_rfl, ?_⟩)))))
        refine aG (b := false) (by simp [go_sem]) (fun hb => by cases hb) (fun _ => ?_)
        (repeat (first | refine aC ?_ | refine a7 ?_ | ((first | refine a8 [0, 2, 3, 15, 1000000] hX ?_ | refine a6 [0, 2, 3, 15, 1000000] hX mixed ?_ | refine aA ?_ | refine aB ?_); (simp [go_sem]; try (refine ⟨by kernel_rfl, ?_⟩)))))
        try (repeat refine And.intro (by first | omega | (unfold maxLen; omega) | kernel_rfl | (refine ⟨by first | omega | (unfold maxLen; omega), by first | omega | (unfold maxLen; omega)⟩) | grind) ?_)
        try (repeat (first | refine aC ?_ | refine a7 ?_ | ((first | refine a8 [0, 2, 3, 15, 1000000] hX ?_ | refine a6 [0, 2, 3, 15, 1000000] hX mixed ?_ | refine aA ?_ | refine aB ?_); (simp [go_sem]; try (refine ⟨by kernel_rfl, ?_⟩)))))
        refine aD ?_; (try simp only [thenQ, blkQ, loopQ]); refine bY [(2, .ow 1), (1000000, .ow 0)] [.old 0 ⟨3, 1, ([] : List Int).map ii⟩, .old 2 ⟨3, 1, ([] : List Int).map ii⟩] ?_
        simp [go_sem]
      | cons x xs =>
        (repeat (first | refine aC ?_ | refine a7 ?_ | ((first | refine a8 [0, 2, 3, 15, 1000000] hX ?_ | refine a6 [0, 2, 3, 15, 1000000] hX mixed ?_ | refine aA ?_ | refine aB ?_); (simp [go_sem, eC]; try (refine ⟨by kernel_rfl, ?_⟩)))))
        refine aG (b := false) (by simp [go_sem]) (fun hb => by cases hb) (fun _ => ?_)
        (repeat (first | refine aC ?_ | refine a7 ?_ | ((first | refine a8 [0, 2, 3, 15, 1000000] hX ?_ | refine a6 [0, 2, 3, 15, 1000000] hX mixed ?_ | refine aA ?_ | refine aB ?_); (simp [go_sem]; try (refine ⟨by kernel_rfl, ?_⟩)))))
        try (repeat refine And.intro (by first | omega | (unfold maxLen; omega) | kernel_rfl | (refine ⟨by first | omega | (unfold maxLen; omega), by first | omega | (unfold maxLen; omega)⟩) | grind) ?_)
        try (repeat (first | refine aC ?_ | refine a7 ?_ | ((first | refine a8 [0, 2, 3, 15, 1000000] hX ?_ | refine a6 [0, 2, 3, 15, 1000000] hX mixed ?_ | refine aA ?_ | refine aB ?_); (simp [go_sem]; try (refine ⟨by kernel_rfl, ?_⟩)))))
        refine aD ?_; (try simp only [thenQ, blkQ, loopQ]); refine bY [(2, .ow 1), (1000000, .ow 0)] [.old 0 ⟨3, 1, (x :: xs).map ii⟩, .old 2 ⟨3, 1, ([] : List Int).map ii⟩] ?_
        simp [go_sem]
    | succ n =>
      have h1 : n < L.length := by omega
      (repeat (first | refine aC ?_ | refine a7 ?_ | ((first | refine a8 [0, 2, 3, 15, 1000000] hX ?_ | refine a6 [0, 2, 3, 15, 1000000] hX mixed ?_ | refine aA ?_ | refine aB ?_); (simp [go_sem]; (try simp (disch := omega) only [w64, td, tm]); try (refine ⟨by kernel_rfl, ?_⟩)))))
      (repeat refine And.intro (by first | omega | (unfold maxLen; omega) | kernel_rfl | (refine ⟨by first | omega | (unfold maxLen; omega), by first | omega | (unfold maxLen; omega)⟩) | grind) ?_)
      try (simp [go_sem, h1]; try (refine ⟨by kernel_rfl, ?_⟩))
      refine aG (b := decide (L[n] = 0)) (by simp [go_sem, h1]; try omega) (fun hb => ?_) (fun hb => ?_)
      · simp at hb
        (repeat (first | refine aC ?_ | refine a7 ?_ | ((first | refine a8 [0, 2, 3, 15, 1000000] hX ?_ | refine a6 [0, 2, 3, 15, 1000000] hX mixed ?_ | refine aA ?_ | refine aB ?_); (simp [go_sem]; (try simp (disch := omega) only [w64, td, tm]); try (refine ⟨by kernel_rfl, ?_⟩)))))
        refine ⟨n, ⟨by omega, j7 hz h1 hb⟩, by omega, ?_⟩
        refine aL _ [.old 0 ⟨3, 1, L.map ii⟩] (by simp [go_sem]) ?_
        simp [go_sem]
      · simp at hb
        rw [dW ho hn hz (.inr ⟨h1, hb⟩)]
        (repeat (first | refine aC ?_ | refine a7 ?_ | ((first | refine a8 [0, 2, 3, 15, 1000000] hX ?_ | refine a6 [0, 2, 3, 15, 1000000] hX mixed ?_ | refine aA ?_ | refine aB ?_); (simp [go_sem]; try (refine ⟨by kernel_rfl, ?_⟩)))))
        try (repeat refine And.intro (by first | omega | (unfold maxLen; omega) | kernel_rfl | (refine ⟨by first | omega | (unfold maxLen; omega), by first | omega | (unfold maxLen; omega)⟩) | grind) ?_)
        try (simp [go_sem]; try (refine ⟨by kernel_rfl, ?_⟩))
        refine ⟨⟨by omega, ⟨by omega, by unfold maxLen; omega⟩, fun a ha => ?_⟩, ?_⟩
        · obtain ⟨x, _, rfl⟩ := List.mem_map.1 (List.mem_of_mem_take ha)
          exact ⟨rfl, rfl⟩
        rw [← List.map_take]
        refine aD ?_; (try simp only [thenQ, blkQ, loopQ]); refine bY [(2, .ow 1), (1000000, .ow 0)] [.old 0 ⟨3, 1, L.map ii⟩, .old 2 ⟨3, 1, (L.take (n + 1)).map ii⟩] ?_
        simp [go_sem]
set_option maxHeartbeats 8000000 in
set_option maxRecDepth 20000 in
theorem tI (a b : List Int) (hla : a.length ≤ 1000) (hlb : b.length ≤ 1000) (ha : okD a) (hb : okD b) : Means true Tryz.prog 63 [il a, il b] (il (dg (val a * val b))) := by
  obtain ⟨N, hN⟩ : ∃ N, a.length + b.length = N := ⟨_, rfl⟩
  have hNi : (a.length : Int) + b.length = N := by omega
  have hwN := w64 (x := (N : Int)) (by omega) (by omega)
  refine aK true 60 [.tmp 4] Tryz.func63 rfl rfl rfl (by simp) (by decide) rfl fun X hX => ?_
  (repeat (first | refine aC ?_ | refine a7 ?_ | ((first | refine a8 [0, 1, 4, 5, 6, 7, 8, 9, 19, 29] hX ?_ | refine a6 [0, 1, 4, 5, 6, 7, 8, 9, 19, 29] hX mixed ?_ | refine aD ?_ | refine aA ?_ | refine aB ?_); (simp [go_sem, hNi, hwN]; try (refine ⟨by kernel_rfl, ?_⟩)))))
  (repeat refine And.intro (by first | omega | (unfold maxLen; omega) | kernel_rfl | (refine ⟨by first | omega | (unfold maxLen; omega), by first | omega | (unfold maxLen; omega)⟩) | grind) ?_)
  (repeat (first | refine aC ?_ | refine a7 ?_ | ((first | refine a8 [0, 1, 4, 5, 6, 7, 8, 9, 19, 29] hX ?_ | refine a6 [0, 1, 4, 5, 6, 7, 8, 9, 19, 29] hX mixed ?_ | refine aD ?_ | refine aA ?_ | refine aB ?_); (simp [go_sem]; try (refine ⟨by kernel_rfl, ?_⟩)))))
  refine aQ (fun x : Nat × List Int => ⟨mkE [(0, il a), (1, il b), (5, .ow 0), (6, ii x.1)], [rowI x.2]⟩) (fun x => x.1 ≤ a.length ∧ okD x.2 ∧ x.2.length = N ∧ val x.2 = val (a.take x.1) * val b) (fun x => a.length - x.1) (0, List.replicate N 0) ?_ ?_ ?_
  · refine aL _ [.old 0 ⟨3, 1, (List.replicate N (0 : Int)).map ii⟩] (by simp [go_sem, List.map_replicate]) ?_
    simp [go_sem, List.map_replicate]
  · exact ⟨by simp, cB N, by simp, by rw [dH]; simp [val]⟩
  · rintro ⟨i, o⟩ ⟨h1, h2, h3, h4⟩
    simp only [] at h1 h2 h3 h4
    (repeat (first | refine aC ?_ | refine a7 ?_ | ((first | refine a8 [0, 1, 4, 5, 6, 7, 8, 9, 19, 29] hX ?_ | refine a6 [0, 1, 4, 5, 6, 7, 8, 9, 19, 29] hX mixed ?_ | refine aD ?_ | refine aA ?_ | refine aB ?_); (simp [go_sem]; try (refine ⟨by kernel_rfl, ?_⟩)))))
    refine aG (b := decide (i < a.length)) (by simp [go_sem]) (fun hc => ?_) (fun hc => ?_)
    · simp at hc
      have hx := b7 ha hc
      have hai := hO a i
      rw [eA hc] at hai
      have hob : val o < 1048576 ^ (i + b.length) := by
        have a1 := d7 ha i
        have b1 := c7 hb
        have b0 := aT hb
        rw [h4, Int.pow_add]
        have e1 : val (a.take i) * val b ≤ val (a.take i) * 1048576 ^ b.length := Int.mul_le_mul_of_nonneg_left (by omega) a1.1
        have e2 : val (a.take i) * 1048576 ^ b.length < 1048576 ^ i * 1048576 ^ b.length := Int.mul_lt_mul_of_pos_right a1.2 (bE _)
        omega
      have hz := oK h2 hob
      obtain ⟨x, hxe⟩ : ∃ x, a[i] = x := ⟨_, rfl⟩
      rw [hxe] at hx hai
      (repeat (first | refine aC ?_ | refine a7 ?_ | ((first | refine a8 [0, 1, 4, 5, 6, 7, 8, 9, 19, 29] hX ?_ | refine a6 [0, 1, 4, 5, 6, 7, 8, 9, 19, 29] hX mixed ?_ | refine aD ?_ | refine aA ?_ | refine aB ?_); (simp [go_sem]; try (refine ⟨by kernel_rfl, ?_⟩)))))
      refine aQ (fun z : Nat × List Int × Int => ⟨mkE [(0, il a), (1, il b), (5, .ow 0), (6, ii i), (7, ii z.2.2), (8, ii z.1)], [rowI z.2.1]⟩)
        (fun z => z.1 ≤ b.length + 1 ∧ okD z.2.1 ∧ z.2.1.length = N ∧ 0 ≤ z.2.2 ∧ z.2.2 < 1048576 ∧ (z.1 = b.length + 1 → z.2.2 = 0) ∧ (z.1 ≤ b.length → dgt z.2.1 (i + b.length) = 0) ∧ val z.2.1 + 1048576 ^ (i + z.1) * z.2.2 = val o + 1048576 ^ i * (x * val (b.take z.1))) (fun z => b.length + 1 - z.1) (0, o, 0) ?_ ?_ ?_
      · refine aL _ [.old 0 ⟨3, 1, o.map ii⟩] (by simp [go_sem]) ?_
        simp [go_sem]
      · exact ⟨by simp, h2, h3, by simp, by simp, by simp, fun _ => hz, by simp [val]⟩
      · rintro ⟨k, p, c⟩ ⟨g1, g2, g3, g4, g5, g6, g7, g8⟩
        simp only [] at g1 g2 g3 g4 g5 g6 g7 g8
        (repeat (first | refine aC ?_ | refine a7 ?_ | ((first | refine a8 [0, 1, 4, 5, 6, 7, 8, 9, 19, 29] hX ?_ | refine a6 [0, 1, 4, 5, 6, 7, 8, 9, 19, 29] hX mixed ?_ | refine aD ?_ | refine aA ?_ | refine aB ?_); (simp [go_sem]; try (refine ⟨by kernel_rfl, ?_⟩)))))
        refine aG (b := decide (k < b.length) || decide (0 < c)) (by simp [go_sem]) (fun hd => ?_) (fun hd => ?_)
        · have hd' : k < b.length ∨ 0 < c := by simpa using hd
          have hk : k ≤ b.length := by
            rcases hd' with h | h
            · omega
            · rcases Nat.lt_or_ge b.length k with q | q
              · have := g6 (by omega); omega
              · exact q
          obtain ⟨j, hj⟩ : ∃ j, i + k = j := ⟨_, rfl⟩
          have hj' : (i : Int) + k = j := by omega
          have hjl : j < p.length := by omega
          have hpj := b7 g2 hjl
          have hb1 := fB hb k
          have hbk := hO b k
          have hpu := fun v => n5 p j v hjl
          have hmb := eY hx hb1
          have hb0 : k = b.length → dgt b k = 0 ∧ p[j] = 0 := fun h => ⟨fA (by omega), by have := g7 hk; rw [show i + b.length = j by omega, eA hjl] at this; exact this⟩
          obtain ⟨y, hy⟩ : ∃ y, dgt b k = y := ⟨_, rfl⟩
          obtain ⟨w, hw⟩ : ∃ w, p[j] = w := ⟨_, rfl⟩
          obtain ⟨xy, hxy⟩ : ∃ xy, x * y = xy := ⟨_, rfl⟩
          rw [hy] at hb1 hbk hmb hb0
          rw [hw] at hpj hb0
          rw [hxy] at hmb
          simp only [hw] at hpu
          obtain ⟨n, hn⟩ : ∃ n, w + xy + c = n := ⟨_, rfl⟩
          obtain ⟨r, hr⟩ : ∃ r, n % 1048576 = r := ⟨_, rfl⟩
          obtain ⟨q, hq⟩ : ∃ q, n / 1048576 = q := ⟨_, rfl⟩
          have hm : n.tmod 1048576 = r := by rw [← hr]; exact Int.tmod_eq_emod_of_nonneg (by omega)
          have hdv : n.tdiv 1048576 = q := by rw [← hq]; exact Int.tdiv_eq_ediv_of_nonneg (by omega)
          have w1 := w64 (x := xy) (by omega) (by omega)
          have w2 := w64 (x := w + xy) (by omega) (by omega)
          have w3 := w64 (x := n) (by omega) (by omega)
          have w4 := w64 (x := (j : Int)) (by omega) (by omega)
          have w5 := w64 (x := r) (by omega) (by omega)
          have w6 := w64 (x := q) (by omega) (by omega)
          have w7 := w64 (x := (k : Int) + 1) (by omega) (by omega)
          (repeat (first | refine aC ?_ | refine a7 ?_ | ((first | refine a8 [0, 1, 4, 5, 6, 7, 8, 9, 19, 29] hX ?_ | refine a6 [0, 1, 4, 5, 6, 7, 8, 9, 19, 29] hX mixed ?_ | refine aD ?_ | refine aA ?_ | refine aB ?_); (simp [go_sem, hj', w4, hjl, hw, hc, hxe]; try (refine ⟨by kernel_rfl, ?_⟩)))))
          first | refine aE (bD b (by omega) k (by omega)) rfl (by simp [go_sem]) rfl ?_ | refine aF (bD b (by omega) k (by omega)) rfl (by simp [go_sem]) rfl ?_
          try (simp [go_sem, hy, hxy, w1, w2, hn, w3]; try (refine ⟨by kernel_rfl, ?_⟩))
          (repeat (first | refine aC ?_ | refine a7 ?_ | ((first | refine a8 [0, 1, 4, 5, 6, 7, 8, 9, 19, 29] hX ?_ | refine a6 [0, 1, 4, 5, 6, 7, 8, 9, 19, 29] hX mixed ?_ | refine aD ?_ | refine aA ?_ | refine aB ?_); (simp [go_sem, hj', w4, hjl, hw, hc, hxe, hy, hxy, w1, w2, hn, w3, hm, hdv, w5, w6, w7]; try (refine ⟨by kernel_rfl, ?_⟩)))))
          have hxy0 : y = 0 → xy = 0 := fun h => by rw [← hxy, h, Int.mul_zero]
          refine ⟨k + 1, p.set j r, q, ⟨by omega, dY g2 j ⟨by omega, by omega⟩, by simpa using g3, by omega, by omega, fun h => ?_, fun h => ?_, ?_⟩, by omega, ?_⟩
          · have := hb0 (by omega)
            have := hxy0 this.1
            omega
          · have := g7 hk
            unfold dgt at this ⊢
            rw [List.getD_eq_getElem?_getD, List.getElem?_set_ne (by omega), ← List.getD_eq_getElem?_getD]
            exact this
          · rw [hpu r, hbk, show i + (k + 1) = j + 1 by omega, Int.pow_succ]
            have e1 : (1048576 : Int) ^ j * 1048576 * q = 1048576 ^ j * (1048576 * q) := by rw [Int.mul_assoc]
            have e2 : (1048576 : Int) ^ i * (x * (val (b.take k) + 1048576 ^ k * y)) = 1048576 ^ i * (x * val (b.take k)) + 1048576 ^ j * xy := by
              rw [Int.mul_add x, Int.mul_add, ← hj, Int.pow_add, ← hxy, Int.mul_assoc (1048576 ^ i), Int.mul_left_comm x]
            rw [hj] at g8
            rw [e1, e2, ← Int.add_assoc, ← g8, Int.add_assoc, ← Int.mul_add, Int.add_assoc, ← Int.mul_add]
            congr 2; omega
          · refine aL _ [.old 0 ⟨3, 1, (p.set j r).map ii⟩] (by simp [go_sem]) ?_
            simp [go_sem]
            try omega
        · have hd' : ¬ k < b.length ∧ ¬ 0 < c := by simp at hd; omega
          have e0 : b.take k = b := List.take_of_length_le (by omega)
          have ec : c = 0 := by omega
          rw [e0, ec, Int.mul_zero, Int.add_zero] at g8
          have hwi := w64 (x := (i : Int) + 1) (by omega) (by omega)
          (repeat (first | refine aC ?_ | refine a7 ?_ | ((first | refine a8 [0, 1, 4, 5, 6, 7, 8, 9, 19, 29] hX ?_ | refine a6 [0, 1, 4, 5, 6, 7, 8, 9, 19, 29] hX mixed ?_ | refine aD ?_ | refine aA ?_ | refine aB ?_); (simp [go_sem, hwi]; try (refine ⟨by kernel_rfl, ?_⟩)))))
          refine ⟨i + 1, p, ⟨by omega, g2, g3, ?_⟩, by omega, ?_⟩
          · rw [g8, hai, h4, Int.add_mul, Int.mul_assoc]
          · refine aL _ [.old 0 ⟨3, 1, p.map ii⟩] (by simp [go_sem]) ?_
            simp [go_sem]
    · have e : a.take i = a := List.take_of_length_le (by simp at hc; omega)
      rw [e] at h4
      rw [← h4]
      (repeat (first | refine aC ?_ | refine a7 ?_ | ((first | refine a8 [0, 1, 4, 5, 6, 7, 8, 9, 19, 29] hX ?_ | refine a6 [0, 1, 4, 5, 6, 7, 8, 9, 19, 29] hX mixed ?_ | refine aD ?_ | refine aA ?_ | refine aB ?_); (simp [go_sem]; try (refine ⟨by kernel_rfl, ?_⟩)))))
      first | refine b9 [0] (nJ o (by omega) h2) (by simp [go_sem]) ?_ | refine b6 [0] (nJ o (by omega) h2) (by simp [go_sem]) ?_ | refine b4 [0] (nJ o (by omega) h2) (by simp [go_sem]) ?_
      try (simp [go_sem]; try (refine ⟨by kernel_rfl, ?_⟩))
      (repeat (first | refine aC ?_ | refine a7 ?_ | ((first | refine a8 [0, 1, 4, 5, 6, 7, 8, 9, 19, 29] hX ?_ | refine a6 [0, 1, 4, 5, 6, 7, 8, 9, 19, 29] hX mixed ?_ | refine aD ?_ | refine aA ?_ | refine aB ?_); (simp [go_sem]; try (refine ⟨by kernel_rfl, ?_⟩)))))
end Go.Proofs.YtebinaffldlihaaGreatDoor
